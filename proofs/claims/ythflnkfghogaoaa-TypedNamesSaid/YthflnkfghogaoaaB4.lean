/- Walks, written by a program: what each function of the translation hands back. -/
import Derived.KernelRfl
import Derived.Test.YthflnkfghogaoaaProg
import Derived.Test.YthflnkfghogaoaaB3
set_option linter.unusedVariables false
set_option linter.unusedSimpArgs false

namespace Go.Proofs.Ythflnkfghogaoaa
open Go.Gx Go.RowKit
attribute [local irreducible] wpList wpStill Code.wp Calls

theorem lists_ret {f : StF} {nv : Value} {inner : List XS} {B : Nat} {w : World} (hfv : XsRd w B f.vv f.vals) (hfo : XsRd w B f.ov f.on) (hfw : XsRd w B f.wv f.wh) (hfr : XsRd w B f.rv f.ord) (hfn : RdC w 0 B 13 nv inner.length (inner.flatMap cellsS)) (hB : B ≤ w.heap.size) : Ret Try.prog 41 #[(Value.agg #[(Value.int .i64 f.kind), (Value.string (bs f.tb)), (Value.string (bs f.nm)), f.cv, f.gv, f.vv, f.iv, (Value.string (bs f.join)), f.ov, f.wv, f.rv, (Value.bool f.desc), nv])] w (fun v' w' => Below w.heap.size w w' ∧ v' = .bool (listsOk f inner.length)) := by
 have hfvR := hfv.1
 have hfoR := hfo.1
 have hfwR := hfw.1
 have hfrR := hfr.1
 have hb := Below.refl w.heap.size w
 refine enter (N := 67) Try.func41 rfl rfl (by simp) fun a0 hN hd hA => ?_
 have s0 : a0.tmps.getD 0 undef = (Value.agg #[(Value.int .i64 f.kind), (Value.string (bs f.tb)), (Value.string (bs f.nm)), f.cv, f.gv, f.vv, f.iv, (Value.string (bs f.join)), f.ov, f.wv, f.rv, (Value.bool f.desc), nv]) := hA 0 (by simp)
 clear hA
 refine seq_any fun K1 hK1 => one_reg (op_box (cs := [(Value.int .i64 f.kind), (Value.string (bs f.tb)), (Value.string (bs f.nm)), f.cv, f.gv, f.vv, f.iv, (Value.string (bs f.join)), f.ov, f.wv, f.rv, (Value.bool f.desc), nv]) (ev_base hN rfl s0) rfl ?_)
 intro w2 b3 lo_b3 hi_b3 hB5 E4
 have z_w2 := E4.size
 have hfvR := hfvR.keep0 E4
 have hfo := hfo.keep0 E4
 have hfoR := hfoR.keep0 E4
 have hfwR := hfwR.keep0 E4
 have hfr := hfr.keep0 E4
 have hfrR := hfrR.keep0 E4
 have hfn := hfn.keep0 E4
 have hb := below_step0 hb E4 hb.size
 refine op_assign rfl ?_
 refine reg_nil (hK1 _ _ (seq_any fun K6 hK6 => one_reg (op_field fld45_9 (ev_hit hN rfl) (op_load1 (v := f.wv) one26 (ev_hit hN rfl) (hB5.cell rfl) (op_len_rd Try.underlying26 (ev_hit hN rfl) hfwR ?_)))))
 refine op_leq (ev_hit hN rfl) rfl (fun c8 => ?_) (fun c8 => ?_)
 ·
  refine op_assign (ev_hit hN rfl) (reg_nil (hK6 _ _ (seq_any fun K7 hK7 => ?_)))
  refine seq_any fun K8 hK8 => one_reg (op_field fld45_0 (ev_hit hN rfl) (op_load1 (v := (Value.int .i64 f.kind)) one3 (ev_hit hN rfl) (hB5.cell rfl) (reg_nil (hK8 _ _ (wp_block ?_)))))
  refine seq_any fun K9 hK9 => ?_
  refine one_reg (op_eql (ev_hit hN rfl) rfl (fun c12 => ?_) (fun c12 => ?_))
  ·
   refine op_assign (ev_hit hN rfl) (reg_nil (hK9 _ _ (wp_cond_true (ev_hit hN rfl) (seq_any fun K10 hK10 => ?_))))
   refine one_reg (op_assign rfl (reg_nil (hK10 _ _ (seq_any fun K11 hK11 => seq_any fun K12 hK12 => ?_))))
   refine one_reg (op_field fld45_7 (ev_hit hN rfl) (op_load1 (v := (Value.string (bs f.join))) one9 (ev_hit hN rfl) (hB5.cell rfl) (op_sneq (ev_hit hN rfl) rfl (fun c15 => ?_) (fun c15 => ?_))))
   ·
    refine reg_nil (hK12 _ _ (wp_cond_true (ev_hit hN rfl) ?_))
    refine one_reg (op_assign rfl (reg_nil (hK11 _ _ (seq_any fun K13 hK13 => one_reg (op_move (ev_hit hN rfl) ?_)))))
    refine op_move (ev_hit hN rfl) (g_true (j := 1) (dj := 17) (b := true) rfl rfl rfl (ev_hit hN rfl) (op_field fld45_10 (ev_hit hN rfl) (g_true (j := 1) (dj := 17) (b := true) rfl rfl rfl (ev_hit hN rfl) (op_load1 (v := f.rv) one26 (ev_hit hN rfl) (hB5.cell rfl) (g_true (j := 1) (dj := 17) (b := true) rfl rfl rfl (ev_hit hN rfl) (op_len_rd Try.underlying26 (ev_hit hN rfl) hfrR ?_))))))
    refine g_true (j := 1) (dj := 17) (b := true) rfl rfl rfl (ev_hit hN rfl) (op_leq (ev_hit hN rfl) rfl (fun c21 => ?_) (fun c21 => ?_))
    ·
     refine op_pick_t (ev_hit hN rfl) (ev_hit hN rfl) ?_
     refine op_move (ev_hit hN rfl) (g_true (j := 7) (dj := 23) (b := true) rfl rfl rfl (ev_hit hN rfl) (op_field fld45_8 (ev_hit hN rfl) (g_true (j := 7) (dj := 23) (b := true) rfl rfl rfl (ev_hit hN rfl) (op_load1 (v := f.ov) one26 (ev_hit hN rfl) (hB5.cell rfl) (g_true (j := 7) (dj := 23) (b := true) rfl rfl rfl (ev_hit hN rfl) (op_len_rd Try.underlying26 (ev_hit hN rfl) hfoR ?_))))))
     refine g_true (j := 7) (dj := 23) (b := true) rfl rfl rfl (ev_hit hN rfl) (op_move (ev_hit hN rfl) (g_true (j := 7) (dj := 23) (b := true) rfl rfl rfl (ev_hit hN rfl) (op_eql (ev_hit hN rfl) (ev_hit hN rfl) (fun c28 => ?_) (fun c28 => ?_))))
     ·
      refine op_pick_t (ev_hit hN rfl) (ev_hit hN rfl) ?_
      refine op_move (ev_hit hN rfl) (g_true (j := 14) (dj := 30) (b := true) rfl rfl rfl (ev_hit hN rfl) (op_field fld45_8 (ev_hit hN rfl) (g_true (j := 14) (dj := 30) (b := true) rfl rfl rfl (ev_hit hN rfl) (op_load1 (v := f.ov) one26 (ev_hit hN rfl) (hB5.cell rfl) (g_true (j := 14) (dj := 30) (b := true) rfl rfl rfl (ev_hit hN rfl) (op_fn (vs := [f.ov]) ok68 ⟨(ev_hit hN rfl), trivial⟩ (cols_ret (hfo.mono (by omega))) ?_))))))
      rintro _ w14 ⟨E15, rfl⟩
      have E15 := grown_of_below E15
      have z_w14 := E15.size
      have hfr := hfr.keep0 E15
      have hB5 := hB5.keep0 E15
      have hb := below_step0 hb E15 hb.size
      rcases Bool.eq_false_or_eq_true ((colsOk f.on)) with c33 | c33
      ·
       rw [c33]
       refine op_pick_t (ev_hit hN rfl) (ev_hit hN rfl) ?_
       refine op_move (ev_hit hN rfl) (g_true (j := 19) (dj := 35) (b := true) rfl rfl rfl (ev_hit hN rfl) (op_field fld45_10 (ev_hit hN rfl) (g_true (j := 19) (dj := 35) (b := true) rfl rfl rfl (ev_hit hN rfl) (op_load1 (v := f.rv) one26 (ev_hit hN rfl) (hB5.cell rfl) (g_true (j := 19) (dj := 35) (b := true) rfl rfl rfl (ev_hit hN rfl) (op_fn (vs := [f.rv]) ok68 ⟨(ev_hit hN rfl), trivial⟩ (cols_ret (hfr.mono (by omega))) ?_))))))
       rintro _ w16 ⟨E17, rfl⟩
       have E17 := grown_of_below E17
       have z_w16 := E17.size
       have hb := below_step0 hb E17 hb.size
       rcases Bool.eq_false_or_eq_true ((colsOk f.ord)) with c38 | c38
       ·
        rw [c38]
        refine op_pick_t (ev_hit hN rfl) (ev_hit hN rfl) ?_
        refine op_assign (ev_hit hN rfl) (reg_nil (hK13 _ _ (wp_ret (blk_ret (then_ret ( ?_))))))
        refine ret1 rfl hd (ev_hit hN rfl) ⟨_, rfl, ?_⟩
        have e8 : decide (f.wh.length ≤ 1) = true := decide_eq_true (by omega)
        have e21 : decide (f.ord.length ≤ 1) = true := decide_eq_true (by omega)
        have e28 : decide (f.on.length = if f.join = [] then 0 else 2) = true := decide_eq_true (by rw [if_neg c15]; omega)
        have e9 : listsOk f inner.length = true := by unfold listsOk; rw [if_pos c12]; (simp only [e8, e21, e28, c33, c38]) <;> rfl
        rw [e9]; exact ⟨hb, rfl⟩
       ·
        rw [c38]
        refine op_pick_t (ev_hit hN rfl) (ev_hit hN rfl) ?_
        refine op_assign (ev_hit hN rfl) (reg_nil (hK13 _ _ (wp_ret (blk_ret (then_ret ( ?_))))))
        refine ret1 rfl hd (ev_hit hN rfl) ⟨_, rfl, ?_⟩
        have e8 : decide (f.wh.length ≤ 1) = true := decide_eq_true (by omega)
        have e21 : decide (f.ord.length ≤ 1) = true := decide_eq_true (by omega)
        have e28 : decide (f.on.length = if f.join = [] then 0 else 2) = true := decide_eq_true (by rw [if_neg c15]; omega)
        have e9 : listsOk f inner.length = false := by unfold listsOk; rw [if_pos c12]; (simp only [e8, e21, e28, c33, c38]) <;> rfl
        rw [e9]; exact ⟨hb, rfl⟩
      ·
       rw [c33]
       refine op_pick_t (ev_hit hN rfl) (ev_hit hN rfl) ?_
       refine op_move (ev_hit hN rfl) (g_false (j := 19) (dj := 35) (b := true) rfl rfl rfl (ev_hit hN rfl) rfl rfl (g_false (j := 19) (dj := 35) (b := true) rfl rfl rfl (ev_hit hN rfl) rfl rfl (g_false (j := 19) (dj := 35) (b := true) rfl rfl rfl (ev_hit hN rfl) rfl rfl (op_pick_f (ev_hit hN rfl) rfl ?_))))
       refine op_assign (ev_hit hN rfl) (reg_nil (hK13 _ _ (wp_ret (blk_ret (then_ret ( ?_))))))
       refine ret1 rfl hd (ev_hit hN rfl) ⟨_, rfl, ?_⟩
       have e8 : decide (f.wh.length ≤ 1) = true := decide_eq_true (by omega)
       have e21 : decide (f.ord.length ≤ 1) = true := decide_eq_true (by omega)
       have e28 : decide (f.on.length = if f.join = [] then 0 else 2) = true := decide_eq_true (by rw [if_neg c15]; omega)
       have e9 : listsOk f inner.length = false := by unfold listsOk; rw [if_pos c12]; (simp only [e8, e21, e28, c33]) <;> rfl
       rw [e9]; exact ⟨hb, rfl⟩
     ·
      refine op_pick_t (ev_hit hN rfl) (ev_hit hN rfl) ?_
      refine op_move (ev_hit hN rfl) (g_false (j := 14) (dj := 30) (b := true) rfl rfl rfl (ev_hit hN rfl) rfl rfl (g_false (j := 14) (dj := 30) (b := true) rfl rfl rfl (ev_hit hN rfl) rfl rfl (g_false (j := 14) (dj := 30) (b := true) rfl rfl rfl (ev_hit hN rfl) rfl rfl (op_pick_f (ev_hit hN rfl) rfl ?_))))
      refine op_move (ev_hit hN rfl) (g_false (j := 19) (dj := 35) (b := true) rfl rfl rfl (ev_hit hN rfl) rfl rfl (g_false (j := 19) (dj := 35) (b := true) rfl rfl rfl (ev_hit hN rfl) rfl rfl (g_false (j := 19) (dj := 35) (b := true) rfl rfl rfl (ev_hit hN rfl) rfl rfl (op_pick_f (ev_hit hN rfl) rfl ?_))))
      refine op_assign (ev_hit hN rfl) (reg_nil (hK13 _ _ (wp_ret (blk_ret (then_ret ( ?_))))))
      refine ret1 rfl hd (ev_hit hN rfl) ⟨_, rfl, ?_⟩
      have e8 : decide (f.wh.length ≤ 1) = true := decide_eq_true (by omega)
      have e21 : decide (f.ord.length ≤ 1) = true := decide_eq_true (by omega)
      have e28 : decide (f.on.length = if f.join = [] then 0 else 2) = false := decide_eq_false (fun g => by rw [if_neg c15] at g; omega)
      have e9 : listsOk f inner.length = false := by unfold listsOk; rw [if_pos c12]; (simp only [e8, e21, e28]) <;> rfl
      rw [e9]; exact ⟨hb, rfl⟩
    ·
     refine op_pick_t (ev_hit hN rfl) (ev_hit hN rfl) ?_
     refine op_move (ev_hit hN rfl) (g_false (j := 7) (dj := 23) (b := true) rfl rfl rfl (ev_hit hN rfl) rfl rfl (g_false (j := 7) (dj := 23) (b := true) rfl rfl rfl (ev_hit hN rfl) rfl rfl (g_false (j := 7) (dj := 23) (b := true) rfl rfl rfl (ev_hit hN rfl) rfl rfl (g_false (j := 7) (dj := 23) (b := true) rfl rfl rfl (ev_hit hN rfl) rfl rfl (g_false (j := 7) (dj := 23) (b := true) rfl rfl rfl (ev_hit hN rfl) rfl rfl (op_pick_f (ev_hit hN rfl) rfl ?_))))))
     refine op_move (ev_hit hN rfl) (g_false (j := 14) (dj := 30) (b := true) rfl rfl rfl (ev_hit hN rfl) rfl rfl (g_false (j := 14) (dj := 30) (b := true) rfl rfl rfl (ev_hit hN rfl) rfl rfl (g_false (j := 14) (dj := 30) (b := true) rfl rfl rfl (ev_hit hN rfl) rfl rfl (op_pick_f (ev_hit hN rfl) rfl ?_))))
     refine op_move (ev_hit hN rfl) (g_false (j := 19) (dj := 35) (b := true) rfl rfl rfl (ev_hit hN rfl) rfl rfl (g_false (j := 19) (dj := 35) (b := true) rfl rfl rfl (ev_hit hN rfl) rfl rfl (g_false (j := 19) (dj := 35) (b := true) rfl rfl rfl (ev_hit hN rfl) rfl rfl (op_pick_f (ev_hit hN rfl) rfl ?_))))
     refine op_assign (ev_hit hN rfl) (reg_nil (hK13 _ _ (wp_ret (blk_ret (then_ret ( ?_))))))
     refine ret1 rfl hd (ev_hit hN rfl) ⟨_, rfl, ?_⟩
     have e8 : decide (f.wh.length ≤ 1) = true := decide_eq_true (by omega)
     have e21 : decide (f.ord.length ≤ 1) = false := decide_eq_false (by omega)
     have e9 : listsOk f inner.length = false := by unfold listsOk; rw [if_pos c12]; (simp only [e8, e21]) <;> rfl
     rw [e9]; exact ⟨hb, rfl⟩
   ·
    refine reg_nil ?_
    refine hK12 _ _ (wp_cond_false (ev_hit hN rfl) (wp_skip (hK11 _ _ (seq_any fun K18 hK18 => one_reg (op_move (ev_hit hN rfl) ?_)))))
    refine op_move (ev_hit hN rfl) (g_true (j := 1) (dj := 17) (b := true) rfl rfl rfl (ev_hit hN rfl) (op_field fld45_10 (ev_hit hN rfl) (g_true (j := 1) (dj := 17) (b := true) rfl rfl rfl (ev_hit hN rfl) (op_load1 (v := f.rv) one26 (ev_hit hN rfl) (hB5.cell rfl) (g_true (j := 1) (dj := 17) (b := true) rfl rfl rfl (ev_hit hN rfl) (op_len_rd Try.underlying26 (ev_hit hN rfl) hfrR ?_))))))
    refine g_true (j := 1) (dj := 17) (b := true) rfl rfl rfl (ev_hit hN rfl) (op_leq (ev_hit hN rfl) rfl (fun c21 => ?_) (fun c21 => ?_))
    ·
     refine op_pick_t (ev_hit hN rfl) (ev_hit hN rfl) ?_
     refine op_move (ev_hit hN rfl) (g_true (j := 7) (dj := 23) (b := true) rfl rfl rfl (ev_hit hN rfl) (op_field fld45_8 (ev_hit hN rfl) (g_true (j := 7) (dj := 23) (b := true) rfl rfl rfl (ev_hit hN rfl) (op_load1 (v := f.ov) one26 (ev_hit hN rfl) (hB5.cell rfl) (g_true (j := 7) (dj := 23) (b := true) rfl rfl rfl (ev_hit hN rfl) (op_len_rd Try.underlying26 (ev_hit hN rfl) hfoR ?_))))))
     refine g_true (j := 7) (dj := 23) (b := true) rfl rfl rfl (ev_hit hN rfl) (op_move (ev_hit hN rfl) (g_true (j := 7) (dj := 23) (b := true) rfl rfl rfl (ev_hit hN rfl) (op_eql (ev_hit hN rfl) (ev_hit hN rfl) (fun c28 => ?_) (fun c28 => ?_))))
     ·
      refine op_pick_t (ev_hit hN rfl) (ev_hit hN rfl) ?_
      refine op_move (ev_hit hN rfl) (g_true (j := 14) (dj := 30) (b := true) rfl rfl rfl (ev_hit hN rfl) (op_field fld45_8 (ev_hit hN rfl) (g_true (j := 14) (dj := 30) (b := true) rfl rfl rfl (ev_hit hN rfl) (op_load1 (v := f.ov) one26 (ev_hit hN rfl) (hB5.cell rfl) (g_true (j := 14) (dj := 30) (b := true) rfl rfl rfl (ev_hit hN rfl) (op_fn (vs := [f.ov]) ok68 ⟨(ev_hit hN rfl), trivial⟩ (cols_ret (hfo.mono (by omega))) ?_))))))
      rintro _ w19 ⟨E20, rfl⟩
      have E20 := grown_of_below E20
      have z_w19 := E20.size
      have hfr := hfr.keep0 E20
      have hB5 := hB5.keep0 E20
      have hb := below_step0 hb E20 hb.size
      rcases Bool.eq_false_or_eq_true ((colsOk f.on)) with c33 | c33
      ·
       rw [c33]
       refine op_pick_t (ev_hit hN rfl) (ev_hit hN rfl) ?_
       refine op_move (ev_hit hN rfl) (g_true (j := 19) (dj := 35) (b := true) rfl rfl rfl (ev_hit hN rfl) (op_field fld45_10 (ev_hit hN rfl) (g_true (j := 19) (dj := 35) (b := true) rfl rfl rfl (ev_hit hN rfl) (op_load1 (v := f.rv) one26 (ev_hit hN rfl) (hB5.cell rfl) (g_true (j := 19) (dj := 35) (b := true) rfl rfl rfl (ev_hit hN rfl) (op_fn (vs := [f.rv]) ok68 ⟨(ev_hit hN rfl), trivial⟩ (cols_ret (hfr.mono (by omega))) ?_))))))
       rintro _ w21 ⟨E22, rfl⟩
       have E22 := grown_of_below E22
       have z_w21 := E22.size
       have hb := below_step0 hb E22 hb.size
       rcases Bool.eq_false_or_eq_true ((colsOk f.ord)) with c38 | c38
       ·
        rw [c38]
        refine op_pick_t (ev_hit hN rfl) (ev_hit hN rfl) ?_
        refine op_assign (ev_hit hN rfl) (reg_nil (hK18 _ _ (wp_ret (blk_ret (then_ret ( ?_))))))
        refine ret1 rfl hd (ev_hit hN rfl) ⟨_, rfl, ?_⟩
        have e8 : decide (f.wh.length ≤ 1) = true := decide_eq_true (by omega)
        have e21 : decide (f.ord.length ≤ 1) = true := decide_eq_true (by omega)
        have e28 : decide (f.on.length = if f.join = [] then 0 else 2) = true := decide_eq_true (by rw [if_pos c15]; omega)
        have e9 : listsOk f inner.length = true := by unfold listsOk; rw [if_pos c12]; (simp only [e8, e21, e28, c33, c38]) <;> rfl
        rw [e9]; exact ⟨hb, rfl⟩
       ·
        rw [c38]
        refine op_pick_t (ev_hit hN rfl) (ev_hit hN rfl) ?_
        refine op_assign (ev_hit hN rfl) (reg_nil (hK18 _ _ (wp_ret (blk_ret (then_ret ( ?_))))))
        refine ret1 rfl hd (ev_hit hN rfl) ⟨_, rfl, ?_⟩
        have e8 : decide (f.wh.length ≤ 1) = true := decide_eq_true (by omega)
        have e21 : decide (f.ord.length ≤ 1) = true := decide_eq_true (by omega)
        have e28 : decide (f.on.length = if f.join = [] then 0 else 2) = true := decide_eq_true (by rw [if_pos c15]; omega)
        have e9 : listsOk f inner.length = false := by unfold listsOk; rw [if_pos c12]; (simp only [e8, e21, e28, c33, c38]) <;> rfl
        rw [e9]; exact ⟨hb, rfl⟩
      ·
       rw [c33]
       refine op_pick_t (ev_hit hN rfl) (ev_hit hN rfl) ?_
       refine op_move (ev_hit hN rfl) (g_false (j := 19) (dj := 35) (b := true) rfl rfl rfl (ev_hit hN rfl) rfl rfl (g_false (j := 19) (dj := 35) (b := true) rfl rfl rfl (ev_hit hN rfl) rfl rfl (g_false (j := 19) (dj := 35) (b := true) rfl rfl rfl (ev_hit hN rfl) rfl rfl (op_pick_f (ev_hit hN rfl) rfl ?_))))
       refine op_assign (ev_hit hN rfl) (reg_nil (hK18 _ _ (wp_ret (blk_ret (then_ret ( ?_))))))
       refine ret1 rfl hd (ev_hit hN rfl) ⟨_, rfl, ?_⟩
       have e8 : decide (f.wh.length ≤ 1) = true := decide_eq_true (by omega)
       have e21 : decide (f.ord.length ≤ 1) = true := decide_eq_true (by omega)
       have e28 : decide (f.on.length = if f.join = [] then 0 else 2) = true := decide_eq_true (by rw [if_pos c15]; omega)
       have e9 : listsOk f inner.length = false := by unfold listsOk; rw [if_pos c12]; (simp only [e8, e21, e28, c33]) <;> rfl
       rw [e9]; exact ⟨hb, rfl⟩
     ·
      refine op_pick_t (ev_hit hN rfl) (ev_hit hN rfl) ?_
      refine op_move (ev_hit hN rfl) (g_false (j := 14) (dj := 30) (b := true) rfl rfl rfl (ev_hit hN rfl) rfl rfl (g_false (j := 14) (dj := 30) (b := true) rfl rfl rfl (ev_hit hN rfl) rfl rfl (g_false (j := 14) (dj := 30) (b := true) rfl rfl rfl (ev_hit hN rfl) rfl rfl (op_pick_f (ev_hit hN rfl) rfl ?_))))
      refine op_move (ev_hit hN rfl) (g_false (j := 19) (dj := 35) (b := true) rfl rfl rfl (ev_hit hN rfl) rfl rfl (g_false (j := 19) (dj := 35) (b := true) rfl rfl rfl (ev_hit hN rfl) rfl rfl (g_false (j := 19) (dj := 35) (b := true) rfl rfl rfl (ev_hit hN rfl) rfl rfl (op_pick_f (ev_hit hN rfl) rfl ?_))))
      refine op_assign (ev_hit hN rfl) (reg_nil (hK18 _ _ (wp_ret (blk_ret (then_ret ( ?_))))))
      refine ret1 rfl hd (ev_hit hN rfl) ⟨_, rfl, ?_⟩
      have e8 : decide (f.wh.length ≤ 1) = true := decide_eq_true (by omega)
      have e21 : decide (f.ord.length ≤ 1) = true := decide_eq_true (by omega)
      have e28 : decide (f.on.length = if f.join = [] then 0 else 2) = false := decide_eq_false (fun g => by rw [if_pos c15] at g; omega)
      have e9 : listsOk f inner.length = false := by unfold listsOk; rw [if_pos c12]; (simp only [e8, e21, e28]) <;> rfl
      rw [e9]; exact ⟨hb, rfl⟩
    ·
     refine op_pick_t (ev_hit hN rfl) (ev_hit hN rfl) ?_
     refine op_move (ev_hit hN rfl) (g_false (j := 7) (dj := 23) (b := true) rfl rfl rfl (ev_hit hN rfl) rfl rfl (g_false (j := 7) (dj := 23) (b := true) rfl rfl rfl (ev_hit hN rfl) rfl rfl (g_false (j := 7) (dj := 23) (b := true) rfl rfl rfl (ev_hit hN rfl) rfl rfl (g_false (j := 7) (dj := 23) (b := true) rfl rfl rfl (ev_hit hN rfl) rfl rfl (g_false (j := 7) (dj := 23) (b := true) rfl rfl rfl (ev_hit hN rfl) rfl rfl (op_pick_f (ev_hit hN rfl) rfl ?_))))))
     refine op_move (ev_hit hN rfl) (g_false (j := 14) (dj := 30) (b := true) rfl rfl rfl (ev_hit hN rfl) rfl rfl (g_false (j := 14) (dj := 30) (b := true) rfl rfl rfl (ev_hit hN rfl) rfl rfl (g_false (j := 14) (dj := 30) (b := true) rfl rfl rfl (ev_hit hN rfl) rfl rfl (op_pick_f (ev_hit hN rfl) rfl ?_))))
     refine op_move (ev_hit hN rfl) (g_false (j := 19) (dj := 35) (b := true) rfl rfl rfl (ev_hit hN rfl) rfl rfl (g_false (j := 19) (dj := 35) (b := true) rfl rfl rfl (ev_hit hN rfl) rfl rfl (g_false (j := 19) (dj := 35) (b := true) rfl rfl rfl (ev_hit hN rfl) rfl rfl (op_pick_f (ev_hit hN rfl) rfl ?_))))
     refine op_assign (ev_hit hN rfl) (reg_nil (hK18 _ _ (wp_ret (blk_ret (then_ret ( ?_))))))
     refine ret1 rfl hd (ev_hit hN rfl) ⟨_, rfl, ?_⟩
     have e8 : decide (f.wh.length ≤ 1) = true := decide_eq_true (by omega)
     have e21 : decide (f.ord.length ≤ 1) = false := decide_eq_false (by omega)
     have e9 : listsOk f inner.length = false := by unfold listsOk; rw [if_pos c12]; (simp only [e8, e21]) <;> rfl
     rw [e9]; exact ⟨hb, rfl⟩
  ·
   refine op_assign (ev_hit hN rfl) (reg_nil (hK9 _ _ (wp_cond_false (ev_hit hN rfl) (seq_any fun K23 hK23 => ?_))))
   refine one_reg (op_eql (ev_hit hN rfl) rfl (fun c41 => ?_) (fun c41 => ?_))
   ·
    refine op_assign (ev_hit hN rfl) (reg_nil (hK23 _ _ (wp_cond_true (ev_hit hN rfl) (seq_any fun K24 hK24 => one_reg (op_move (ev_hit hN rfl) ?_)))))
    refine op_move (ev_hit hN rfl) (g_true (j := 1) (dj := 43) (b := true) rfl rfl rfl (ev_hit hN rfl) (op_field fld45_5 (ev_hit hN rfl) (g_true (j := 1) (dj := 43) (b := true) rfl rfl rfl (ev_hit hN rfl) (op_load1 (v := f.vv) one26 (ev_hit hN rfl) (hB5.cell rfl) (g_true (j := 1) (dj := 43) (b := true) rfl rfl rfl (ev_hit hN rfl) (op_len_rd Try.underlying26 (ev_hit hN rfl) hfvR ?_))))))
    refine g_true (j := 1) (dj := 43) (b := true) rfl rfl rfl (ev_hit hN rfl) (op_eql (ev_hit hN rfl) rfl (fun c47 => ?_) (fun c47 => ?_))
    ·
     refine op_pick_t (ev_hit hN rfl) (ev_hit hN rfl) ?_
     refine op_assign (ev_hit hN rfl) (reg_nil (hK24 _ _ (wp_ret (blk_ret (then_ret ( ?_))))))
     refine ret1 rfl hd (ev_hit hN rfl) ⟨_, rfl, ?_⟩
     have e8 : decide (f.wh.length ≤ 1) = true := decide_eq_true (by omega)
     have e47 : decide (f.vals.length = 1) = true := decide_eq_true (by omega)
     have e9 : listsOk f inner.length = true := by unfold listsOk; rw [if_neg c12, if_pos c41]; (simp only [e8, e47]) <;> rfl
     rw [e9]; exact ⟨hb, rfl⟩
    ·
     refine op_pick_t (ev_hit hN rfl) (ev_hit hN rfl) ?_
     refine op_assign (ev_hit hN rfl) (reg_nil (hK24 _ _ (wp_ret (blk_ret (then_ret ( ?_))))))
     refine ret1 rfl hd (ev_hit hN rfl) ⟨_, rfl, ?_⟩
     have e8 : decide (f.wh.length ≤ 1) = true := decide_eq_true (by omega)
     have e47 : decide (f.vals.length = 1) = false := decide_eq_false (by omega)
     have e9 : listsOk f inner.length = false := by unfold listsOk; rw [if_neg c12, if_pos c41]; (simp only [e8, e47]) <;> rfl
     rw [e9]; exact ⟨hb, rfl⟩
   ·
    refine op_assign (ev_hit hN rfl) (reg_nil (hK23 _ _ (wp_cond_false (ev_hit hN rfl) (seq_any fun K25 hK25 => ?_))))
    refine one_reg (op_eql (ev_hit hN rfl) rfl (fun c50 => ?_) (fun c50 => ?_))
    ·
     refine op_assign (ev_hit hN rfl) (reg_nil (hK25 _ _ (wp_cond_true (ev_hit hN rfl) ?_)))
     refine seq_any fun K26 hK26 => one_reg (op_move (ev_hit hN rfl) (op_assign (ev_hit hN rfl) (reg_nil (hK26 _ _ (wp_ret (blk_ret (then_ret ( ?_))))))))
     refine ret1 rfl hd (ev_hit hN rfl) ⟨_, rfl, ?_⟩
     have e8 : decide (f.wh.length ≤ 1) = true := decide_eq_true (by omega)
     have e9 : listsOk f inner.length = true := by unfold listsOk; rw [if_neg c12, if_neg c41, if_pos c50]; (simp only [e8]) <;> rfl
     rw [e9]; exact ⟨hb, rfl⟩
    ·
     refine op_assign (ev_hit hN rfl) (reg_nil (hK25 _ _ (wp_cond_false (ev_hit hN rfl) (seq_any fun K27 hK27 => seq_any fun K28 hK28 => ?_))))
     refine one_reg (op_eql (ev_hit hN rfl) rfl (fun c53 => ?_) (fun c53 => ?_))
     ·
      refine op_assign (ev_hit hN rfl) (reg_nil (hK28 _ _ (wp_cond_true (ev_hit hN rfl) (wp_skip ?_))))
      refine hK27 _ _ (wp_cond_true (ev_hit hN rfl) (seq_any fun K29 hK29 => one_reg (op_field fld45_12 (ev_hit hN rfl) (op_load1 (v := nv) one43 (ev_hit hN rfl) (hB5.cell rfl) (op_len_rd Try.underlying43 (ev_hit hN rfl) hfn ?_)))))
      refine op_eql (ev_hit hN rfl) rfl (fun c58 => ?_) (fun c58 => ?_)
      ·
       refine op_assign (ev_hit hN rfl) (reg_nil (hK29 _ _ (wp_ret (blk_ret (then_ret ( ?_))))))
       refine ret1 rfl hd (ev_hit hN rfl) ⟨_, rfl, ?_⟩
       have e8 : decide (f.wh.length ≤ 1) = true := decide_eq_true (by omega)
       have e58 : decide (inner.length = 1) = true := decide_eq_true (by omega)
       have e9 : listsOk f inner.length = true := by unfold listsOk; rw [if_neg c12, if_neg c41, if_neg c50, if_pos (.inl c53)]; (simp only [e8, e58]) <;> rfl
       rw [e9]; exact ⟨hb, rfl⟩
      ·
       refine op_assign (ev_hit hN rfl) (reg_nil (hK29 _ _ (wp_ret (blk_ret (then_ret ( ?_))))))
       refine ret1 rfl hd (ev_hit hN rfl) ⟨_, rfl, ?_⟩
       have e8 : decide (f.wh.length ≤ 1) = true := decide_eq_true (by omega)
       have e58 : decide (inner.length = 1) = false := decide_eq_false (by omega)
       have e9 : listsOk f inner.length = false := by unfold listsOk; rw [if_neg c12, if_neg c41, if_neg c50, if_pos (.inl c53)]; (simp only [e8, e58]) <;> rfl
       rw [e9]; exact ⟨hb, rfl⟩
     ·
      refine op_assign (ev_hit hN rfl) (reg_nil (hK28 _ _ (wp_cond_false (ev_hit hN rfl) (one_reg (op_eql (ev_hit hN rfl) rfl (fun c54 => ?_) (fun c54 => ?_))))))
      ·
       refine op_assign (ev_hit hN rfl) (reg_nil ?_)
       refine hK27 _ _ (wp_cond_true (ev_hit hN rfl) (seq_any fun K30 hK30 => one_reg (op_field fld45_12 (ev_hit hN rfl) (op_load1 (v := nv) one43 (ev_hit hN rfl) (hB5.cell rfl) (op_len_rd Try.underlying43 (ev_hit hN rfl) hfn ?_)))))
       refine op_eql (ev_hit hN rfl) rfl (fun c58 => ?_) (fun c58 => ?_)
       ·
        refine op_assign (ev_hit hN rfl) (reg_nil (hK30 _ _ (wp_ret (blk_ret (then_ret ( ?_))))))
        refine ret1 rfl hd (ev_hit hN rfl) ⟨_, rfl, ?_⟩
        have e8 : decide (f.wh.length ≤ 1) = true := decide_eq_true (by omega)
        have e58 : decide (inner.length = 1) = true := decide_eq_true (by omega)
        have e9 : listsOk f inner.length = true := by unfold listsOk; rw [if_neg c12, if_neg c41, if_neg c50, if_pos (.inr c54)]; (simp only [e8, e58]) <;> rfl
        rw [e9]; exact ⟨hb, rfl⟩
       ·
        refine op_assign (ev_hit hN rfl) (reg_nil (hK30 _ _ (wp_ret (blk_ret (then_ret ( ?_))))))
        refine ret1 rfl hd (ev_hit hN rfl) ⟨_, rfl, ?_⟩
        have e8 : decide (f.wh.length ≤ 1) = true := decide_eq_true (by omega)
        have e58 : decide (inner.length = 1) = false := decide_eq_false (by omega)
        have e9 : listsOk f inner.length = false := by unfold listsOk; rw [if_neg c12, if_neg c41, if_neg c50, if_pos (.inr c54)]; (simp only [e8, e58]) <;> rfl
        rw [e9]; exact ⟨hb, rfl⟩
      ·
       refine op_assign (ev_hit hN rfl) (reg_nil (hK27 _ _ (wp_cond_false (ev_hit hN rfl) (wp_skip (hK7 _ _ (seq_any fun K31 hK31 => ?_))))))
       refine one_reg (op_field fld45_0 (ev_hit hN rfl) (op_load1 (v := (Value.int .i64 f.kind)) one3 (ev_hit hN rfl) (hB5.cell rfl) (op_geq (ev_hit hN rfl) rfl (fun c61 => ?_) (fun c61 => ?_))))
       ·
        refine op_move (ev_hit hN rfl) (g_true (j := 3) (dj := 62) (b := true) rfl rfl rfl (ev_hit hN rfl) (op_field fld45_0 (ev_hit hN rfl) (g_true (j := 3) (dj := 62) (b := true) rfl rfl rfl (ev_hit hN rfl) (op_load1 (v := (Value.int .i64 f.kind)) one3 (ev_hit hN rfl) (hB5.cell rfl) (g_true (j := 3) (dj := 62) (b := true) rfl rfl rfl (ev_hit hN rfl) (op_leq (ev_hit hN rfl) rfl (fun c65 => ?_) (fun c65 => ?_)))))))
        ·
         refine op_pick_t (ev_hit hN rfl) (ev_hit hN rfl) ?_
         refine op_assign (ev_hit hN rfl) (reg_nil (hK31 _ _ (wp_ret ?_)))
         refine ret1 rfl hd (ev_hit hN rfl) ⟨_, rfl, ?_⟩
         have e8 : decide (f.wh.length ≤ 1) = true := decide_eq_true (by omega)
         have e61 : decide (1 ≤ f.kind) = true := decide_eq_true (by omega)
         have e65 : decide (f.kind ≤ 13) = true := decide_eq_true (by omega)
         have e9 : listsOk f inner.length = true := by unfold listsOk; rw [if_neg c12, if_neg c41, if_neg c50, if_neg (fun g => g.elim c53 c54)]; (simp only [e8, e61, e65]) <;> rfl
         rw [e9]; exact ⟨hb, rfl⟩
        ·
         refine op_pick_t (ev_hit hN rfl) (ev_hit hN rfl) ?_
         refine op_assign (ev_hit hN rfl) (reg_nil (hK31 _ _ (wp_ret ?_)))
         refine ret1 rfl hd (ev_hit hN rfl) ⟨_, rfl, ?_⟩
         have e8 : decide (f.wh.length ≤ 1) = true := decide_eq_true (by omega)
         have e61 : decide (1 ≤ f.kind) = true := decide_eq_true (by omega)
         have e65 : decide (f.kind ≤ 13) = false := decide_eq_false (by omega)
         have e9 : listsOk f inner.length = false := by unfold listsOk; rw [if_neg c12, if_neg c41, if_neg c50, if_neg (fun g => g.elim c53 c54)]; (simp only [e8, e61, e65]) <;> rfl
         rw [e9]; exact ⟨hb, rfl⟩
       ·
        refine op_move (ev_hit hN rfl) (g_false (j := 3) (dj := 62) (b := true) rfl rfl rfl (ev_hit hN rfl) rfl rfl (g_false (j := 3) (dj := 62) (b := true) rfl rfl rfl (ev_hit hN rfl) rfl rfl (g_false (j := 3) (dj := 62) (b := true) rfl rfl rfl (ev_hit hN rfl) rfl rfl (op_pick_f (ev_hit hN rfl) rfl ?_))))
        refine op_assign (ev_hit hN rfl) (reg_nil (hK31 _ _ (wp_ret ?_)))
        refine ret1 rfl hd (ev_hit hN rfl) ⟨_, rfl, ?_⟩
        have e8 : decide (f.wh.length ≤ 1) = true := decide_eq_true (by omega)
        have e61 : decide (1 ≤ f.kind) = false := decide_eq_false (by omega)
        have e9 : listsOk f inner.length = false := by unfold listsOk; rw [if_neg c12, if_neg c41, if_neg c50, if_neg (fun g => g.elim c53 c54)]; (simp only [e8, e61]) <;> rfl
        rw [e9]; exact ⟨hb, rfl⟩
 ·
  refine op_assign (ev_hit hN rfl) (reg_nil (hK6 _ _ (seq_any fun K32 hK32 => ?_)))
  refine seq_any fun K33 hK33 => one_reg (op_field fld45_0 (ev_hit hN rfl) (op_load1 (v := (Value.int .i64 f.kind)) one3 (ev_hit hN rfl) (hB5.cell rfl) (reg_nil (hK33 _ _ (wp_block ?_)))))
  refine seq_any fun K34 hK34 => ?_
  refine one_reg (op_eql (ev_hit hN rfl) rfl (fun c12 => ?_) (fun c12 => ?_))
  ·
   refine op_assign (ev_hit hN rfl) (reg_nil (hK34 _ _ (wp_cond_true (ev_hit hN rfl) (seq_any fun K35 hK35 => ?_))))
   refine one_reg (op_assign rfl (reg_nil (hK35 _ _ (seq_any fun K36 hK36 => seq_any fun K37 hK37 => ?_))))
   refine one_reg (op_field fld45_7 (ev_hit hN rfl) (op_load1 (v := (Value.string (bs f.join))) one9 (ev_hit hN rfl) (hB5.cell rfl) (op_sneq (ev_hit hN rfl) rfl (fun c15 => ?_) (fun c15 => ?_))))
   ·
    refine reg_nil (hK37 _ _ ?_)
    refine wp_cond_true (ev_hit hN rfl) (one_reg (op_assign rfl (reg_nil (hK36 _ _ (seq_any fun K38 hK38 => one_reg ?_)))))
    refine op_move (ev_hit hN rfl) (op_move (ev_hit hN rfl) (g_false (j := 1) (dj := 17) (b := true) rfl rfl rfl (ev_hit hN rfl) rfl rfl (g_false (j := 1) (dj := 17) (b := true) rfl rfl rfl (ev_hit hN rfl) rfl rfl (g_false (j := 1) (dj := 17) (b := true) rfl rfl rfl (ev_hit hN rfl) rfl rfl (g_false (j := 1) (dj := 17) (b := true) rfl rfl rfl (ev_hit hN rfl) rfl rfl (op_pick_f (ev_hit hN rfl) rfl ?_))))))
    refine op_move (ev_hit hN rfl) (g_false (j := 7) (dj := 23) (b := true) rfl rfl rfl (ev_hit hN rfl) rfl rfl (g_false (j := 7) (dj := 23) (b := true) rfl rfl rfl (ev_hit hN rfl) rfl rfl (g_false (j := 7) (dj := 23) (b := true) rfl rfl rfl (ev_hit hN rfl) rfl rfl (g_false (j := 7) (dj := 23) (b := true) rfl rfl rfl (ev_hit hN rfl) rfl rfl (g_false (j := 7) (dj := 23) (b := true) rfl rfl rfl (ev_hit hN rfl) rfl rfl (op_pick_f (ev_hit hN rfl) rfl ?_))))))
    refine op_move (ev_hit hN rfl) (g_false (j := 14) (dj := 30) (b := true) rfl rfl rfl (ev_hit hN rfl) rfl rfl (g_false (j := 14) (dj := 30) (b := true) rfl rfl rfl (ev_hit hN rfl) rfl rfl (g_false (j := 14) (dj := 30) (b := true) rfl rfl rfl (ev_hit hN rfl) rfl rfl (op_pick_f (ev_hit hN rfl) rfl ?_))))
    refine op_move (ev_hit hN rfl) (g_false (j := 19) (dj := 35) (b := true) rfl rfl rfl (ev_hit hN rfl) rfl rfl (g_false (j := 19) (dj := 35) (b := true) rfl rfl rfl (ev_hit hN rfl) rfl rfl (g_false (j := 19) (dj := 35) (b := true) rfl rfl rfl (ev_hit hN rfl) rfl rfl (op_pick_f (ev_hit hN rfl) rfl ?_))))
    refine op_assign (ev_hit hN rfl) (reg_nil (hK38 _ _ (wp_ret (blk_ret (then_ret ( ?_))))))
    refine ret1 rfl hd (ev_hit hN rfl) ⟨_, rfl, ?_⟩
    have e8 : decide (f.wh.length ≤ 1) = false := decide_eq_false (by omega)
    have e9 : listsOk f inner.length = false := by unfold listsOk; rw [if_pos c12]; (simp only [e8]) <;> rfl
    rw [e9]; exact ⟨hb, rfl⟩
   ·
    refine reg_nil (hK37 _ _ (wp_cond_false (ev_hit hN rfl) (wp_skip (hK36 _ _ (seq_any fun K39 hK39 => one_reg ?_)))))
    refine op_move (ev_hit hN rfl) (op_move (ev_hit hN rfl) (g_false (j := 1) (dj := 17) (b := true) rfl rfl rfl (ev_hit hN rfl) rfl rfl (g_false (j := 1) (dj := 17) (b := true) rfl rfl rfl (ev_hit hN rfl) rfl rfl (g_false (j := 1) (dj := 17) (b := true) rfl rfl rfl (ev_hit hN rfl) rfl rfl (g_false (j := 1) (dj := 17) (b := true) rfl rfl rfl (ev_hit hN rfl) rfl rfl (op_pick_f (ev_hit hN rfl) rfl ?_))))))
    refine op_move (ev_hit hN rfl) (g_false (j := 7) (dj := 23) (b := true) rfl rfl rfl (ev_hit hN rfl) rfl rfl (g_false (j := 7) (dj := 23) (b := true) rfl rfl rfl (ev_hit hN rfl) rfl rfl (g_false (j := 7) (dj := 23) (b := true) rfl rfl rfl (ev_hit hN rfl) rfl rfl (g_false (j := 7) (dj := 23) (b := true) rfl rfl rfl (ev_hit hN rfl) rfl rfl (g_false (j := 7) (dj := 23) (b := true) rfl rfl rfl (ev_hit hN rfl) rfl rfl (op_pick_f (ev_hit hN rfl) rfl ?_))))))
    refine op_move (ev_hit hN rfl) (g_false (j := 14) (dj := 30) (b := true) rfl rfl rfl (ev_hit hN rfl) rfl rfl (g_false (j := 14) (dj := 30) (b := true) rfl rfl rfl (ev_hit hN rfl) rfl rfl (g_false (j := 14) (dj := 30) (b := true) rfl rfl rfl (ev_hit hN rfl) rfl rfl (op_pick_f (ev_hit hN rfl) rfl ?_))))
    refine op_move (ev_hit hN rfl) (g_false (j := 19) (dj := 35) (b := true) rfl rfl rfl (ev_hit hN rfl) rfl rfl (g_false (j := 19) (dj := 35) (b := true) rfl rfl rfl (ev_hit hN rfl) rfl rfl (g_false (j := 19) (dj := 35) (b := true) rfl rfl rfl (ev_hit hN rfl) rfl rfl (op_pick_f (ev_hit hN rfl) rfl ?_))))
    refine op_assign (ev_hit hN rfl) (reg_nil (hK39 _ _ (wp_ret (blk_ret (then_ret ( ?_))))))
    refine ret1 rfl hd (ev_hit hN rfl) ⟨_, rfl, ?_⟩
    have e8 : decide (f.wh.length ≤ 1) = false := decide_eq_false (by omega)
    have e9 : listsOk f inner.length = false := by unfold listsOk; rw [if_pos c12]; (simp only [e8]) <;> rfl
    rw [e9]; exact ⟨hb, rfl⟩
  ·
   refine op_assign (ev_hit hN rfl) (reg_nil (hK34 _ _ (wp_cond_false (ev_hit hN rfl) (seq_any fun K40 hK40 => ?_))))
   refine one_reg (op_eql (ev_hit hN rfl) rfl (fun c41 => ?_) (fun c41 => ?_))
   ·
    refine op_assign (ev_hit hN rfl) (reg_nil (hK40 _ _ (wp_cond_true (ev_hit hN rfl) (seq_any fun K41 hK41 => one_reg ?_))))
    refine op_move (ev_hit hN rfl) (op_move (ev_hit hN rfl) (g_false (j := 1) (dj := 43) (b := true) rfl rfl rfl (ev_hit hN rfl) rfl rfl (g_false (j := 1) (dj := 43) (b := true) rfl rfl rfl (ev_hit hN rfl) rfl rfl (g_false (j := 1) (dj := 43) (b := true) rfl rfl rfl (ev_hit hN rfl) rfl rfl (g_false (j := 1) (dj := 43) (b := true) rfl rfl rfl (ev_hit hN rfl) rfl rfl (op_pick_f (ev_hit hN rfl) rfl ?_))))))
    refine op_assign (ev_hit hN rfl) (reg_nil (hK41 _ _ (wp_ret (blk_ret (then_ret ( ?_))))))
    refine ret1 rfl hd (ev_hit hN rfl) ⟨_, rfl, ?_⟩
    have e8 : decide (f.wh.length ≤ 1) = false := decide_eq_false (by omega)
    have e9 : listsOk f inner.length = false := by unfold listsOk; rw [if_neg c12, if_pos c41]; (simp only [e8]) <;> rfl
    rw [e9]; exact ⟨hb, rfl⟩
   ·
    refine op_assign (ev_hit hN rfl) (reg_nil (hK40 _ _ (wp_cond_false (ev_hit hN rfl) (seq_any fun K42 hK42 => ?_))))
    refine one_reg (op_eql (ev_hit hN rfl) rfl (fun c50 => ?_) (fun c50 => ?_))
    ·
     refine op_assign (ev_hit hN rfl) (reg_nil (hK42 _ _ (wp_cond_true (ev_hit hN rfl) ?_)))
     refine seq_any fun K43 hK43 => one_reg (op_move (ev_hit hN rfl) (op_assign (ev_hit hN rfl) (reg_nil (hK43 _ _ (wp_ret (blk_ret (then_ret ( ?_))))))))
     refine ret1 rfl hd (ev_hit hN rfl) ⟨_, rfl, ?_⟩
     have e8 : decide (f.wh.length ≤ 1) = false := decide_eq_false (by omega)
     have e9 : listsOk f inner.length = false := by unfold listsOk; rw [if_neg c12, if_neg c41, if_pos c50]; (simp only [e8]) <;> rfl
     rw [e9]; exact ⟨hb, rfl⟩
    ·
     refine op_assign (ev_hit hN rfl) (reg_nil (hK42 _ _ (wp_cond_false (ev_hit hN rfl) (seq_any fun K44 hK44 => seq_any fun K45 hK45 => ?_))))
     refine one_reg (op_eql (ev_hit hN rfl) rfl (fun c53 => ?_) (fun c53 => ?_))
     ·
      refine op_assign (ev_hit hN rfl) (reg_nil (hK45 _ _ (wp_cond_true (ev_hit hN rfl) (wp_skip ?_))))
      refine hK44 _ _ (wp_cond_true (ev_hit hN rfl) (seq_any fun K46 hK46 => one_reg (op_field fld45_12 (ev_hit hN rfl) (op_load1 (v := nv) one43 (ev_hit hN rfl) (hB5.cell rfl) (op_len_rd Try.underlying43 (ev_hit hN rfl) hfn ?_)))))
      refine op_eql (ev_hit hN rfl) rfl (fun c58 => ?_) (fun c58 => ?_)
      ·
       refine op_assign (ev_hit hN rfl) (reg_nil (hK46 _ _ (wp_ret (blk_ret (then_ret ( ?_))))))
       refine ret1 rfl hd (ev_hit hN rfl) ⟨_, rfl, ?_⟩
       have e8 : decide (f.wh.length ≤ 1) = false := decide_eq_false (by omega)
       have e58 : decide (inner.length = 1) = true := decide_eq_true (by omega)
       have e9 : listsOk f inner.length = true := by unfold listsOk; rw [if_neg c12, if_neg c41, if_neg c50, if_pos (.inl c53)]; (simp only [e8, e58]) <;> rfl
       rw [e9]; exact ⟨hb, rfl⟩
      ·
       refine op_assign (ev_hit hN rfl) (reg_nil (hK46 _ _ (wp_ret (blk_ret (then_ret ( ?_))))))
       refine ret1 rfl hd (ev_hit hN rfl) ⟨_, rfl, ?_⟩
       have e8 : decide (f.wh.length ≤ 1) = false := decide_eq_false (by omega)
       have e58 : decide (inner.length = 1) = false := decide_eq_false (by omega)
       have e9 : listsOk f inner.length = false := by unfold listsOk; rw [if_neg c12, if_neg c41, if_neg c50, if_pos (.inl c53)]; (simp only [e8, e58]) <;> rfl
       rw [e9]; exact ⟨hb, rfl⟩
     ·
      refine op_assign (ev_hit hN rfl) (reg_nil (hK45 _ _ (wp_cond_false (ev_hit hN rfl) (one_reg (op_eql (ev_hit hN rfl) rfl (fun c54 => ?_) (fun c54 => ?_))))))
      ·
       refine op_assign (ev_hit hN rfl) (reg_nil ?_)
       refine hK44 _ _ (wp_cond_true (ev_hit hN rfl) (seq_any fun K47 hK47 => one_reg (op_field fld45_12 (ev_hit hN rfl) (op_load1 (v := nv) one43 (ev_hit hN rfl) (hB5.cell rfl) (op_len_rd Try.underlying43 (ev_hit hN rfl) hfn ?_)))))
       refine op_eql (ev_hit hN rfl) rfl (fun c58 => ?_) (fun c58 => ?_)
       ·
        refine op_assign (ev_hit hN rfl) (reg_nil (hK47 _ _ (wp_ret (blk_ret (then_ret ( ?_))))))
        refine ret1 rfl hd (ev_hit hN rfl) ⟨_, rfl, ?_⟩
        have e8 : decide (f.wh.length ≤ 1) = false := decide_eq_false (by omega)
        have e58 : decide (inner.length = 1) = true := decide_eq_true (by omega)
        have e9 : listsOk f inner.length = true := by unfold listsOk; rw [if_neg c12, if_neg c41, if_neg c50, if_pos (.inr c54)]; (simp only [e8, e58]) <;> rfl
        rw [e9]; exact ⟨hb, rfl⟩
       ·
        refine op_assign (ev_hit hN rfl) (reg_nil (hK47 _ _ (wp_ret (blk_ret (then_ret ( ?_))))))
        refine ret1 rfl hd (ev_hit hN rfl) ⟨_, rfl, ?_⟩
        have e8 : decide (f.wh.length ≤ 1) = false := decide_eq_false (by omega)
        have e58 : decide (inner.length = 1) = false := decide_eq_false (by omega)
        have e9 : listsOk f inner.length = false := by unfold listsOk; rw [if_neg c12, if_neg c41, if_neg c50, if_pos (.inr c54)]; (simp only [e8, e58]) <;> rfl
        rw [e9]; exact ⟨hb, rfl⟩
      ·
       refine op_assign (ev_hit hN rfl) (reg_nil (hK44 _ _ (wp_cond_false (ev_hit hN rfl) (wp_skip (hK32 _ _ (seq_any fun K48 hK48 => ?_))))))
       refine one_reg (op_field fld45_0 (ev_hit hN rfl) (op_load1 (v := (Value.int .i64 f.kind)) one3 (ev_hit hN rfl) (hB5.cell rfl) (op_geq (ev_hit hN rfl) rfl (fun c61 => ?_) (fun c61 => ?_))))
       ·
        refine op_move (ev_hit hN rfl) (g_true (j := 3) (dj := 62) (b := true) rfl rfl rfl (ev_hit hN rfl) (op_field fld45_0 (ev_hit hN rfl) (g_true (j := 3) (dj := 62) (b := true) rfl rfl rfl (ev_hit hN rfl) (op_load1 (v := (Value.int .i64 f.kind)) one3 (ev_hit hN rfl) (hB5.cell rfl) (g_true (j := 3) (dj := 62) (b := true) rfl rfl rfl (ev_hit hN rfl) (op_leq (ev_hit hN rfl) rfl (fun c65 => ?_) (fun c65 => ?_)))))))
        ·
         refine op_pick_t (ev_hit hN rfl) (ev_hit hN rfl) ?_
         refine op_assign (ev_hit hN rfl) (reg_nil (hK48 _ _ (wp_ret ?_)))
         refine ret1 rfl hd (ev_hit hN rfl) ⟨_, rfl, ?_⟩
         have e8 : decide (f.wh.length ≤ 1) = false := decide_eq_false (by omega)
         have e61 : decide (1 ≤ f.kind) = true := decide_eq_true (by omega)
         have e65 : decide (f.kind ≤ 13) = true := decide_eq_true (by omega)
         have e9 : listsOk f inner.length = true := by unfold listsOk; rw [if_neg c12, if_neg c41, if_neg c50, if_neg (fun g => g.elim c53 c54)]; (simp only [e8, e61, e65]) <;> rfl
         rw [e9]; exact ⟨hb, rfl⟩
        ·
         refine op_pick_t (ev_hit hN rfl) (ev_hit hN rfl) ?_
         refine op_assign (ev_hit hN rfl) (reg_nil (hK48 _ _ (wp_ret ?_)))
         refine ret1 rfl hd (ev_hit hN rfl) ⟨_, rfl, ?_⟩
         have e8 : decide (f.wh.length ≤ 1) = false := decide_eq_false (by omega)
         have e61 : decide (1 ≤ f.kind) = true := decide_eq_true (by omega)
         have e65 : decide (f.kind ≤ 13) = false := decide_eq_false (by omega)
         have e9 : listsOk f inner.length = false := by unfold listsOk; rw [if_neg c12, if_neg c41, if_neg c50, if_neg (fun g => g.elim c53 c54)]; (simp only [e8, e61, e65]) <;> rfl
         rw [e9]; exact ⟨hb, rfl⟩
       ·
        refine op_move (ev_hit hN rfl) (g_false (j := 3) (dj := 62) (b := true) rfl rfl rfl (ev_hit hN rfl) rfl rfl (g_false (j := 3) (dj := 62) (b := true) rfl rfl rfl (ev_hit hN rfl) rfl rfl (g_false (j := 3) (dj := 62) (b := true) rfl rfl rfl (ev_hit hN rfl) rfl rfl (op_pick_f (ev_hit hN rfl) rfl ?_))))
        refine op_assign (ev_hit hN rfl) (reg_nil (hK48 _ _ (wp_ret ?_)))
        refine ret1 rfl hd (ev_hit hN rfl) ⟨_, rfl, ?_⟩
        have e8 : decide (f.wh.length ≤ 1) = false := decide_eq_false (by omega)
        have e61 : decide (1 ≤ f.kind) = false := decide_eq_false (by omega)
        have e9 : listsOk f inner.length = false := by unfold listsOk; rw [if_neg c12, if_neg c41, if_neg c50, if_neg (fun g => g.elim c53 c54)]; (simp only [e8, e61]) <;> rfl
        rw [e9]; exact ⟨hb, rfl⟩

theorem IdxV {L : List DVw} {v : Value} {p : DVw → Bool} {w : World} (hl : RdC w 0 w.heap.size 15 v L.length (L.flatMap cellsW)) {g : Nat} {fs cs : List Value} (hokg : callOk Try.prog g = true) (hf : ∀ i, i < L.length → ∀ w1, Below w.heap.size w w1 → Ret Try.prog g (fs ++ [(Value.agg #[(Value.string (bs (L.getD i default).nm)), (L.getD i default).sv, (Value.int .i64 (L.getD i default).act.f.kind), (Value.string (bs (L.getD i default).act.f.tb)), (Value.string (bs (L.getD i default).act.f.nm)), (L.getD i default).act.f.cv, (L.getD i default).act.f.gv, (L.getD i default).act.f.vv, (L.getD i default).act.f.iv, (Value.string (bs (L.getD i default).act.f.join)), (L.getD i default).act.f.ov, (L.getD i default).act.f.wv, (L.getD i default).act.f.rv, (Value.bool (L.getD i default).act.f.desc), (L.getD i default).act.nv])] ++ cs).toArray w1 (fun v' w' => Below w1.heap.size w1 w' ∧ v' = .bool (p (L.getD i default)))) : Ret Try.prog 100 #[v, (Value.func (.func g) fs.toArray cs.toArray)] w (fun v' w' => Below w.heap.size w w' ∧ v' = .int .i64 (ixOf p L)) := by
 have hlm := rd_len hl
 have hb := Below.refl w.heap.size w
 refine enter (N := 19) Try.func100 rfl rfl (by simp) fun a0 hN hd hA => ?_
 have s0 : a0.tmps.getD 0 undef = v := hA 0 (by simp)
 have s1 : a0.tmps.getD 1 undef = (Value.func (.func g) fs.toArray cs.toArray) := hA 1 (by simp)
 clear hA
 refine seq_any fun K49 hK49 => one_reg (op_assign rfl ?_)
 refine reg_nil (hK49 _ _ (seq_any fun K50 hK50 => seq_any fun K51 hK51 => one_reg (op_move (ev_base hN rfl s0) (op_len_rd Try.underlying37 (ev_hit hN rfl) hl ?_))))
 refine op_move rfl (reg_nil (hK51 _ _ (wp_block ?_)))
 refine loop_m (fun mz_ az_ w' => ∃ (i : Nat), mz_ = L.length - i ∧ (az_.tmps.getD 0 undef = v) ∧ (az_.tmps.getD 1 undef = (Value.func (.func g) fs.toArray cs.toArray)) ∧ (az_.tmps.getD 7 undef = (Value.int .i64 ((L.length : Nat) : Int))) ∧ (az_.tmps.getD 8 undef = (Value.int .i64 ((i : Nat) : Int))) ∧ (i ≤ L.length) ∧ (∀ j, j < i → p (L.getD j default) = false) ∧ (Below w.heap.size w w') ∧ (w.heap.size ≤ w'.heap.size) ∧ (RdC w' 0 w.heap.size 15 v L.length (L.flatMap cellsW))) _ hN hd ⟨0, rfl, (sl_base hN rfl s0), (sl_base hN rfl s1), (sl_hit hN rfl), (sl_hit hN rfl), (Nat.zero_le _), (fun _ h => absurd h (Nat.not_lt_zero _)), hb, (Nat.le_refl _), hl⟩ ?_
 rintro _ a52 w52 hN52 hd52 ⟨i, rfl, s52_0, s52_1, s52_7, s52_8, hi, hall, hb, zl_w52, hl⟩
 have z_w52 := hb.size
 refine seq_any fun K53 hK53 => ?_
 refine one_reg (op_lss (ev_base hN52 rfl s52_8) (ev_base hN52 rfl s52_7) (fun c9 => ?_) (fun c9 => ?_))
 ·
  refine reg_nil ?_
  refine hK53 _ _ (seq_any fun K54 hK54 => wp_cond_true (ev_hit hN52 rfl) (wp_skip (hK54 _ _ (seq_any fun K55 hK55 => wp_block ?_))))
  refine seq_any fun K56 hK56 => one_reg (op_move (ev_base hN52 rfl s52_8) (op_assign (ev_hit hN52 rfl) (reg_nil ?_)))
  refine hK56 _ _ (seq_any fun K57 hK57 => one_reg (op_move (ev_base hN52 rfl s52_1) (op_move (ev_base hN52 rfl s52_0) (op_move (ev_hit hN52 rfl) (op_index_rd slt37 (ev_hit hN52 rfl) hl (ev_hit hN52 rfl) (by omega) (by omega) ?_)))))
  intro b58 o59 h0b58 h1b58 hc60
  refine op_loadA (cs := [(Value.string (bs (L.getD i default).nm)), (L.getD i default).sv, (Value.int .i64 (L.getD i default).act.f.kind), (Value.string (bs (L.getD i default).act.f.tb)), (Value.string (bs (L.getD i default).act.f.nm)), (L.getD i default).act.f.cv, (L.getD i default).act.f.gv, (L.getD i default).act.f.vv, (L.getD i default).act.f.iv, (Value.string (bs (L.getD i default).act.f.join)), (L.getD i default).act.f.ov, (L.getD i default).act.f.wv, (L.getD i default).act.f.rv, (Value.bool (L.getD i default).act.f.desc), (L.getD i default).act.nv]) agg98 rfl (ev_hit hN52 rfl) (fun j u hu => hc60 j u (by have := (List.getElem?_eq_some_iff.1 hu).1; simpa using this) ((el_dv (i := i) (by omega) (by omega)) j u hu)) ?_
  refine op_fnv (fs := fs) (vs := [(Value.agg #[(Value.string (bs (L.getD i default).nm)), (L.getD i default).sv, (Value.int .i64 (L.getD i default).act.f.kind), (Value.string (bs (L.getD i default).act.f.tb)), (Value.string (bs (L.getD i default).act.f.nm)), (L.getD i default).act.f.cv, (L.getD i default).act.f.gv, (L.getD i default).act.f.vv, (L.getD i default).act.f.iv, (Value.string (bs (L.getD i default).act.f.join)), (L.getD i default).act.f.ov, (L.getD i default).act.f.wv, (L.getD i default).act.f.rv, (Value.bool (L.getD i default).act.f.desc), (L.getD i default).act.nv])]) (cs := cs) (ev_hit hN52 rfl) hokg ⟨(ev_hit hN52 rfl), trivial⟩ (hf i (by omega) _ hb) ?_
  rintro _ w61 ⟨E62, rfl⟩
  have E62 := grown_of_below E62
  have z_w61 := E62.size
  have hl := hl.keep0 E62
  have hb := below_step0 hb E62 hb.size
  rcases Bool.eq_false_or_eq_true ((p (L.getD i default))) with c16 | c16
  ·
   rw [c16]
   refine reg_nil (hK57 _ _ (wp_cond_true (ev_hit hN52 rfl) ?_))
   refine seq_any fun K63 hK63 => one_reg (op_move (ev_hit hN52 rfl) (op_assign (ev_hit hN52 rfl) (reg_nil (hK63 _ _ (wp_ret (blk_ret (then_ret (then_ret (blk_ret (then_ret ( ?_)))))))))))
   refine ret1 rfl hd52 (ev_hit hN52 rfl) ⟨_, rfl, ?_⟩
   exact ⟨hb, congrArg (Value.int .i64) (ixOf_hit (by omega) hall c16).symm⟩
  ·
   rw [c16]
   refine reg_nil (hK57 _ _ (wp_cond_false (ev_hit hN52 rfl) (wp_skip (hK55 _ _ (one_reg (op_add (ev_base hN52 rfl s52_8) rfl (add64 (by omega)) ?_))))))
   refine op_move (ev_hit hN52 rfl) (reg_nil ?_)
   -- round 9T 16F
   exact loop_next _ hN52 hd52 ⟨(i + 1), rfl, (sl_base hN52 rfl s52_0), (sl_base hN52 rfl s52_1), (sl_base hN52 rfl s52_7), (sl_hit hN52 rfl).trans (congrArg (Value.int .i64) (by omega)), (by omega), (all_next hall c16), hb, (by omega), hl⟩ (by omega)
 ·
  refine reg_nil (hK53 _ _ (seq_any fun K64 hK64 => wp_cond_false (ev_hit hN52 rfl) (wp_exit (then_exit (then_exit (blk_hit ?_))))))
  refine hK50 _ _ (seq_any fun K65 hK65 => one_reg (op_assign rfl (reg_nil (hK65 _ _ (wp_ret ?_)))))
  refine ret1 rfl hd52 (ev_hit hN52 rfl) ⟨_, rfl, ?_⟩
  exact ⟨hb, congrArg (Value.int .i64) (ixOf_none (by omega) hall).symm⟩

theorem ofView_ret (d : DVw) (w : World) : Ret Try.prog 78 #[(Value.agg #[(Value.string (bs d.nm)), d.sv, (Value.int .i64 d.act.f.kind), (Value.string (bs d.act.f.tb)), (Value.string (bs d.act.f.nm)), d.act.f.cv, d.act.f.gv, d.act.f.vv, d.act.f.iv, (Value.string (bs d.act.f.join)), d.act.f.ov, d.act.f.wv, d.act.f.rv, (Value.bool d.act.f.desc), d.act.nv])] w (fun v' w' => Below w.heap.size w w' ∧ v' = .string (bs d.nm)) := by
 have hb := Below.refl w.heap.size w
 refine enter (N := 5) Try.func78 rfl rfl (by simp) fun a0 hN hd hA => ?_
 have s0 : a0.tmps.getD 0 undef = (Value.agg #[(Value.string (bs d.nm)), d.sv, (Value.int .i64 d.act.f.kind), (Value.string (bs d.act.f.tb)), (Value.string (bs d.act.f.nm)), d.act.f.cv, d.act.f.gv, d.act.f.vv, d.act.f.iv, (Value.string (bs d.act.f.join)), d.act.f.ov, d.act.f.wv, d.act.f.rv, (Value.bool d.act.f.desc), d.act.nv]) := hA 0 (by simp)
 clear hA
 refine seq_any fun K66 hK66 => one_reg (op_box (cs := [(Value.string (bs d.nm)), d.sv, (Value.int .i64 d.act.f.kind), (Value.string (bs d.act.f.tb)), (Value.string (bs d.act.f.nm)), d.act.f.cv, d.act.f.gv, d.act.f.vv, d.act.f.iv, (Value.string (bs d.act.f.join)), d.act.f.ov, d.act.f.wv, d.act.f.rv, (Value.bool d.act.f.desc), d.act.nv]) (ev_base hN rfl s0) rfl ?_)
 intro w67 b68 lo_b68 hi_b68 hB70 E69
 have z_w67 := E69.size
 have hb := below_step0 hb E69 hb.size
 refine op_assign rfl (reg_nil (hK66 _ _ (seq_any fun K71 hK71 => ?_)))
 refine one_reg (op_field fld98_0 (ev_hit hN rfl) (op_load1 (v := (Value.string (bs d.nm))) one9 (ev_hit hN rfl) (hB70.cell rfl) (op_assign (ev_hit hN rfl) (reg_nil (hK71 _ _ (wp_ret ?_))))))
 refine ret1 rfl hd (ev_hit hN rfl) ⟨_, rfl, ?_⟩
 exact ⟨hb, rfl⟩

theorem find1View (d : DVw) (x : List UInt8) {fb nb : Nat} {w : World} (hf9 : Bx w fb 125 [.func (.func 78) #[] #[]]) (hn9 : Bx w nb 9 [.string (bs x)]) : Ret Try.prog 101 #[(Value.agg #[(Value.string (bs d.nm)), d.sv, (Value.int .i64 d.act.f.kind), (Value.string (bs d.act.f.tb)), (Value.string (bs d.act.f.nm)), d.act.f.cv, d.act.f.gv, d.act.f.vv, d.act.f.iv, (Value.string (bs d.act.f.join)), d.act.f.ov, d.act.f.wv, d.act.f.rv, (Value.bool d.act.f.desc), d.act.nv]), (ptr fb 0), (ptr nb 0)] w (fun v' w' => Below w.heap.size w w' ∧ v' = .bool (decide (d.nm = x))) := by
 have hb := Below.refl w.heap.size w
 refine enter (N := 10) Try.func101 rfl rfl (by simp) fun a0 hN hd hA => ?_
 have s0 : a0.tmps.getD 0 undef = (Value.agg #[(Value.string (bs d.nm)), d.sv, (Value.int .i64 d.act.f.kind), (Value.string (bs d.act.f.tb)), (Value.string (bs d.act.f.nm)), d.act.f.cv, d.act.f.gv, d.act.f.vv, d.act.f.iv, (Value.string (bs d.act.f.join)), d.act.f.ov, d.act.f.wv, d.act.f.rv, (Value.bool d.act.f.desc), d.act.nv]) := hA 0 (by simp)
 have s1 : a0.tmps.getD 1 undef = (ptr fb 0) := hA 1 (by simp)
 have s2 : a0.tmps.getD 2 undef = (ptr nb 0) := hA 2 (by simp)
 clear hA
 refine seq_any fun K72 hK72 => one_reg (op_box (cs := [(Value.string (bs d.nm)), d.sv, (Value.int .i64 d.act.f.kind), (Value.string (bs d.act.f.tb)), (Value.string (bs d.act.f.nm)), d.act.f.cv, d.act.f.gv, d.act.f.vv, d.act.f.iv, (Value.string (bs d.act.f.join)), d.act.f.ov, d.act.f.wv, d.act.f.rv, (Value.bool d.act.f.desc), d.act.nv]) (ev_base hN rfl s0) rfl ?_)
 intro w73 b74 lo_b74 hi_b74 hB76 E75
 have z_w73 := E75.size
 have hf9 := hf9.keep0 E75
 have hn9 := hn9.keep0 E75
 have hb := below_step0 hb E75 hb.size
 refine op_assign rfl (reg_nil (hK72 _ _ (seq_any fun K77 hK77 => reg_split (hd := [_, _, _, _]) (tl := _) 4 mixed (by kernel_rfl) rfl rfl ?_)))
 refine any_env (φ := phiV [(fun uz => uz = (Value.func (.func 78) #[] #[])), (fun uz => uz = (Value.agg #[(Value.string (bs d.nm)), d.sv, (Value.int .i64 d.act.f.kind), (Value.string (bs d.act.f.tb)), (Value.string (bs d.act.f.nm)), d.act.f.cv, d.act.f.gv, d.act.f.vv, d.act.f.iv, (Value.string (bs d.act.f.join)), d.act.f.ov, d.act.f.wv, d.act.f.rv, (Value.bool d.act.f.desc), d.act.nv])), (fun _ => True), (fun uz => uz = (Value.string (bs x)))]) (G := fun w' => Bx w' fb 125 [(Value.func (.func 78) #[] #[])] ∧ Bx w' b74 98 [(Value.string (bs d.nm)), d.sv, (Value.int .i64 d.act.f.kind), (Value.string (bs d.act.f.tb)), (Value.string (bs d.act.f.nm)), d.act.f.cv, d.act.f.gv, d.act.f.vv, d.act.f.iv, (Value.string (bs d.act.f.join)), d.act.f.ov, d.act.f.wv, d.act.f.rv, (Value.bool d.act.f.desc), d.act.nv] ∧ Bx w' nb 9 [(Value.string (bs x))]) [2] (by kernel_rfl) (by kernel_rfl) (by kernel_rfl) (by kernel_rfl) hN (fun w1 w2 E h => by obtain ⟨h0, h1, h2⟩ := h; exact ⟨h0.keep0 E, h1.keep0 E, h2.keep0 E⟩) ⟨hf9, hB76, hn9⟩ (ObEs.cons ?_ (ObEs.cons ?_ (ObEs.pass rfl (ObEs.cons ?_ (ObEs.nil))))) (by simp only [putsL_defers]) ?_
 ·
  intro eA aA wA hNA hGA hbsA hdpA
  have qA_1 := (hbsA 1 rfl).trans (sl_base hN rfl s1)
  obtain ⟨hf9, hB76, hn9⟩ := hGA
  refine op_load1 (v := (Value.func (.func 78) #[] #[])) one125 (ev_base hNA rfl qA_1) (hf9.cell rfl) ?_
  exact obE_end rfl rfl rfl
 ·
  intro eA aA wA hNA hGA hbsA hdpA
  have qA_3 := (hbsA 3 rfl).trans (sl_hit hN rfl)
  obtain ⟨hf9, hB76, hn9⟩ := hGA
  refine op_loadA (cs := [(Value.string (bs d.nm)), d.sv, (Value.int .i64 d.act.f.kind), (Value.string (bs d.act.f.tb)), (Value.string (bs d.act.f.nm)), d.act.f.cv, d.act.f.gv, d.act.f.vv, d.act.f.iv, (Value.string (bs d.act.f.join)), d.act.f.ov, d.act.f.wv, d.act.f.rv, (Value.bool d.act.f.desc), d.act.nv]) agg98 rfl (ev_base hNA rfl qA_3) (fun j u hu => by rw [Nat.zero_add]; exact hB76.cell hu) ?_
  exact obE_end rfl rfl rfl
 ·
  intro eA aA wA hNA hGA hbsA hdpA
  have qA_2 := (hbsA 2 rfl).trans (sl_base hN rfl s2)
  obtain ⟨hf9, hB76, hn9⟩ := hGA
  refine op_load1 (v := (Value.string (bs x))) one9 (ev_base hNA rfl qA_2) (hn9.cell rfl) ?_
  exact obE_end rfl rfl rfl
 ·
  intro w78 E78 _ a78 hN78 hbs78 hdp78 o_ ho_; obtain rfl := Option.some.inj ho_
  have z_w78 := E78.size
  have hf9 := hf9.keep0 E78
  have hn9 := hn9.keep0 E78
  have hB76 := hB76.keep0 E78
  have hb := below_step0 hb E78 hb.size
  have q78_5 : Sl a78 5 (Value.func (.func 78) #[] #[]) := (hdp78 0 _ 5 (by kernel_rfl) rfl rfl).2 rfl
  have q78_6 : Sl a78 6 (Value.agg #[(Value.string (bs d.nm)), d.sv, (Value.int .i64 d.act.f.kind), (Value.string (bs d.act.f.tb)), (Value.string (bs d.act.f.nm)), d.act.f.cv, d.act.f.gv, d.act.f.vv, d.act.f.iv, (Value.string (bs d.act.f.join)), d.act.f.ov, d.act.f.wv, d.act.f.rv, (Value.bool d.act.f.desc), d.act.nv]) := (hdp78 1 _ 6 (by kernel_rfl) rfl rfl).2 rfl
  refine op_fnv (fs := []) (vs := [(Value.agg #[(Value.string (bs d.nm)), d.sv, (Value.int .i64 d.act.f.kind), (Value.string (bs d.act.f.tb)), (Value.string (bs d.act.f.nm)), d.act.f.cv, d.act.f.gv, d.act.f.vv, d.act.f.iv, (Value.string (bs d.act.f.join)), d.act.f.ov, d.act.f.wv, d.act.f.rv, (Value.bool d.act.f.desc), d.act.nv])]) (cs := []) (ev_base hN78 rfl q78_5) ok78 ⟨(ev_base hN78 rfl q78_6), trivial⟩ (ofView_ret d _) ?_
  rintro _ w79 ⟨E80, rfl⟩
  have E80 := grown_of_below E80
  have z_w79 := E80.size
  have hf9 := hf9.keep0 E80
  have hn9 := hn9.keep0 E80
  have hB76 := hB76.keep0 E80
  have hb := below_step0 hb E80 hb.size
  refine ke_end rfl (by decide) rfl ⟨hf9, hB76, hn9⟩ ?_
  intro w81 E81 a81 hN81 hd81 hbs81 hph81
  have hd81 := hd81.trans ((by simp only [putsL_defers] : _ = _).trans hd)
  have z_w81 := E81.size
  have hn9 := hn9.keep0 E81
  have hb := below_step0 hb E81 hb.size
  have s81_7 : Sl a81 7 (Value.string (bs d.nm)) := (Option.some.inj ((hph81 2 _ 7 rfl rfl).1 0 rfl)).symm
  have s81_8 : Sl a81 8 (Value.string (bs x)) := (hph81 3 _ 8 rfl rfl).2 rfl
  refine split_end ?_
  refine from_seq (tl := [_, _]) (by decide) (by kernel_rfl) rfl ?_
  refine op_seql (ev_base hN81 rfl s81_7) (ev_base hN81 rfl s81_8) (fun c9 => ?_) (fun c9 => ?_)
  ·
   refine op_assign (ev_hit hN81 rfl) (reg_nil (hK77 _ _ (wp_ret ?_)))
   refine ret1 rfl hd81 (ev_hit hN81 rfl) ⟨_, rfl, ?_⟩
   exact ⟨hb, congrArg Value.bool (decide_eq_true c9).symm⟩
  ·
   refine op_assign (ev_hit hN81 rfl) (reg_nil (hK77 _ _ (wp_ret ?_)))
   refine ret1 rfl hd81 (ev_hit hN81 rfl) ⟨_, rfl, ?_⟩
   exact ⟨hb, congrArg Value.bool (decide_eq_false c9).symm⟩

theorem findView {L : List DVw} {v : Value} (x : List UInt8) {w : World} (hl : RdC w 0 w.heap.size 15 v L.length (L.flatMap cellsW)) : Ret Try.prog 77 #[v, (Value.string (bs x)), (Value.func (.func 78) #[] #[])] w (fun v' w' => Below w.heap.size w w' ∧ v' = .int .i64 (ixOf (fun d => decide (d.nm = x)) L)) := by
 have hb := Below.refl w.heap.size w
 refine enter (N := 10) Try.func77 rfl rfl (by simp) fun a0 hN hd hA => ?_
 have s0 : a0.tmps.getD 0 undef = v := hA 0 (by simp)
 have s1 : a0.tmps.getD 1 undef = (Value.string (bs x)) := hA 1 (by simp)
 have s2 : a0.tmps.getD 2 undef = (Value.func (.func 78) #[] #[]) := hA 2 (by simp)
 clear hA
 refine seq_any fun K82 hK82 => one_reg (op_box (cs := [(Value.string (bs x))]) (ev_base hN rfl s1) rfl ?_)
 intro w83 b84 lo_b84 hi_b84 hB86 E85
 have z_w83 := E85.size
 have hl := hl.keep0 E85
 have hb := below_step0 hb E85 hb.size
 refine op_box (cs := [(Value.func (.func 78) #[] #[])]) (ev_base hN rfl s2) rfl ?_
 intro w87 b88 lo_b88 hi_b88 hB90 E89
 have z_w87 := E89.size
 have hl := hl.keep0 E89
 have hB86 := hB86.keep0 E89
 have hb := below_step0 hb E89 hb.size
 refine op_assign rfl (reg_nil (hK82 _ _ (seq_any fun K91 hK91 => one_reg (op_move (ev_base hN rfl s0) (op_mkfn (cv := [(ptr b88 0), (ptr b84 0)]) ⟨(ev_hit hN rfl), ⟨(ev_hit hN rfl), trivial⟩⟩ ?_)))))
 refine op_fn (vs := [v, (Value.func (.func 101) #[] #[(ptr b88 0), (ptr b84 0)])]) ok100 ⟨(ev_hit hN rfl), ⟨(ev_hit hN rfl), trivial⟩⟩ (IdxV (g := 101) (fs := []) (cs := [(ptr b88 0), (ptr b84 0)]) (p := (fun d => decide (d.nm = x))) (hl.mono (Nat.zero_le _) (by omega)) ok101 (fun i hi w1 E9 => find1View (L.getD i default) x (hB90.keep0 (grown_of_below E9)) (hB86.keep0 (grown_of_below E9)))) ?_
 rintro _ w92 ⟨E93, rfl⟩
 have E93 := grown_of_below E93
 have z_w92 := E93.size
 have hl := hl.keep0 E93
 have hb := below_step0 hb E93 hb.size
 refine op_assign (ev_hit hN rfl) (reg_nil (hK91 _ _ (wp_ret ?_)))
 refine ret1 rfl hd (ev_hit hN rfl) ⟨_, rfl, ?_⟩
 exact ⟨hb, rfl⟩

theorem View0 (tv : Value) (x : List UInt8) (w : World) : Ret Try.prog 47 #[(Value.agg #[tv, (Value.slice none 0 0)]), (Value.string (bs x))] w (fun v' w' => Below w.heap.size w w' ∧ v' = .tuple #[(Value.agg #[(Value.string (bs [])), (Value.slice none 0 0), (Value.int .i64 0), (Value.string (bs [])), (Value.string (bs [])), (Value.slice none 0 0), (Value.slice none 0 0), (Value.slice none 0 0), (Value.slice none 0 0), (Value.string (bs [])), (Value.slice none 0 0), (Value.slice none 0 0), (Value.slice none 0 0), (Value.bool false), (Value.slice none 0 0)]), .bool false]) := by
 have hb := Below.refl w.heap.size w
 refine enter (N := 20) Try.func47 rfl rfl (by simp) fun a0 hN hd hA => ?_
 have s0 : a0.tmps.getD 0 undef = (Value.agg #[tv, (Value.slice none 0 0)]) := hA 0 (by simp)
 have s1 : a0.tmps.getD 1 undef = (Value.string (bs x)) := hA 1 (by simp)
 clear hA
 refine seq_any fun K94 hK94 => one_reg (op_box (cs := [tv, (Value.slice none 0 0)]) (ev_base hN rfl s0) rfl ?_)
 intro w95 b96 lo_b96 hi_b96 hB98 E97
 have z_w95 := E97.size
 have hb := below_step0 hb E97 hb.size
 refine op_alloc (cs := [(Value.string (bs [])), (Value.slice none 0 0), (Value.int .i64 0), (Value.string (bs [])), (Value.string (bs [])), (Value.slice none 0 0), (Value.slice none 0 0), (Value.slice none 0 0), (Value.slice none 0 0), (Value.string (bs [])), (Value.slice none 0 0), (Value.slice none 0 0), (Value.slice none 0 0), (Value.bool false), (Value.slice none 0 0)]) zero98 rfl ?_
 intro w99 b100 lo_b100 hi_b100 hB102 E101
 have z_w99 := E101.size
 have hB98 := hB98.keep0 E101
 have hb := below_step0 hb E101 hb.size
 refine op_assign rfl (reg_nil ?_)
 refine hK94 _ _ (seq_any fun K103 hK103 => one_reg (op_field fld39_1 (ev_hit hN rfl) (op_load1 (v := (Value.slice none 0 0)) one37 (ev_hit hN rfl) (hB98.cell rfl) (op_move (ev_base hN rfl s1) (op_fn (vs := [(Value.slice none 0 0), (Value.string (bs x)), (Value.func (.func 78) #[] #[])]) ok77 ⟨(ev_hit hN rfl), ⟨(ev_hit hN rfl), ⟨rfl, trivial⟩⟩⟩ (findView (L := ([] : List DVw)) x ((RdC.nil _ 0 0 _).mono (Nat.zero_le _) (by omega))) ?_)))))
 rintro _ w104 ⟨E105, rfl⟩
 have E105 := grown_of_below E105
 have z_w104 := E105.size
 have hB102 := hB102.keep0 E105
 have hb := below_step0 hb E105 hb.size
 refine op_assign (ev_hit hN rfl) (reg_nil (hK103 _ _ (seq_any fun K106 hK106 => seq_any fun K107 hK107 => ?_)))
 refine one_reg (op_move (ev_hit hN rfl) (op_lss (ev_hit hN rfl) rfl (fun c12 => ?_) (fun c12 => ?_)))
 ·
  refine reg_nil (hK107 _ _ (wp_cond_true (ev_hit hN rfl) (seq_any fun K108 hK108 => one_reg (op_build (pv := []) (v := (Value.agg #[(Value.string (bs [])), (Value.slice none 0 0), (Value.int .i64 0), (Value.string (bs [])), (Value.string (bs [])), (Value.slice none 0 0), (Value.slice none 0 0), (Value.slice none 0 0), (Value.slice none 0 0), (Value.string (bs [])), (Value.slice none 0 0), (Value.slice none 0 0), (Value.slice none 0 0), (Value.bool false), (Value.slice none 0 0)])) trivial (by kernel_rfl) ?_))))
  refine op_store (vs := [(Value.string (bs [])), (Value.slice none 0 0), (Value.int .i64 0), (Value.string (bs [])), (Value.string (bs [])), (Value.slice none 0 0), (Value.slice none 0 0), (Value.slice none 0 0), (Value.slice none 0 0), (Value.string (bs [])), (Value.slice none 0 0), (Value.slice none 0 0), (Value.slice none 0 0), (Value.bool false), (Value.slice none 0 0)]) (cs' := [(Value.string (bs [])), (Value.slice none 0 0), (Value.int .i64 0), (Value.string (bs [])), (Value.string (bs [])), (Value.slice none 0 0), (Value.slice none 0 0), (Value.slice none 0 0), (Value.slice none 0 0), (Value.string (bs [])), (Value.slice none 0 0), (Value.slice none 0 0), (Value.slice none 0 0), (Value.bool false), (Value.slice none 0 0)]) size98 (ev_hit hN rfl) (ev_hit hN rfl) rfl rfl rfl hB102 (Nat.le_of_ble_eq_true rfl) rfl ?_
  intro w111 hB102 E112
  have z_w111 := E112.size
  have hb := below_step1 hb E112 hb.size (by omega)
  refine op_assign rfl (reg_nil (hK108 _ _ (wp_ret (then_ret ( ?_)))))
  refine retN (rs := [.cell 4 98, .tmp 5]) (vs := [(Value.agg #[(Value.string (bs [])), (Value.slice none 0 0), (Value.int .i64 0), (Value.string (bs [])), (Value.string (bs [])), (Value.slice none 0 0), (Value.slice none 0 0), (Value.slice none 0 0), (Value.slice none 0 0), (Value.string (bs [])), (Value.slice none 0 0), (Value.slice none 0 0), (Value.slice none 0 0), (Value.bool false), (Value.slice none 0 0)]), (Value.bool false)]) rfl hd ⟨⟨_, (ev_hit hN rfl), run_loadA (cs := [(Value.string (bs [])), (Value.slice none 0 0), (Value.int .i64 0), (Value.string (bs [])), (Value.string (bs [])), (Value.slice none 0 0), (Value.slice none 0 0), (Value.slice none 0 0), (Value.slice none 0 0), (Value.string (bs [])), (Value.slice none 0 0), (Value.slice none 0 0), (Value.slice none 0 0), (Value.bool false), (Value.slice none 0 0)]) agg98 rfl (fun j u hu => by rw [Nat.zero_add]; exact hB102.cell hu)⟩, ⟨(ev_hit hN rfl), trivial⟩⟩ rfl ⟨_, rfl, ?_⟩
  exact ⟨hb, rfl⟩
 ·
  exact absurd (show (-1 : Int) < 0 by decide) c12
def CheckP (s : XS) : Prop := ∀ ⦃tv : Value⦄ ⦃D : List DTab⦄ ⦃w : World⦄, TsRd w w.heap.size tv D → D.length ≤ 1000000 → (∀ d ∈ D, d.t.cols.length ≤ 1000000 ∧ d.t.idx.length ≤ 1000000) → SRd w w.heap.size s →
  Ret Try.prog 19 #[.agg #[tv, .slice none 0 0], (Value.agg #[(Value.int .i64 s.f.kind), (Value.string (bs s.f.tb)), (Value.string (bs s.f.nm)), s.f.cv, s.f.gv, s.f.vv, s.f.iv, (Value.string (bs s.f.join)), s.f.ov, s.f.wv, s.f.rv, (Value.bool s.f.desc), s.nv])] w (fun v' w' => Below w.heap.size w w' ∧ v' = .int .i64 (checkE (D.map DTab.t) [] s))

theorem Check_in {tv : Value} {D : List DTab} (s : XS) {w : World} (ih : ∀ a ∈ s.inner, CheckP a) (hT : TsRd w w.heap.size tv D) (hD : D.length ≤ 1000000) (hsz : ∀ d ∈ D, d.t.cols.length ≤ 1000000 ∧ d.t.idx.length ≤ 1000000) (he : SRd w w.heap.size s) : Ret Try.prog 19 #[(Value.agg #[tv, (Value.slice none 0 0)]), (Value.agg #[(Value.int .i64 s.f.kind), (Value.string (bs s.f.tb)), (Value.string (bs s.f.nm)), s.f.cv, s.f.gv, s.f.vv, s.f.iv, (Value.string (bs s.f.join)), s.f.ov, s.f.wv, s.f.rv, (Value.bool s.f.desc), s.nv])] w (fun v' w' => Below w.heap.size w w' ∧ v' = .int .i64 (checkE (D.map DTab.t) [] s)) := by
 have hR := hT.1
 have hs := he.ff
 obtain ⟨hfc, hfg, hfv, hfi, hfo, hfw, hfr⟩ := hs
 have hfn := he.rd
 have hfvR := hfv.1
 have hfoR := hfo.1
 have hfwR := hfw.1
 have hfrR := hfr.1
 have hnall : SsRd w w.heap.size s.inner := he.all
 have hsz9 : ∀ t ∈ D.map DTab.t, t.cols.length ≤ 1000000 ∧ t.idx.length ≤ 1000000 := fun t ht => by obtain ⟨d, hd, rfl⟩ := List.mem_map.1 ht; exact hsz d hd
 have hb := Below.refl w.heap.size w
 refine enter (N := 69) Try.func19 rfl rfl (by simp) fun a0 hN hd hA => ?_
 have s0 : a0.tmps.getD 0 undef = (Value.agg #[tv, (Value.slice none 0 0)]) := hA 0 (by simp)
 have s1 : a0.tmps.getD 1 undef = (Value.agg #[(Value.int .i64 s.f.kind), (Value.string (bs s.f.tb)), (Value.string (bs s.f.nm)), s.f.cv, s.f.gv, s.f.vv, s.f.iv, (Value.string (bs s.f.join)), s.f.ov, s.f.wv, s.f.rv, (Value.bool s.f.desc), s.nv]) := hA 1 (by simp)
 clear hA
 refine seq_any fun K1 hK1 => one_reg (op_box (cs := [tv, (Value.slice none 0 0)]) (ev_base hN rfl s0) rfl ?_)
 intro w2 b3 lo_b3 hi_b3 hB5 E4
 have z_w2 := E4.size
 have hT := hT.keep0 E4
 have hR := hR.keep0 E4
 have hfv := hfv.keep0 E4
 have hfo := hfo.keep0 E4
 have hfw := hfw.keep0 E4
 have hfr := hfr.keep0 E4
 have hfi := hfi.keep0 E4
 have hfn := hfn.keep0 E4
 have hnall := hnall.keep0 E4
 have hb := below_step0 hb E4 hb.size
 refine op_box (cs := [(Value.int .i64 s.f.kind), (Value.string (bs s.f.tb)), (Value.string (bs s.f.nm)), s.f.cv, s.f.gv, s.f.vv, s.f.iv, (Value.string (bs s.f.join)), s.f.ov, s.f.wv, s.f.rv, (Value.bool s.f.desc), s.nv]) (ev_base hN rfl s1) rfl ?_
 intro w6 b7 lo_b7 hi_b7 hB9 E8
 have z_w6 := E8.size
 have hT := hT.keep0 E8
 have hR := hR.keep0 E8
 have hfv := hfv.keep0 E8
 have hfo := hfo.keep0 E8
 have hfw := hfw.keep0 E8
 have hfr := hfr.keep0 E8
 have hfi := hfi.keep0 E8
 have hfn := hfn.keep0 E8
 have hnall := hnall.keep0 E8
 have hB5 := hB5.keep0 E8
 have hb := below_step0 hb E8 hb.size
 refine op_assign rfl (reg_nil (hK1 _ _ (seq_any fun K10 hK10 => ?_)))
 refine seq_any fun K11 hK11 => one_reg (op_loadA (cs := [(Value.int .i64 s.f.kind), (Value.string (bs s.f.tb)), (Value.string (bs s.f.nm)), s.f.cv, s.f.gv, s.f.vv, s.f.iv, (Value.string (bs s.f.join)), s.f.ov, s.f.wv, s.f.rv, (Value.bool s.f.desc), s.nv]) agg45 rfl (ev_hit hN rfl) (fun j u hu => by rw [Nat.zero_add]; exact hB9.cell hu) ?_)
 refine op_fn (vs := [(Value.agg #[(Value.int .i64 s.f.kind), (Value.string (bs s.f.tb)), (Value.string (bs s.f.nm)), s.f.cv, s.f.gv, s.f.vv, s.f.iv, (Value.string (bs s.f.join)), s.f.ov, s.f.wv, s.f.rv, (Value.bool s.f.desc), s.nv])]) ok41 ⟨(ev_hit hN rfl), trivial⟩ (lists_ret hfv hfo hfw hfr hfn (by omega)) ?_
 rintro _ w12 ⟨E13, rfl⟩
 have E13 := grown_of_below E13
 have z_w12 := E13.size
 have hT := hT.keep0 E13
 have hR := hR.keep0 E13
 have hfv := hfv.keep0 E13
 have hfo := hfo.keep0 E13
 have hfw := hfw.keep0 E13
 have hfr := hfr.keep0 E13
 have hfi := hfi.keep0 E13
 have hfn := hfn.keep0 E13
 have hnall := hnall.keep0 E13
 have hB5 := hB5.keep0 E13
 have hB9 := hB9.keep0 E13
 have hb := below_step0 hb E13 hb.size
 rcases Bool.eq_false_or_eq_true ((listsOk s.f s.inner.length)) with c11 | c11
 ·
  rw [c11]
  refine op_not (ev_hit hN rfl) ?_
  refine reg_nil ?_
  refine hK11 _ _ (wp_cond_false (ev_hit hN rfl) (wp_skip (hK10 _ _ (seq_any fun K14 hK14 => one_reg (op_loadA (cs := [tv, (Value.slice none 0 0)]) agg39 rfl (ev_hit hN rfl) (fun j u hu => by rw [Nat.zero_add]; exact hB5.cell hu) ?_)))))
  refine op_build (pv := [(0, (Value.agg #[tv, (Value.slice none 0 0)]))]) (v := (Value.agg #[tv, (Value.slice none 0 0), (Value.slice none 0 0), (Value.slice none 0 0)])) ⟨rfl, (ev_hit hN rfl), trivial⟩ (by obtain ⟨_, _, _, rfl⟩ := hR.sl; kernel_rfl) ?_
  refine op_box (cs := [tv, (Value.slice none 0 0), (Value.slice none 0 0), (Value.slice none 0 0)]) (ev_hit hN rfl) rfl ?_
  intro w15 b16 lo_b16 hi_b16 hB18 E17
  have z_w15 := E17.size
  have hT := hT.keep0 E17
  have hfv := hfv.keep0 E17
  have hfo := hfo.keep0 E17
  have hfw := hfw.keep0 E17
  have hfr := hfr.keep0 E17
  have hfi := hfi.keep0 E17
  have hfn := hfn.keep0 E17
  have hnall := hnall.keep0 E17
  have hB5 := hB5.keep0 E17
  have hB9 := hB9.keep0 E17
  have hb := below_step0 hb E17 hb.size
  refine op_assign (ev_hit hN rfl) (reg_nil (hK14 _ _ (seq_any fun K19 hK19 => seq_any fun K20 hK20 => one_reg ?_)))
  have hL : LookR w15 w.heap.size b16 tv (.slice none 0 0) [] [] (fun y => y = b16 ∨ Bl (.slice none 0 0) y ∨ Bl (.slice none 0 0) y) := ⟨_, _, by omega, hB18, Own.nil _ _ _ _, Own.nil _ _ _ _, fun _ => Iff.rfl⟩
  generalize hFL : (fun y => y = b16 ∨ Bl (.slice none 0 0) y ∨ Bl (.slice none 0 0) y) = FL at hL
  have dj22 : ¬ FL b7 := fun h => by rw [← hFL] at h; exact h.elim (fun h => by omega) fun h => h.elim (fun h => (by cases h)) fun h => (by cases h)
  refine op_field fld45_0 (ev_hit hN rfl) (op_load1 (v := (Value.int .i64 s.f.kind)) one3 (ev_hit hN rfl) (hB9.cell rfl) (reg_nil (hK20 _ _ (wp_block ?_))))
  refine seq_any fun K23 hK23 => ?_
  refine one_reg (op_eql (ev_hit hN rfl) rfl (fun c19 => ?_) (fun c19 => ?_))
  ·
   refine op_assign (ev_hit hN rfl) ?_
   refine reg_nil (hK23 _ _ (wp_cond_true (ev_hit hN rfl) (seq_any fun K24 hK24 => one_reg (op_move (ev_hit hN rfl) (op_loadA (cs := [(Value.int .i64 s.f.kind), (Value.string (bs s.f.tb)), (Value.string (bs s.f.nm)), s.f.cv, s.f.gv, s.f.vv, s.f.iv, (Value.string (bs s.f.join)), s.f.ov, s.f.wv, s.f.rv, (Value.bool s.f.desc), s.nv]) agg45 rfl (ev_hit hN rfl) (fun j u hu => by rw [Nat.zero_add]; exact hB9.cell hu) ?_)))))
   refine op_fn (vs := [(ptr b16 0), (Value.agg #[(Value.int .i64 s.f.kind), (Value.string (bs s.f.tb)), (Value.string (bs s.f.nm)), s.f.cv, s.f.gv, s.f.vv, s.f.iv, (Value.string (bs s.f.join)), s.f.ov, s.f.wv, s.f.rv, (Value.bool s.f.desc), s.nv])]) ok42 ⟨(ev_hit hN rfl), ⟨(ev_hit hN rfl), trivial⟩⟩ (lkIns (f := s.f) (hT.mono (by omega)) hD hsz (by omega) hL (hfv.mono (by omega))) ?_
   rintro _ w25 ⟨E26, rfl⟩
   have hL_old := hL
   have z_w25 := E26.size
   have hnall := hnall.keepG E26 (fun k hk => .inr (by have := hL_old.lt k hk; omega))
   have hb := below_stepG hb E26 hb.size (fun k hk => (hL_old.lt k hk).1)
   refine op_assign (ev_hit hN rfl) (reg_nil (hK24 _ _ (wp_ret (blk_ret (then_ret ( ?_))))))
   refine ret1 rfl hd (ev_hit hN rfl) ⟨_, rfl, ?_⟩
   have e9 : checkE (D.map DTab.t) [] s = (match tabAt (D.map DTab.t) s.f.tb with | none => (9 : Int) | some t => insE t s.f) := (check_flat c11 (by omega)).trans (flat_ins c19)
   rw [e9]; exact ⟨hb, rfl⟩
  ·
   refine op_assign (ev_hit hN rfl) (reg_nil (hK23 _ _ (wp_cond_false (ev_hit hN rfl) (seq_any fun K27 hK27 => ?_))))
   refine one_reg (op_eql (ev_hit hN rfl) rfl (fun c24 => ?_) (fun c24 => ?_))
   ·
    refine op_assign (ev_hit hN rfl) ?_
    refine reg_nil (hK27 _ _ (wp_cond_true (ev_hit hN rfl) (seq_any fun K28 hK28 => one_reg (op_move (ev_hit hN rfl) (op_loadA (cs := [(Value.int .i64 s.f.kind), (Value.string (bs s.f.tb)), (Value.string (bs s.f.nm)), s.f.cv, s.f.gv, s.f.vv, s.f.iv, (Value.string (bs s.f.join)), s.f.ov, s.f.wv, s.f.rv, (Value.bool s.f.desc), s.nv]) agg45 rfl (ev_hit hN rfl) (fun j u hu => by rw [Nat.zero_add]; exact hB9.cell hu) ?_)))))
    refine op_fn (vs := [(ptr b16 0), (Value.agg #[(Value.int .i64 s.f.kind), (Value.string (bs s.f.tb)), (Value.string (bs s.f.nm)), s.f.cv, s.f.gv, s.f.vv, s.f.iv, (Value.string (bs s.f.join)), s.f.ov, s.f.wv, s.f.rv, (Value.bool s.f.desc), s.nv])]) ok43 ⟨(ev_hit hN rfl), ⟨(ev_hit hN rfl), trivial⟩⟩ (lkSel (f := s.f) (hT.mono (by omega)) hD hsz (by omega) hL (hfo.mono (by omega)) (hfw.mono (by omega)) (hfr.mono (by omega)) (hfi.mono (Nat.zero_le _) (by omega)) (lists_on c11 c24)) ?_
    rintro _ w29 ⟨E30, rfl⟩
    have hL_old := hL
    have z_w29 := E30.size
    have hnall := hnall.keepG E30 (fun k hk => .inr (by have := hL_old.lt k hk; omega))
    have hb := below_stepG hb E30 hb.size (fun k hk => (hL_old.lt k hk).1)
    refine op_assign (ev_hit hN rfl) (reg_nil (hK28 _ _ (wp_ret (blk_ret (then_ret ( ?_))))))
    refine ret1 rfl hd (ev_hit hN rfl) ⟨_, rfl, ?_⟩
    have e9 : checkE (D.map DTab.t) [] s = (selsE (D.map DTab.t) s.f) := (check_flat c11 (by omega)).trans (flat_sel c24)
    rw [e9]; exact ⟨hb, rfl⟩
   ·
    refine op_assign (ev_hit hN rfl) (reg_nil (hK27 _ _ (wp_cond_false (ev_hit hN rfl) (seq_any fun K31 hK31 => ?_))))
    refine one_reg (op_eql (ev_hit hN rfl) rfl (fun c29 => ?_) (fun c29 => ?_))
    ·
     refine op_assign (ev_hit hN rfl) ?_
     refine reg_nil (hK31 _ _ (wp_cond_true (ev_hit hN rfl) (seq_any fun K32 hK32 => one_reg (op_move (ev_hit hN rfl) (op_loadA (cs := [(Value.int .i64 s.f.kind), (Value.string (bs s.f.tb)), (Value.string (bs s.f.nm)), s.f.cv, s.f.gv, s.f.vv, s.f.iv, (Value.string (bs s.f.join)), s.f.ov, s.f.wv, s.f.rv, (Value.bool s.f.desc), s.nv]) agg45 rfl (ev_hit hN rfl) (fun j u hu => by rw [Nat.zero_add]; exact hB9.cell hu) ?_)))))
     refine op_fn (vs := [(ptr b16 0), (Value.agg #[(Value.int .i64 s.f.kind), (Value.string (bs s.f.tb)), (Value.string (bs s.f.nm)), s.f.cv, s.f.gv, s.f.vv, s.f.iv, (Value.string (bs s.f.join)), s.f.ov, s.f.wv, s.f.rv, (Value.bool s.f.desc), s.nv])]) ok44 ⟨(ev_hit hN rfl), ⟨(ev_hit hN rfl), trivial⟩⟩ (lkUpd (f := s.f) (hT.mono (by omega)) hD hsz (by omega) hL (hfv.mono (by omega)) (hfw.mono (by omega)) (lists_upd c11 c29)) ?_
     rintro _ w33 ⟨E34, rfl⟩
     have hL_old := hL
     have z_w33 := E34.size
     have hnall := hnall.keepG E34 (fun k hk => .inr (by have := hL_old.lt k hk; omega))
     have hb := below_stepG hb E34 hb.size (fun k hk => (hL_old.lt k hk).1)
     refine op_assign (ev_hit hN rfl) (reg_nil (hK32 _ _ (wp_ret (blk_ret (then_ret ( ?_))))))
     refine ret1 rfl hd (ev_hit hN rfl) ⟨_, rfl, ?_⟩
     have e9 : checkE (D.map DTab.t) [] s = (match tabAt (D.map DTab.t) s.f.tb with | none => (9 : Int) | some t => updE t s.f) := (check_flat c11 (by omega)).trans (flat_upd c29)
     rw [e9]; exact ⟨hb, rfl⟩
    ·
     refine op_assign (ev_hit hN rfl) (reg_nil (hK31 _ _ (wp_cond_false (ev_hit hN rfl) (seq_any fun K35 hK35 => ?_))))
     refine one_reg (op_eql (ev_hit hN rfl) rfl (fun c34 => ?_) (fun c34 => ?_))
     ·
      refine op_assign (ev_hit hN rfl) (reg_nil (hK35 _ _ ?_))
      refine wp_cond_true (ev_hit hN rfl) (seq_any fun K36 hK36 => seq_any fun K37 hK37 => one_reg (op_move (ev_hit hN rfl) (op_field fld45_1 (ev_hit hN rfl) (op_load1 (v := (Value.string (bs s.f.tb))) one9 (ev_hit hN rfl) (hB9.cell rfl) ?_))))
      rcases Bool.eq_false_or_eq_true ((tabAt (D.map DTab.t) s.f.tb).isSome) with k39 | k39
      ·
       refine op_fn (vs := [(ptr b16 0), (Value.string (bs s.f.tb))]) ok45 ⟨(ev_hit hN rfl), ⟨(ev_hit hN rfl), trivial⟩⟩ (lookTableT k39 (hT.mono (by omega)) hD hsz (by omega) hL (by simp) (by simp)) ?_
       rintro _ w39 ⟨E40, d38, rfl, ht38, hO38, hP38, F38, hL38, hN38⟩
       have bd43 := hB5.lt
       have bd44 := hB9.lt
       have hL_old := hL
       have z_w39 := E40.size
       have hfw := hfw.keepG E40 (fun k hk => .inr (by have := hL_old.lt k hk; omega))
       have hnall := hnall.keepG E40 (fun k hk => .inr (by have := hL_old.lt k hk; omega))
       have hB9 := hB9.keepG E40 dj22
       have hb := below_stepG hb E40 hb.size (fun k hk => (hL_old.lt k hk).1)
       have hO38 := hO38.mono (base' := w.heap.size) (by omega)
       have hP38 := hP38.mono (base' := w.heap.size) (by omega)
       refine op_move (ev_hit hN rfl) (op_extract (ev_hit hN rfl) rfl ?_)
       refine op_extract (ev_hit hN rfl) rfl ?_
       refine op_alloc (cs := [(Value.string (bs [])), (Value.slice none 0 0), (Value.slice none 0 0)]) zero55 rfl ?_
       intro w47 b48 lo_b48 hi_b48 hB50 E49
       have dj51 : ¬ F38 b48 := fun hf => by have := (hL38.lt _ hf).2; omega
       have z_w47 := E49.size
       have hfw := hfw.keep0 E49
       have hnall := hnall.keep0 E49
       have hB9 := hB9.keep0 E49
       have hL38 := hL38.kz E49
       have hO38 := hO38.keep0 E49
       have hP38 := hP38.keep0 E49
       have hb := below_step0 hb E49 hb.size
       have hB50_old := hB50
       refine op_store (vs := [(Value.string (bs d38.t.nm)), d38.cv, d38.iv]) (cs' := [(Value.string (bs d38.t.nm)), d38.cv, d38.iv]) size55 (ev_hit hN rfl) (ev_hit hN rfl) rfl rfl (by simp only [List.all_cons, List.all_nil, Bool.true_and, Bool.and_true, hO38.one, hP38.one]; try rfl) hB50 (Nat.le_of_ble_eq_true rfl) rfl ?_
       intro w54 hB50 E55
       have z_w54 := E55.size
       have hfw := hfw.keep E55 (fun k hk => .inr (by simp at hk; omega))
       have hnall := hnall.keep E55 (fun k hk => .inr (by simp at hk; omega))
       have hB9 := hB9.keep E55 (fun hh => hB9.ne hB50_old (by decide) (Option.some.inj hh))
       have hL38 := hL38.keepG (Gr.of E55) (Dj.one dj51)
       have hb := below_step1 hb E55 hb.size (by omega)
       refine op_assign (ev_hit hN rfl) (reg_nil (hK37 _ _ (seq_any fun K56 hK56 => one_reg (op_move (ev_hit hN rfl) (op_bin (v := .bool false) (ev_hit hN rfl) rfl (by rw [binOp_neq]; rfl) ?_)))))
       refine reg_nil (hK56 _ _ (wp_cond_false (ev_hit hN rfl) (wp_skip (hK36 _ _ (seq_any fun K57 hK57 => one_reg ?_)))))
       have hdl := (hsz9 _ (tab_mem ht38)).1
       have hcl9 : ([] ++ colsOf s.f.tb d38.t.cols).length = d38.t.cols.length := by rw [List.nil_append, cols_len]
       have hkl9 : ([] ++ kindsOf d38.t.cols).length = d38.t.cols.length := by rw [List.nil_append, kinds_len]
       refine op_move (ev_hit hN rfl) (op_field fld45_9 (ev_hit hN rfl) (op_load1 (v := s.f.wv) one26 (ev_hit hN rfl) (hB9.cell rfl) (op_fn (vs := [(ptr b16 0), s.f.wv]) ok46 ⟨(ev_hit hN rfl), ⟨(ev_hit hN rfl), trivial⟩⟩ (lkWhere (by omega) hL38 (by omega) (by omega) (hfw.mono (by omega))) ?_)))
       rintro _ w58 ⟨E59, rfl⟩
       have E59 := grown_of_below E59
       have z_w58 := E59.size
       have hnall := hnall.keep0 E59
       have hb := below_step0 hb E59 hb.size
       refine op_assign (ev_hit hN rfl) (reg_nil (hK57 _ _ (wp_ret (blk_ret (then_ret ( ?_))))))
       refine ret1 rfl hd (ev_hit hN rfl) ⟨_, rfl, ?_⟩
       have e9 : checkE (D.map DTab.t) [] s = (whereX (colsOf s.f.tb d38.t.cols) (kindsOf d38.t.cols) s.f.wh) := (check_flat c11 (by omega)).trans (flat_del c34 ht38)
       rw [e9]; exact ⟨hb, rfl⟩
      ·
       refine op_fn (vs := [(ptr b16 0), (Value.string (bs s.f.tb))]) ok45 ⟨(ev_hit hN rfl), ⟨(ev_hit hN rfl), trivial⟩⟩ (lookTableF k39 (hT.mono (by omega)) hD hsz (by omega) hL (by simp) (by simp)) ?_
       rintro _ w61 ⟨E62, rfl, F60, hL60, hN60⟩
       have bd63 := hB5.lt
       have bd64 := hB9.lt
       have hL_old := hL
       have z_w61 := E62.size
       have hnall := hnall.keepG E62 (fun k hk => .inr (by have := hL_old.lt k hk; omega))
       have hb := below_stepG hb E62 hb.size (fun k hk => (hL_old.lt k hk).1)
       refine op_move (ev_hit hN rfl) (op_extract (ev_hit hN rfl) rfl ?_)
       refine op_extract (ev_hit hN rfl) rfl ?_
       refine op_alloc (cs := [(Value.string (bs [])), (Value.slice none 0 0), (Value.slice none 0 0)]) zero55 rfl ?_
       intro w67 b68 lo_b68 hi_b68 hB70 E69
       have z_w67 := E69.size
       have hnall := hnall.keep0 E69
       have hb := below_step0 hb E69 hb.size
       refine op_store (vs := [(Value.string (bs [])), (Value.slice none 0 0), (Value.slice none 0 0)]) (cs' := [(Value.string (bs [])), (Value.slice none 0 0), (Value.slice none 0 0)]) size55 (ev_hit hN rfl) (ev_hit hN rfl) rfl rfl rfl hB70 (Nat.le_of_ble_eq_true rfl) rfl ?_
       intro w74 hB70 E75
       have z_w74 := E75.size
       have hnall := hnall.keep E75 (fun k hk => .inr (by simp at hk; omega))
       have hb := below_step1 hb E75 hb.size (by omega)
       refine op_assign (ev_hit hN rfl) (reg_nil (hK37 _ _ ?_))
       refine seq_any fun K76 hK76 => one_reg (op_move (ev_hit hN rfl) (op_bin (v := .bool true) (ev_hit hN rfl) rfl (by rw [binOp_neq]; rfl) (reg_nil (hK76 _ _ (wp_cond_true (ev_hit hN rfl) ?_)))))
       refine seq_any fun K77 hK77 => one_reg (op_move (ev_hit hN rfl) (op_assign (ev_hit hN rfl) (reg_nil (hK77 _ _ (wp_ret (then_ret (blk_ret (then_ret ( ?_)))))))))
       refine ret1 rfl hd (ev_hit hN rfl) ⟨_, rfl, ?_⟩
       have e9 : checkE (D.map DTab.t) [] s = 9 := (check_flat c11 (by omega)).trans (flat_del0 c34 k39)
       rw [e9]; exact ⟨hb, rfl⟩
     ·
      refine op_assign (ev_hit hN rfl) (reg_nil (hK35 _ _ (wp_cond_false (ev_hit hN rfl) (seq_any fun K78 hK78 => seq_any fun K79 hK79 => ?_))))
      refine one_reg (op_eql (ev_hit hN rfl) rfl (fun c50 => ?_) (fun c50 => ?_))
      ·
       refine op_assign (ev_hit hN rfl) ?_
       refine reg_nil (hK79 _ _ (wp_cond_true (ev_hit hN rfl) (wp_skip (hK78 _ _ (wp_cond_true (ev_hit hN rfl) (seq_any fun K80 hK80 => ?_))))))
       have hin := lists_in c11 (by omega)
       refine reg_quiet (Φ := phiL [(fun uz _ => uz = (Value.agg #[tv, (Value.slice none 0 0)])), (fun uz _ => uz = (ptr b7 12)), (fun uz _ => uz = s.nv), (fun uz w' => ∃ (b81 : (Nat)) (o82 : (Nat)), uz = (ptr b81 o82) ∧ PtC w' 0 w.heap.size b81 o82 [(Value.int .i64 (s.inner.getD 0 default).f.kind), (Value.string (bs (s.inner.getD 0 default).f.tb)), (Value.string (bs (s.inner.getD 0 default).f.nm)), (s.inner.getD 0 default).f.cv, (s.inner.getD 0 default).f.gv, (s.inner.getD 0 default).f.vv, (s.inner.getD 0 default).f.iv, (Value.string (bs (s.inner.getD 0 default).f.join)), (s.inner.getD 0 default).f.ov, (s.inner.getD 0 default).f.wv, (s.inner.getD 0 default).f.rv, (Value.bool (s.inner.getD 0 default).f.desc), (s.inner.getD 0 default).nv]), (fun uz _ => uz = (Value.agg #[(Value.int .i64 (s.inner.getD 0 default).f.kind), (Value.string (bs (s.inner.getD 0 default).f.tb)), (Value.string (bs (s.inner.getD 0 default).f.nm)), (s.inner.getD 0 default).f.cv, (s.inner.getD 0 default).f.gv, (s.inner.getD 0 default).f.vv, (s.inner.getD 0 default).f.iv, (Value.string (bs (s.inner.getD 0 default).f.join)), (s.inner.getD 0 default).f.ov, (s.inner.getD 0 default).f.wv, (s.inner.getD 0 default).f.rv, (Value.bool (s.inner.getD 0 default).f.desc), (s.inner.getD 0 default).nv])), (fun uz _ => uz = (Value.int .i64 (checkE (D.map DTab.t) [] (s.inner.getD 0 default)))), (fun uz _ => uz = (Value.int .i64 (checkE (D.map DTab.t) [] (s.inner.getD 0 default))))]) mixed (by kernel_rfl) (by kernel_rfl) (by kernel_rfl) hN (StL.get (StL.eq (StL.eq (StL.eq (StL.cons (fun u w1 w2 E h => by obtain ⟨x0, x1, hv, f0⟩ := h; exact ⟨x0, x1, hv, f0.keep0 E⟩) (StL.eq (StL.eq (StL.eq (StL.nil _))))))))) (ObL.get (s := 7) (ObL.cons ?_ (ObL.cons ?_ (ObL.cons ?_ (ObL.cons ?_ (ObL.cons ?_ (ObL.cons ?_ (ObL.cons ?_ (ObL.nil)))))))) rfl) ?_
       ·
        intro aA wA hNA hRA hbsA hdpA
        have hRA : w15.grownBy wA none := hRA
        have z_wA := hRA.size
        have hnall := hnall.keep0 hRA
        have hB5 := hB5.keep0 hRA
        have qA_2 := (hbsA 2 rfl).trans (sl_hit hN rfl)
        clear hbsA hdpA
        refine op_loadA (cs := [tv, (Value.slice none 0 0)]) agg39 rfl (ev_base hNA rfl qA_2) (fun j u hu => by rw [Nat.zero_add]; exact hB5.cell hu) ?_
        exact obN_end rfl rfl (grown_refl _ _)
       ·
        intro aA wA hNA hRA hbsA hdpA
        have qA_3 := (hbsA 3 rfl).trans (sl_hit hN rfl)
        refine op_field fld45_12 (ev_base hNA rfl qA_3) ?_
        exact obN_end rfl rfl (grown_refl _ _)
       ·
        intro aA wA hNA hRA hbsA hdpA
        have hRA : w15.grownBy wA none := hRA
        have z_wA := hRA.size
        have hnall := hnall.keep0 hRA
        have hB9 := hB9.keep0 hRA
        have qA_53 : Sl aA 53 (ptr b7 12) := hdpA 1 _ 53 (by kernel_rfl) rfl rfl
        clear hbsA hdpA
        refine op_load1 (v := s.nv) one43 (ev_base hNA rfl qA_53) (hB9.cell rfl) ?_
        exact obN_end rfl rfl (grown_refl _ _)
       ·
        intro aA wA hNA hRA hbsA hdpA
        have hRA : w15.grownBy wA none := hRA
        have z_wA := hRA.size
        have hfn := hfn.keep0 hRA
        have hnall := hnall.keep0 hRA
        have qA_54 : Sl aA 54 s.nv := hdpA 2 _ 54 (by kernel_rfl) rfl rfl
        clear hbsA hdpA
        refine op_index_rd slt43 (ev_base hNA rfl qA_54) hfn rfl (by omega) (by omega) ?_
        intro b81 o82 h0b81 h1b81 hc83
        have hp84 : PtC wA 0 w.heap.size b81 o82 [(Value.int .i64 (s.inner.getD 0 default).f.kind), (Value.string (bs (s.inner.getD 0 default).f.tb)), (Value.string (bs (s.inner.getD 0 default).f.nm)), (s.inner.getD 0 default).f.cv, (s.inner.getD 0 default).f.gv, (s.inner.getD 0 default).f.vv, (s.inner.getD 0 default).f.iv, (Value.string (bs (s.inner.getD 0 default).f.join)), (s.inner.getD 0 default).f.ov, (s.inner.getD 0 default).f.wv, (s.inner.getD 0 default).f.rv, (Value.bool (s.inner.getD 0 default).f.desc), (s.inner.getD 0 default).nv] := ⟨by omega, by omega, fun j u hu => hc83 j u (by have := (List.getElem?_eq_some_iff.1 hu).1; simpa using this) ((el_xs (i := 0) (by omega) (by omega)) j u hu)⟩
        exact obN_end rfl ⟨b81, o82, rfl, hp84⟩ (grown_refl _ _)
       ·
        intro aA wA hNA hRA hbsA hdpA
        have hRA : w15.grownBy wA none := hRA
        have z_wA := hRA.size
        have hnall := hnall.keep0 hRA
        obtain ⟨b81, o82, qA_55, hp84⟩ := hdpA 3 _ 55 (by kernel_rfl) rfl rfl
        have hp84 : PtC wA 0 w.heap.size b81 o82 [(Value.int .i64 (s.inner.getD 0 default).f.kind), (Value.string (bs (s.inner.getD 0 default).f.tb)), (Value.string (bs (s.inner.getD 0 default).f.nm)), (s.inner.getD 0 default).f.cv, (s.inner.getD 0 default).f.gv, (s.inner.getD 0 default).f.vv, (s.inner.getD 0 default).f.iv, (Value.string (bs (s.inner.getD 0 default).f.join)), (s.inner.getD 0 default).f.ov, (s.inner.getD 0 default).f.wv, (s.inner.getD 0 default).f.rv, (Value.bool (s.inner.getD 0 default).f.desc), (s.inner.getD 0 default).nv] := hp84
        clear hbsA hdpA
        refine op_loadA (cs := [(Value.int .i64 (s.inner.getD 0 default).f.kind), (Value.string (bs (s.inner.getD 0 default).f.tb)), (Value.string (bs (s.inner.getD 0 default).f.nm)), (s.inner.getD 0 default).f.cv, (s.inner.getD 0 default).f.gv, (s.inner.getD 0 default).f.vv, (s.inner.getD 0 default).f.iv, (Value.string (bs (s.inner.getD 0 default).f.join)), (s.inner.getD 0 default).f.ov, (s.inner.getD 0 default).f.wv, (s.inner.getD 0 default).f.rv, (Value.bool (s.inner.getD 0 default).f.desc), (s.inner.getD 0 default).nv]) agg45 rfl (ev_base hNA rfl qA_55) (fun j u hu => hp84.2.2 j u hu) ?_
        exact obN_end rfl rfl (grown_refl _ _)
       ·
        intro aA wA hNA hRA hbsA hdpA
        have hRA : w15.grownBy wA none := hRA
        have z_wA := hRA.size
        have hT := hT.keep0 hRA
        have hnall := hnall.keep0 hRA
        have qA_52 : Sl aA 52 (Value.agg #[tv, (Value.slice none 0 0)]) := hdpA 0 _ 52 (by kernel_rfl) rfl rfl
        have qA_56 : Sl aA 56 (Value.agg #[(Value.int .i64 (s.inner.getD 0 default).f.kind), (Value.string (bs (s.inner.getD 0 default).f.tb)), (Value.string (bs (s.inner.getD 0 default).f.nm)), (s.inner.getD 0 default).f.cv, (s.inner.getD 0 default).f.gv, (s.inner.getD 0 default).f.vv, (s.inner.getD 0 default).f.iv, (Value.string (bs (s.inner.getD 0 default).f.join)), (s.inner.getD 0 default).f.ov, (s.inner.getD 0 default).f.wv, (s.inner.getD 0 default).f.rv, (Value.bool (s.inner.getD 0 default).f.desc), (s.inner.getD 0 default).nv]) := hdpA 4 _ 56 (by kernel_rfl) rfl rfl
        clear hbsA hdpA
        refine op_fn (vs := [(Value.agg #[tv, (Value.slice none 0 0)]), (Value.agg #[(Value.int .i64 (s.inner.getD 0 default).f.kind), (Value.string (bs (s.inner.getD 0 default).f.tb)), (Value.string (bs (s.inner.getD 0 default).f.nm)), (s.inner.getD 0 default).f.cv, (s.inner.getD 0 default).f.gv, (s.inner.getD 0 default).f.vv, (s.inner.getD 0 default).f.iv, (Value.string (bs (s.inner.getD 0 default).f.join)), (s.inner.getD 0 default).f.ov, (s.inner.getD 0 default).f.wv, (s.inner.getD 0 default).f.rv, (Value.bool (s.inner.getD 0 default).f.desc), (s.inner.getD 0 default).nv])]) ok19 ⟨(ev_base hNA rfl qA_52), ⟨(ev_base hNA rfl qA_56), trivial⟩⟩ (ih _ (getD_mem (by omega)) (hT.mono (by omega)) hD hsz ((hnall _ (getD_mem (by omega))).mono (by omega))) ?_
        rintro _ w85 ⟨E86, rfl⟩
        have E86 := grown_of_below E86
        have z_w85 := E86.size
        have hnall := hnall.keep0 E86
        exact obN_end rfl rfl (E86)
       ·
        intro aA wA hNA hRA hbsA hdpA
        have qA_57 : Sl aA 57 (Value.int .i64 (checkE (D.map DTab.t) [] (s.inner.getD 0 default))) := hdpA 5 _ 57 (by kernel_rfl) rfl rfl
        refine op_assign (ev_base hNA rfl qA_57) ?_
        exact obN_end rfl rfl (grown_refl _ _)
       ·
        intro a87 w87 hN87 hd87 hbs87 hph87 E87
        have hd87 := hd87.trans hd
        have s87_4 : Sl a87 4 (Value.int .i64 (checkE (D.map DTab.t) [] (s.inner.getD 0 default))) := hph87 6 _ 4 rfl rfl
        clear hbs87 hph87
        have E87 : w15.grownBy w87 none := E87
        have z_w87 := E87.size
        have hnall := hnall.keep0 E87
        have hb := below_step0 hb E87 hb.size
        refine hK80 _ _ (wp_ret (blk_ret (then_ret ( ?_))))
        refine ret1 rfl hd87 (ev_base hN87 rfl s87_4) ⟨_, rfl, ?_⟩
        have e9 : checkE (D.map DTab.t) [] s = (checkE (D.map DTab.t) [] (s.inner.getD 0 default)) := check_in c11 (by omega)
        rw [e9]; exact ⟨hb, rfl⟩
      ·
       refine op_assign (ev_hit hN rfl) (reg_nil (hK79 _ _ (wp_cond_false (ev_hit hN rfl) (one_reg (op_eql (ev_hit hN rfl) rfl (fun c51 => ?_) (fun c51 => ?_))))))
       ·
        refine op_assign (ev_hit hN rfl) (reg_nil (hK78 _ _ (wp_cond_true (ev_hit hN rfl) (seq_any fun K88 hK88 => ?_))))
        have hin := lists_in c11 (by omega)
        refine reg_quiet (Φ := phiL [(fun uz _ => uz = (Value.agg #[tv, (Value.slice none 0 0)])), (fun uz _ => uz = (ptr b7 12)), (fun uz _ => uz = s.nv), (fun uz w' => ∃ (b89 : (Nat)) (o90 : (Nat)), uz = (ptr b89 o90) ∧ PtC w' 0 w.heap.size b89 o90 [(Value.int .i64 (s.inner.getD 0 default).f.kind), (Value.string (bs (s.inner.getD 0 default).f.tb)), (Value.string (bs (s.inner.getD 0 default).f.nm)), (s.inner.getD 0 default).f.cv, (s.inner.getD 0 default).f.gv, (s.inner.getD 0 default).f.vv, (s.inner.getD 0 default).f.iv, (Value.string (bs (s.inner.getD 0 default).f.join)), (s.inner.getD 0 default).f.ov, (s.inner.getD 0 default).f.wv, (s.inner.getD 0 default).f.rv, (Value.bool (s.inner.getD 0 default).f.desc), (s.inner.getD 0 default).nv]), (fun uz _ => uz = (Value.agg #[(Value.int .i64 (s.inner.getD 0 default).f.kind), (Value.string (bs (s.inner.getD 0 default).f.tb)), (Value.string (bs (s.inner.getD 0 default).f.nm)), (s.inner.getD 0 default).f.cv, (s.inner.getD 0 default).f.gv, (s.inner.getD 0 default).f.vv, (s.inner.getD 0 default).f.iv, (Value.string (bs (s.inner.getD 0 default).f.join)), (s.inner.getD 0 default).f.ov, (s.inner.getD 0 default).f.wv, (s.inner.getD 0 default).f.rv, (Value.bool (s.inner.getD 0 default).f.desc), (s.inner.getD 0 default).nv])), (fun uz _ => uz = (Value.int .i64 (checkE (D.map DTab.t) [] (s.inner.getD 0 default)))), (fun uz _ => uz = (Value.int .i64 (checkE (D.map DTab.t) [] (s.inner.getD 0 default))))]) mixed (by kernel_rfl) (by kernel_rfl) (by kernel_rfl) hN (StL.get (StL.eq (StL.eq (StL.eq (StL.cons (fun u w1 w2 E h => by obtain ⟨x0, x1, hv, f0⟩ := h; exact ⟨x0, x1, hv, f0.keep0 E⟩) (StL.eq (StL.eq (StL.eq (StL.nil _))))))))) (ObL.get (s := 7) (ObL.cons ?_ (ObL.cons ?_ (ObL.cons ?_ (ObL.cons ?_ (ObL.cons ?_ (ObL.cons ?_ (ObL.cons ?_ (ObL.nil)))))))) rfl) ?_
        ·
         intro aA wA hNA hRA hbsA hdpA
         have hRA : w15.grownBy wA none := hRA
         have z_wA := hRA.size
         have hnall := hnall.keep0 hRA
         have hB5 := hB5.keep0 hRA
         have qA_2 := (hbsA 2 rfl).trans (sl_hit hN rfl)
         clear hbsA hdpA
         refine op_loadA (cs := [tv, (Value.slice none 0 0)]) agg39 rfl (ev_base hNA rfl qA_2) (fun j u hu => by rw [Nat.zero_add]; exact hB5.cell hu) ?_
         exact obN_end rfl rfl (grown_refl _ _)
        ·
         intro aA wA hNA hRA hbsA hdpA
         have qA_3 := (hbsA 3 rfl).trans (sl_hit hN rfl)
         refine op_field fld45_12 (ev_base hNA rfl qA_3) ?_
         exact obN_end rfl rfl (grown_refl _ _)
        ·
         intro aA wA hNA hRA hbsA hdpA
         have hRA : w15.grownBy wA none := hRA
         have z_wA := hRA.size
         have hnall := hnall.keep0 hRA
         have hB9 := hB9.keep0 hRA
         have qA_53 : Sl aA 53 (ptr b7 12) := hdpA 1 _ 53 (by kernel_rfl) rfl rfl
         clear hbsA hdpA
         refine op_load1 (v := s.nv) one43 (ev_base hNA rfl qA_53) (hB9.cell rfl) ?_
         exact obN_end rfl rfl (grown_refl _ _)
        ·
         intro aA wA hNA hRA hbsA hdpA
         have hRA : w15.grownBy wA none := hRA
         have z_wA := hRA.size
         have hfn := hfn.keep0 hRA
         have hnall := hnall.keep0 hRA
         have qA_54 : Sl aA 54 s.nv := hdpA 2 _ 54 (by kernel_rfl) rfl rfl
         clear hbsA hdpA
         refine op_index_rd slt43 (ev_base hNA rfl qA_54) hfn rfl (by omega) (by omega) ?_
         intro b89 o90 h0b89 h1b89 hc91
         have hp92 : PtC wA 0 w.heap.size b89 o90 [(Value.int .i64 (s.inner.getD 0 default).f.kind), (Value.string (bs (s.inner.getD 0 default).f.tb)), (Value.string (bs (s.inner.getD 0 default).f.nm)), (s.inner.getD 0 default).f.cv, (s.inner.getD 0 default).f.gv, (s.inner.getD 0 default).f.vv, (s.inner.getD 0 default).f.iv, (Value.string (bs (s.inner.getD 0 default).f.join)), (s.inner.getD 0 default).f.ov, (s.inner.getD 0 default).f.wv, (s.inner.getD 0 default).f.rv, (Value.bool (s.inner.getD 0 default).f.desc), (s.inner.getD 0 default).nv] := ⟨by omega, by omega, fun j u hu => hc91 j u (by have := (List.getElem?_eq_some_iff.1 hu).1; simpa using this) ((el_xs (i := 0) (by omega) (by omega)) j u hu)⟩
         exact obN_end rfl ⟨b89, o90, rfl, hp92⟩ (grown_refl _ _)
        ·
         intro aA wA hNA hRA hbsA hdpA
         have hRA : w15.grownBy wA none := hRA
         have z_wA := hRA.size
         have hnall := hnall.keep0 hRA
         obtain ⟨b89, o90, qA_55, hp92⟩ := hdpA 3 _ 55 (by kernel_rfl) rfl rfl
         have hp92 : PtC wA 0 w.heap.size b89 o90 [(Value.int .i64 (s.inner.getD 0 default).f.kind), (Value.string (bs (s.inner.getD 0 default).f.tb)), (Value.string (bs (s.inner.getD 0 default).f.nm)), (s.inner.getD 0 default).f.cv, (s.inner.getD 0 default).f.gv, (s.inner.getD 0 default).f.vv, (s.inner.getD 0 default).f.iv, (Value.string (bs (s.inner.getD 0 default).f.join)), (s.inner.getD 0 default).f.ov, (s.inner.getD 0 default).f.wv, (s.inner.getD 0 default).f.rv, (Value.bool (s.inner.getD 0 default).f.desc), (s.inner.getD 0 default).nv] := hp92
         clear hbsA hdpA
         refine op_loadA (cs := [(Value.int .i64 (s.inner.getD 0 default).f.kind), (Value.string (bs (s.inner.getD 0 default).f.tb)), (Value.string (bs (s.inner.getD 0 default).f.nm)), (s.inner.getD 0 default).f.cv, (s.inner.getD 0 default).f.gv, (s.inner.getD 0 default).f.vv, (s.inner.getD 0 default).f.iv, (Value.string (bs (s.inner.getD 0 default).f.join)), (s.inner.getD 0 default).f.ov, (s.inner.getD 0 default).f.wv, (s.inner.getD 0 default).f.rv, (Value.bool (s.inner.getD 0 default).f.desc), (s.inner.getD 0 default).nv]) agg45 rfl (ev_base hNA rfl qA_55) (fun j u hu => hp92.2.2 j u hu) ?_
         exact obN_end rfl rfl (grown_refl _ _)
        ·
         intro aA wA hNA hRA hbsA hdpA
         have hRA : w15.grownBy wA none := hRA
         have z_wA := hRA.size
         have hT := hT.keep0 hRA
         have hnall := hnall.keep0 hRA
         have qA_52 : Sl aA 52 (Value.agg #[tv, (Value.slice none 0 0)]) := hdpA 0 _ 52 (by kernel_rfl) rfl rfl
         have qA_56 : Sl aA 56 (Value.agg #[(Value.int .i64 (s.inner.getD 0 default).f.kind), (Value.string (bs (s.inner.getD 0 default).f.tb)), (Value.string (bs (s.inner.getD 0 default).f.nm)), (s.inner.getD 0 default).f.cv, (s.inner.getD 0 default).f.gv, (s.inner.getD 0 default).f.vv, (s.inner.getD 0 default).f.iv, (Value.string (bs (s.inner.getD 0 default).f.join)), (s.inner.getD 0 default).f.ov, (s.inner.getD 0 default).f.wv, (s.inner.getD 0 default).f.rv, (Value.bool (s.inner.getD 0 default).f.desc), (s.inner.getD 0 default).nv]) := hdpA 4 _ 56 (by kernel_rfl) rfl rfl
         clear hbsA hdpA
         refine op_fn (vs := [(Value.agg #[tv, (Value.slice none 0 0)]), (Value.agg #[(Value.int .i64 (s.inner.getD 0 default).f.kind), (Value.string (bs (s.inner.getD 0 default).f.tb)), (Value.string (bs (s.inner.getD 0 default).f.nm)), (s.inner.getD 0 default).f.cv, (s.inner.getD 0 default).f.gv, (s.inner.getD 0 default).f.vv, (s.inner.getD 0 default).f.iv, (Value.string (bs (s.inner.getD 0 default).f.join)), (s.inner.getD 0 default).f.ov, (s.inner.getD 0 default).f.wv, (s.inner.getD 0 default).f.rv, (Value.bool (s.inner.getD 0 default).f.desc), (s.inner.getD 0 default).nv])]) ok19 ⟨(ev_base hNA rfl qA_52), ⟨(ev_base hNA rfl qA_56), trivial⟩⟩ (ih _ (getD_mem (by omega)) (hT.mono (by omega)) hD hsz ((hnall _ (getD_mem (by omega))).mono (by omega))) ?_
         rintro _ w93 ⟨E94, rfl⟩
         have E94 := grown_of_below E94
         have z_w93 := E94.size
         have hnall := hnall.keep0 E94
         exact obN_end rfl rfl (E94)
        ·
         intro aA wA hNA hRA hbsA hdpA
         have qA_57 : Sl aA 57 (Value.int .i64 (checkE (D.map DTab.t) [] (s.inner.getD 0 default))) := hdpA 5 _ 57 (by kernel_rfl) rfl rfl
         refine op_assign (ev_base hNA rfl qA_57) ?_
         exact obN_end rfl rfl (grown_refl _ _)
        ·
         intro a95 w95 hN95 hd95 hbs95 hph95 E95
         have hd95 := hd95.trans hd
         have s95_4 : Sl a95 4 (Value.int .i64 (checkE (D.map DTab.t) [] (s.inner.getD 0 default))) := hph95 6 _ 4 rfl rfl
         clear hbs95 hph95
         have E95 : w15.grownBy w95 none := E95
         have z_w95 := E95.size
         have hnall := hnall.keep0 E95
         have hb := below_step0 hb E95 hb.size
         refine hK88 _ _ (wp_ret (blk_ret (then_ret ( ?_))))
         refine ret1 rfl hd95 (ev_base hN95 rfl s95_4) ⟨_, rfl, ?_⟩
         have e9 : checkE (D.map DTab.t) [] s = (checkE (D.map DTab.t) [] (s.inner.getD 0 default)) := check_in c11 (by omega)
         rw [e9]; exact ⟨hb, rfl⟩
       ·
        refine op_assign (ev_hit hN rfl) (reg_nil (hK78 _ _ (wp_cond_false (ev_hit hN rfl) (seq_any fun K96 hK96 => ?_))))
        refine one_reg (op_eql (ev_hit hN rfl) rfl (fun c59 => ?_) (fun c59 => ?_))
        ·
         refine op_assign (ev_hit hN rfl) (reg_nil (hK96 _ _ (wp_cond_true (ev_hit hN rfl) (seq_any fun K97 hK97 => one_reg (op_loadA (cs := [tv, (Value.slice none 0 0)]) agg39 rfl (ev_hit hN rfl) (fun j u hu => by rw [Nat.zero_add]; exact hB5.cell hu) ?_)))))
         refine op_field fld45_2 (ev_hit hN rfl) (op_load1 (v := (Value.string (bs s.f.nm))) one9 (ev_hit hN rfl) (hB9.cell rfl) (op_fn (vs := [(Value.agg #[tv, (Value.slice none 0 0)]), (Value.string (bs s.f.nm))]) ok47 ⟨(ev_hit hN rfl), ⟨(ev_hit hN rfl), trivial⟩⟩ (View0 tv s.f.nm _) ?_))
         rintro _ w98 ⟨E99, rfl⟩
         have E99 := grown_of_below E99
         have z_w98 := E99.size
         have hnall := hnall.keep0 E99
         have hb := below_step0 hb E99 hb.size
         refine op_move (ev_hit hN rfl) (op_extract (ev_hit hN rfl) rfl ?_)
         refine op_extract (ev_hit hN rfl) rfl ?_
         refine op_alloc (cs := [(Value.string (bs [])), (Value.slice none 0 0), (Value.int .i64 0), (Value.string (bs [])), (Value.string (bs [])), (Value.slice none 0 0), (Value.slice none 0 0), (Value.slice none 0 0), (Value.slice none 0 0), (Value.string (bs [])), (Value.slice none 0 0), (Value.slice none 0 0), (Value.slice none 0 0), (Value.bool false), (Value.slice none 0 0)]) zero98 rfl ?_
         intro w100 b101 lo_b101 hi_b101 hB103 E102
         have z_w100 := E102.size
         have hnall := hnall.keep0 E102
         have hb := below_step0 hb E102 hb.size
         refine op_store (vs := [(Value.string (bs [])), (Value.slice none 0 0), (Value.int .i64 0), (Value.string (bs [])), (Value.string (bs [])), (Value.slice none 0 0), (Value.slice none 0 0), (Value.slice none 0 0), (Value.slice none 0 0), (Value.string (bs [])), (Value.slice none 0 0), (Value.slice none 0 0), (Value.slice none 0 0), (Value.bool false), (Value.slice none 0 0)]) (cs' := [(Value.string (bs [])), (Value.slice none 0 0), (Value.int .i64 0), (Value.string (bs [])), (Value.string (bs [])), (Value.slice none 0 0), (Value.slice none 0 0), (Value.slice none 0 0), (Value.slice none 0 0), (Value.string (bs [])), (Value.slice none 0 0), (Value.slice none 0 0), (Value.slice none 0 0), (Value.bool false), (Value.slice none 0 0)]) size98 (ev_hit hN rfl) (ev_hit hN rfl) rfl rfl rfl hB103 (Nat.le_of_ble_eq_true rfl) rfl ?_
         intro w107 hB103 E108
         have z_w107 := E108.size
         have hnall := hnall.keep E108 (fun k hk => .inr (by simp at hk; omega))
         have hb := below_step1 hb E108 hb.size (by omega)
         refine op_assign (ev_hit hN rfl) (reg_nil (hK97 _ _ (seq_any fun K109 hK109 => one_reg (op_move (ev_hit hN rfl) (op_not (ev_hit hN rfl) ?_)))))
         refine reg_nil (hK109 _ _ ?_)
         refine wp_cond_true (ev_hit hN rfl) (seq_any fun K110 hK110 => one_reg (op_assign rfl (reg_nil (hK110 _ _ (wp_ret (blk_ret (then_ret ( ?_))))))))
         refine ret1 rfl hd (ev_hit hN rfl) ⟨_, rfl, ?_⟩
         have e9 : checkE (D.map DTab.t) [] s = 22 := (check_flat c11 (by omega)).trans (flat_call c59)
         rw [e9]; exact ⟨hb, rfl⟩
        ·
         refine op_assign (ev_hit hN rfl) (reg_nil (hK96 _ _ (wp_cond_false (ev_hit hN rfl) (wp_skip ?_))))
         refine hK19 _ _ (seq_any fun K111 hK111 => one_reg (op_assign rfl (reg_nil (hK111 _ _ (wp_ret ?_)))))
         refine ret1 rfl hd (ev_hit hN rfl) ⟨_, rfl, ?_⟩
         have e9 : checkE (D.map DTab.t) [] s = 0 := (check_flat c11 (by omega)).trans (flat_else (by omega))
         rw [e9]; exact ⟨hb, rfl⟩
 ·
  rw [c11]
  refine op_not (ev_hit hN rfl) ?_
  refine reg_nil (hK11 _ _ ?_)
  refine wp_cond_true (ev_hit hN rfl) (seq_any fun K112 hK112 => one_reg (op_assign rfl (reg_nil (hK112 _ _ (wp_ret (then_ret ( ?_)))))))
  refine ret1 rfl hd (ev_hit hN rfl) ⟨_, rfl, ?_⟩
  have e9 : checkE (D.map DTab.t) [] s = 1 := check_bad c11
  rw [e9]; exact ⟨hb, rfl⟩

theorem Check_all : ∀ s, CheckP s := XS.ind fun s ih tv D w hT hD hsz he => Check_in s ih hT hD hsz he
end Go.Proofs.Ythflnkfghogaoaa

namespace Go.Gx
section
variable {w w' : World} {B b : Nat} {e e2 : XE} {v : Value}
theorem XRd.bare (hv : e.av = .slice none 0 0) (ha : e.args = []) : XRd w B e := .mk (by rw [hv, ha]; exact RdC.nil _ _ _ _) (by rw [ha]; exact fun _ h => (by cases h))
theorem XsRd.lit1 (hx : Bx w b 28 (cellsX e)) (hb : b < B) (he : XRd w B e) : XsRd w B (.slice (some ⟨b, 0, none⟩) 1 1) [e] :=
  ⟨((RdC.ofBx (sz := 7) (n := 1) hx rfl (by decide)).mono (Nat.zero_le _) hb).cast rfl (List.append_nil _).symm, fun a ha => by rw [List.mem_singleton] at ha; subst ha; exact he⟩
theorem XsRd.lit2 (hx : Bx w b 28 (cellsX e ++ cellsX e2)) (hb : b < B) (he : XRd w B e) (he2 : XRd w B e2) : XsRd w B (.slice (some ⟨b, 0, none⟩) 2 2) [e, e2] :=
  ⟨((RdC.ofBx (sz := 7) (n := 2) hx rfl (by decide)).mono (Nat.zero_le _) hb).cast rfl (by simp), fun a ha => by
    rcases List.mem_cons.1 ha with rfl | ha
    · exact he
    · rw [List.mem_singleton] at ha; subst ha; exact he2⟩
theorem rd_items {x : PItm} (hx : Bx w b 63 (cellsI x)) (hb : b < B) : RdC w 0 B 3 (.slice (some ⟨b, 0, none⟩) 1 1) [x].length ([x].flatMap cellsI) :=
  ((RdC.ofBx (sz := 3) (n := 1) hx rfl (by decide)).mono (Nat.zero_le _) hb).cast rfl (List.append_nil _).symm
theorem rd_cols3 {c1 c2 c3 : PCol} (hx : Bx w b 68 (cellsC c1 ++ cellsC c2 ++ cellsC c3)) (hb : b < B) : RdC w 0 B 3 (.slice (some ⟨b, 0, none⟩) 3 3) [c1, c2, c3].length ([c1, c2, c3].flatMap cellsC) :=
  ((RdC.ofBx (sz := 3) (n := 3) hx rfl (by decide)).mono (Nat.zero_le _) hb).cast rfl (by simp)
theorem rd_str1 {x : List UInt8} (hx : Bx w b 9 [.string (bs x)]) (hb : b < B) : RdC w 0 B 1 (.slice (some ⟨b, 0, none⟩) 1 1) [x].length ([x].map sv) :=
  ((RdC.ofBx (sz := 1) (n := 1) hx rfl (by decide)).mono (Nat.zero_le _) hb).cast rfl rfl
end
def tabT : PTab := ⟨[116], [⟨[107], 1, []⟩, ⟨[118], 2, []⟩, ⟨[110], 1, []⟩], [[110]]⟩
def tabU : PTab := ⟨[117], [⟨[107], 2, []⟩, ⟨[114], 1, [116]⟩, ⟨[110], 1, []⟩], []⟩
def schT : List PTab := [tabT, tabU]
theorem sch_mk {w : World} {B b1 b2 b3 b4 : Nat} (h1 : Bx w b1 68 [.string (bs [107]), .int .i64 1, .string (bs []), .string (bs [118]), .int .i64 2, .string (bs []), .string (bs [110]), .int .i64 1, .string (bs [])]) (h2 : Bx w b2 9 [.string (bs [110])])
    (h3 : Bx w b3 68 [.string (bs [107]), .int .i64 2, .string (bs []), .string (bs [114]), .int .i64 1, .string (bs [116]), .string (bs [110]), .int .i64 1, .string (bs [])])
    (h4 : Bx w b4 55 [.string (bs [116]), .slice (some ⟨b1, 0, none⟩) 3 3, .slice (some ⟨b2, 0, none⟩) 1 1, .string (bs [117]), .slice (some ⟨b3, 0, none⟩) 3 3, .slice none 0 0]) (g1 : b1 < B) (g2 : b2 < B) (g3 : b3 < B) (g4 : b4 < B) :
    ∃ D : List DTab, D.map DTab.t = schT ∧ TsRd w B (.slice (some ⟨b4, 0, none⟩) 2 2) D :=
  ⟨[⟨tabT, .slice (some ⟨b1, 0, none⟩) 3 3, .slice (some ⟨b2, 0, none⟩) 1 1⟩, ⟨tabU, .slice (some ⟨b3, 0, none⟩) 3 3, .slice none 0 0⟩], rfl,
    ((RdC.ofBx (sz := 3) (n := 2) h4 rfl (by decide)).mono (Nat.zero_le _) g4).cast rfl (by simp [cellsT, tabT, tabU]), fun d hd => by
      rcases List.mem_cons.1 hd with rfl | hd
      · exact ⟨rd_cols3 (c1 := ⟨[107], 1, []⟩) (c2 := ⟨[118], 2, []⟩) (c3 := ⟨[110], 1, []⟩) h1 g1, rd_str1 h2 g2⟩
      · rw [List.mem_singleton] at hd; subst hd
        exact ⟨rd_cols3 (c1 := ⟨[107], 2, []⟩) (c2 := ⟨[114], 1, [116]⟩) (c3 := ⟨[110], 1, []⟩) h3 g3, RdC.nil _ _ _ _⟩⟩
theorem sch_sz {D : List DTab} (h : D.map DTab.t = schT) : D.length ≤ 1000000 ∧ ∀ d ∈ D, d.t.cols.length ≤ 1000000 ∧ d.t.idx.length ≤ 1000000 := by
  refine ⟨by have := congrArg List.length h; simp [schT] at this; omega, fun d hd => ?_⟩
  have : d.t ∈ schT := by rw [← h]; exact List.mem_map.2 ⟨d, hd, rfl⟩
  rcases List.mem_cons.1 this with h | h
  · rw [h]; decide
  · rw [List.mem_singleton] at h; rw [h]; decide
end Go.Gx

namespace Go.Proofs.Ythflnkfghogaoaa
open Go.Gx Go.RowKit
attribute [local irreducible] wpList wpStill Code.wp Calls

theorem Schema_ret (w : World) : Ret Try.prog 16 #[] w (fun v' w' => Below w.heap.size w w' ∧ ∃ (tv : Value) (D : List DTab), v' = .agg #[tv, .slice none 0 0] ∧ D.map DTab.t = schT ∧ TsRd w' w'.heap.size tv D) := by
 have hb := Below.refl w.heap.size w
 refine enter (N := 14) Try.func16 rfl rfl (by simp) fun a0 hN hd hA => ?_
 clear hA
 refine seq_any fun K1 hK1 => one_reg (op_alloc (cs := [(Value.slice none 0 0), (Value.slice none 0 0)]) zero39 rfl ?_)
 intro w2 b3 lo_b3 hi_b3 hB5 E4
 have z_w2 := E4.size
 have hb := below_step0 hb E4 hb.size
 refine reg_nil (hK1 _ _ (seq_any fun K6 hK6 => one_reg (op_build (pv := [(0, (Value.string (bs [107]))), (1, (Value.int .i64 1))]) (v := (Value.agg #[(Value.string (bs [107])), (Value.int .i64 1), (Value.string (bs []))])) ⟨rfl, rfl, ⟨rfl, rfl, trivial⟩⟩ (by kernel_rfl) ?_)))
 refine op_build (pv := [(0, (Value.string (bs [118]))), (1, (Value.int .i64 2))]) (v := (Value.agg #[(Value.string (bs [118])), (Value.int .i64 2), (Value.string (bs []))])) ⟨rfl, rfl, ⟨rfl, rfl, trivial⟩⟩ (by kernel_rfl) ?_
 refine op_build (pv := [(0, (Value.string (bs [110]))), (1, (Value.int .i64 1))]) (v := (Value.agg #[(Value.string (bs [110])), (Value.int .i64 1), (Value.string (bs []))])) ⟨rfl, rfl, ⟨rfl, rfl, trivial⟩⟩ (by kernel_rfl) ?_
 refine op_bslice (e := 68) (pv := [(0, (Value.agg #[(Value.string (bs [107])), (Value.int .i64 1), (Value.string (bs []))])), (1, (Value.agg #[(Value.string (bs [118])), (Value.int .i64 2), (Value.string (bs []))])), (2, (Value.agg #[(Value.string (bs [110])), (Value.int .i64 1), (Value.string (bs []))]))]) (cs := [(Value.string (bs [107])), (Value.int .i64 1), (Value.string (bs [])), (Value.string (bs [118])), (Value.int .i64 2), (Value.string (bs [])), (Value.string (bs [110])), (Value.int .i64 1), (Value.string (bs []))]) ⟨rfl, (ev_hit hN rfl), ⟨rfl, (ev_hit hN rfl), ⟨rfl, (ev_hit hN rfl), trivial⟩⟩⟩ (by kernel_rfl) ?_
 intro w7 b8 lo_b8 hi_b8 hB10 E9
 have z_w7 := E9.size
 have hB5 := hB5.keep0 E9
 have hb := below_step0 hb E9 hb.size
 refine op_bslice (e := 9) (pv := [(0, (Value.string (bs [110])))]) (cs := [(Value.string (bs [110]))]) ⟨rfl, rfl, trivial⟩ (by kernel_rfl) ?_
 intro w11 b12 lo_b12 hi_b12 hB14 E13
 have z_w11 := E13.size
 have hB5 := hB5.keep0 E13
 have hB10 := hB10.keep0 E13
 have hb := below_step0 hb E13 hb.size
 refine op_build (pv := [(0, (Value.string (bs [116]))), (1, (Value.slice (some ⟨b8, 0, none⟩) 3 3)), (2, (Value.slice (some ⟨b12, 0, none⟩) 1 1))]) (v := (Value.agg #[(Value.string (bs [116])), (Value.slice (some ⟨b8, 0, none⟩) 3 3), (Value.slice (some ⟨b12, 0, none⟩) 1 1)])) ⟨rfl, rfl, ⟨rfl, (ev_hit hN rfl), ⟨rfl, (ev_hit hN rfl), trivial⟩⟩⟩ (by kernel_rfl) ?_
 refine op_build (pv := [(0, (Value.string (bs [107]))), (1, (Value.int .i64 2))]) (v := (Value.agg #[(Value.string (bs [107])), (Value.int .i64 2), (Value.string (bs []))])) ⟨rfl, rfl, ⟨rfl, rfl, trivial⟩⟩ (by kernel_rfl) ?_
 refine op_build (pv := [(0, (Value.string (bs [114]))), (1, (Value.int .i64 1)), (2, (Value.string (bs [116])))]) (v := (Value.agg #[(Value.string (bs [114])), (Value.int .i64 1), (Value.string (bs [116]))])) ⟨rfl, rfl, ⟨rfl, rfl, ⟨rfl, rfl, trivial⟩⟩⟩ (by kernel_rfl) ?_
 refine op_build (pv := [(0, (Value.string (bs [110]))), (1, (Value.int .i64 1))]) (v := (Value.agg #[(Value.string (bs [110])), (Value.int .i64 1), (Value.string (bs []))])) ⟨rfl, rfl, ⟨rfl, rfl, trivial⟩⟩ (by kernel_rfl) ?_
 refine op_bslice (e := 68) (pv := [(0, (Value.agg #[(Value.string (bs [107])), (Value.int .i64 2), (Value.string (bs []))])), (1, (Value.agg #[(Value.string (bs [114])), (Value.int .i64 1), (Value.string (bs [116]))])), (2, (Value.agg #[(Value.string (bs [110])), (Value.int .i64 1), (Value.string (bs []))]))]) (cs := [(Value.string (bs [107])), (Value.int .i64 2), (Value.string (bs [])), (Value.string (bs [114])), (Value.int .i64 1), (Value.string (bs [116])), (Value.string (bs [110])), (Value.int .i64 1), (Value.string (bs []))]) ⟨rfl, (ev_hit hN rfl), ⟨rfl, (ev_hit hN rfl), ⟨rfl, (ev_hit hN rfl), trivial⟩⟩⟩ (by kernel_rfl) ?_
 intro w15 b16 lo_b16 hi_b16 hB18 E17
 have z_w15 := E17.size
 have hB5 := hB5.keep0 E17
 have hB10 := hB10.keep0 E17
 have hB14 := hB14.keep0 E17
 have hb := below_step0 hb E17 hb.size
 refine op_build (pv := [(0, (Value.string (bs [117]))), (1, (Value.slice (some ⟨b16, 0, none⟩) 3 3))]) (v := (Value.agg #[(Value.string (bs [117])), (Value.slice (some ⟨b16, 0, none⟩) 3 3), (Value.slice none 0 0)])) ⟨rfl, rfl, ⟨rfl, (ev_hit hN rfl), trivial⟩⟩ (by kernel_rfl) ?_
 refine op_bslice (e := 55) (pv := [(0, (Value.agg #[(Value.string (bs [116])), (Value.slice (some ⟨b8, 0, none⟩) 3 3), (Value.slice (some ⟨b12, 0, none⟩) 1 1)])), (1, (Value.agg #[(Value.string (bs [117])), (Value.slice (some ⟨b16, 0, none⟩) 3 3), (Value.slice none 0 0)]))]) (cs := [(Value.string (bs [116])), (Value.slice (some ⟨b8, 0, none⟩) 3 3), (Value.slice (some ⟨b12, 0, none⟩) 1 1), (Value.string (bs [117])), (Value.slice (some ⟨b16, 0, none⟩) 3 3), (Value.slice none 0 0)]) ⟨rfl, (ev_hit hN rfl), ⟨rfl, (ev_hit hN rfl), trivial⟩⟩ (by kernel_rfl) ?_
 intro w19 b20 lo_b20 hi_b20 hB22 E21
 have z_w19 := E21.size
 have hB5 := hB5.keep0 E21
 have hB10 := hB10.keep0 E21
 have hB14 := hB14.keep0 E21
 have hB18 := hB18.keep0 E21
 have hb := below_step0 hb E21 hb.size
 refine op_build (pv := [(0, (Value.slice (some ⟨b20, 0, none⟩) 2 2))]) (v := (Value.agg #[(Value.slice (some ⟨b20, 0, none⟩) 2 2), (Value.slice none 0 0)])) ⟨rfl, (ev_hit hN rfl), trivial⟩ (by kernel_rfl) ?_
 have hB5_old := hB5
 refine op_store (vs := [(Value.slice (some ⟨b20, 0, none⟩) 2 2), (Value.slice none 0 0)]) (cs' := [(Value.slice (some ⟨b20, 0, none⟩) 2 2), (Value.slice none 0 0)]) size39 (ev_hit hN rfl) (ev_hit hN rfl) rfl rfl rfl hB5 (Nat.le_of_ble_eq_true rfl) rfl ?_
 intro w25 hB5 E26
 have z_w25 := E26.size
 have hB10 := hB10.keep E26 (fun hh => hB10.ne hB5_old (by decide) (Option.some.inj hh))
 have hB14 := hB14.keep E26 (fun hh => hB14.ne hB5_old (by decide) (Option.some.inj hh))
 have hB18 := hB18.keep E26 (fun hh => hB18.ne hB5_old (by decide) (Option.some.inj hh))
 have hB22 := hB22.keep E26 (fun hh => hB22.ne hB5_old (by decide) (Option.some.inj hh))
 have hb := below_step1 hb E26 hb.size (by omega)
 refine reg_nil (hK6 _ _ (wp_ret ?_))
 refine retN (rs := [.cell 0 39]) (vs := [(Value.agg #[(Value.slice (some ⟨b20, 0, none⟩) 2 2), (Value.slice none 0 0)])]) rfl hd ⟨⟨_, (ev_hit hN rfl), run_loadA (cs := [(Value.slice (some ⟨b20, 0, none⟩) 2 2), (Value.slice none 0 0)]) agg39 rfl (fun j u hu => by rw [Nat.zero_add]; exact hB5.cell hu)⟩, trivial⟩ rfl ⟨_, rfl, ?_⟩
 obtain ⟨D, hM, hT⟩ := sch_mk (B := w25.heap.size) hB10 hB14 hB18 hB22 (by omega) (by omega) (by omega) (by omega)
 exact ⟨hb, _, D, rfl, hM, hT⟩

theorem checkM {tv : Value} {D : List DTab} {w : World} (hM : D.map DTab.t = schT) (s : XS) (hT : TsRd w w.heap.size tv D) (hD : D.length ≤ 1000000) (hsz : ∀ d ∈ D, d.t.cols.length ≤ 1000000 ∧ d.t.idx.length ≤ 1000000) (he : SRd w w.heap.size s) : Ret Try.prog 19 #[.agg #[tv, .slice none 0 0], (Value.agg #[(Value.int .i64 s.f.kind), (Value.string (bs s.f.tb)), (Value.string (bs s.f.nm)), s.f.cv, s.f.gv, s.f.vv, s.f.iv, (Value.string (bs s.f.join)), s.f.ov, s.f.wv, s.f.rv, (Value.bool s.f.desc), s.nv])] w (fun v' w' => Below w.heap.size w w' ∧ v' = .int .i64 (checkE schT [] s)) := by
  have := Check_all s hT hD hsz he; rw [hM] at this; exact this
theorem Kind_nil {w : World} (e : XE) (he : XRd w w.heap.size e) : Ret Try.prog 14 #[.slice none 0 0, .slice none 0 0, (Value.agg #[(Value.int .i64 e.op), (Value.int .i64 e.vk), (Value.int .i64 e.vi), (Value.string (bs e.vt)), (Value.string (bs e.tb)), (Value.string (bs e.nm)), e.av])] w (fun v' w' => Below w.heap.size w w' ∧ v' = .tuple #[.int .i64 (kindX [] [] e).1, .int .i64 (kindX [] [] e).2]) := by
  have h : KindP e := Kind_all e
  unfold KindP at h
  exact h (C := []) (K := []) (by decide) (by decide) (RdC.nil _ _ _ _) (RdC.nil _ _ _ _) he

theorem begun10_ret (w : World) : Ret Try.prog 12 #[] w (fun v' w' => Below w.heap.size w w' ∧ v' = .bool true) := by
 have hb := Below.refl w.heap.size w
 refine enter (N := 39) Try.func12 rfl rfl (by simp) fun a0 hN hd hA => ?_
 clear hA
 refine seq_any fun K1 hK1 => ?_
 refine one_reg (op_assign rfl (reg_nil (hK1 _ _ (seq_any fun K2 hK2 => one_reg (op_build (pv := [(0, (Value.int .i64 1)), (1, (Value.int .i64 1))]) (v := (Value.agg #[(Value.int .i64 1), (Value.int .i64 1), (Value.string (bs []))])) ⟨rfl, rfl, ⟨rfl, rfl, trivial⟩⟩ (by kernel_rfl) ?_)))))
 refine op_build (pv := [(0, (Value.int .i64 1)), (1, (Value.agg #[(Value.int .i64 1), (Value.int .i64 1), (Value.string (bs []))]))]) (v := (Value.agg #[(Value.int .i64 1), (Value.int .i64 1), (Value.int .i64 1), (Value.string (bs [])), (Value.string (bs [])), (Value.string (bs [])), (Value.slice none 0 0)])) ⟨rfl, rfl, ⟨rfl, (ev_hit hN rfl), trivial⟩⟩ (by kernel_rfl) ?_
 refine op_alloc (cs := [(Value.int .i64 0), (Value.int .i64 0), (Value.int .i64 0), (Value.string (bs [])), (Value.string (bs [])), (Value.string (bs [])), (Value.slice none 0 0)]) zero28 rfl ?_
 intro w3 b4 lo_b4 hi_b4 hB6 E5
 have z_w3 := E5.size
 have hb := below_step0 hb E5 hb.size
 refine op_store (vs := [(Value.int .i64 1), (Value.int .i64 1), (Value.int .i64 1), (Value.string (bs [])), (Value.string (bs [])), (Value.string (bs [])), (Value.slice none 0 0)]) (cs' := [(Value.int .i64 1), (Value.int .i64 1), (Value.int .i64 1), (Value.string (bs [])), (Value.string (bs [])), (Value.string (bs [])), (Value.slice none 0 0)]) size28 (ev_hit hN rfl) (ev_hit hN rfl) rfl rfl rfl hB6 (Nat.le_of_ble_eq_true rfl) rfl ?_
 intro w9 hB6 E10
 have z_w9 := E10.size
 have hb := below_step1 hb E10 hb.size (by omega)
 refine reg_nil (hK2 _ _ (seq_any fun K11 hK11 => one_reg (op_loadA (cs := [(Value.int .i64 1), (Value.int .i64 1), (Value.int .i64 1), (Value.string (bs [])), (Value.string (bs [])), (Value.string (bs [])), (Value.slice none 0 0)]) agg28 rfl (ev_hit hN rfl) (fun j u hu => by rw [Nat.zero_add]; exact hB6.cell hu) ?_)))
 refine op_loadA (cs := [(Value.int .i64 1), (Value.int .i64 1), (Value.int .i64 1), (Value.string (bs [])), (Value.string (bs [])), (Value.string (bs [])), (Value.slice none 0 0)]) agg28 rfl (ev_hit hN rfl) (fun j u hu => by rw [Nat.zero_add]; exact hB6.cell hu) ?_
 refine op_bslice (e := 28) (pv := [(0, (Value.agg #[(Value.int .i64 1), (Value.int .i64 1), (Value.int .i64 1), (Value.string (bs [])), (Value.string (bs [])), (Value.string (bs [])), (Value.slice none 0 0)])), (1, (Value.agg #[(Value.int .i64 1), (Value.int .i64 1), (Value.int .i64 1), (Value.string (bs [])), (Value.string (bs [])), (Value.string (bs [])), (Value.slice none 0 0)]))]) (cs := [(Value.int .i64 1), (Value.int .i64 1), (Value.int .i64 1), (Value.string (bs [])), (Value.string (bs [])), (Value.string (bs [])), (Value.slice none 0 0), (Value.int .i64 1), (Value.int .i64 1), (Value.int .i64 1), (Value.string (bs [])), (Value.string (bs [])), (Value.string (bs [])), (Value.slice none 0 0)]) ⟨rfl, (ev_hit hN rfl), ⟨rfl, (ev_hit hN rfl), trivial⟩⟩ (by kernel_rfl) ?_
 intro w12 b13 lo_b13 hi_b13 hB15 E14
 have z_w12 := E14.size
 have hB6 := hB6.keep0 E14
 have hb := below_step0 hb E14 hb.size
 refine op_build (pv := [(0, (Value.int .i64 8)), (4, (Value.slice (some ⟨b13, 0, none⟩) 2 2))]) (v := (Value.agg #[(Value.int .i64 8), (Value.int .i64 0), (Value.int .i64 0), (Value.string (bs [])), (Value.string (bs [])), (Value.string (bs [])), (Value.slice (some ⟨b13, 0, none⟩) 2 2)])) ⟨rfl, rfl, ⟨rfl, (ev_hit hN rfl), trivial⟩⟩ (by kernel_rfl) ?_
 refine op_fn (vs := [(Value.slice none 0 0), (Value.slice none 0 0), (Value.agg #[(Value.int .i64 8), (Value.int .i64 0), (Value.int .i64 0), (Value.string (bs [])), (Value.string (bs [])), (Value.string (bs [])), (Value.slice (some ⟨b13, 0, none⟩) 2 2)])]) ok14 ⟨rfl, ⟨rfl, ⟨(ev_hit hN rfl), trivial⟩⟩⟩ (Kind_nil (XE.mk 8 0 0 [] [] [] (Value.slice (some ⟨b13, 0, none⟩) 2 2) [(XE.mk 1 1 1 [] [] [] (Value.slice none 0 0) []), (XE.mk 1 1 1 [] [] [] (Value.slice none 0 0) [])]) (XsRd.node (e := (XE.mk 8 0 0 [] [] [] (Value.slice (some ⟨b13, 0, none⟩) 2 2) [(XE.mk 1 1 1 [] [] [] (Value.slice none 0 0) []), (XE.mk 1 1 1 [] [] [] (Value.slice none 0 0) [])])) (XsRd.lit2 (e := (XE.mk 1 1 1 [] [] [] (Value.slice none 0 0) [])) (e2 := (XE.mk 1 1 1 [] [] [] (Value.slice none 0 0) [])) hB15 (by omega) (XRd.bare rfl rfl) (XRd.bare rfl rfl)))) ?_
 rintro _ w16 ⟨E17, rfl⟩
 have E17 := grown_of_below E17
 have z_w16 := E17.size
 have hB6 := hB6.keep0 E17
 have hb := below_step0 hb E17 hb.size
 refine op_move (ev_hit hN rfl) (op_extract (ev_hit hN rfl) rfl ?_)
 refine op_extract (ev_hit hN rfl) rfl ?_
 refine op_assign (ev_hit hN rfl) (op_assign (ev_hit hN rfl) (reg_nil (hK11 _ _ (seq_any fun K18 hK18 => one_reg (op_loadA (cs := [(Value.int .i64 1), (Value.int .i64 1), (Value.int .i64 1), (Value.string (bs [])), (Value.string (bs [])), (Value.string (bs [])), (Value.slice none 0 0)]) agg28 rfl (ev_hit hN rfl) (fun j u hu => by rw [Nat.zero_add]; exact hB6.cell hu) ?_)))))
 refine op_bslice (e := 28) (pv := [(0, (Value.agg #[(Value.int .i64 1), (Value.int .i64 1), (Value.int .i64 1), (Value.string (bs [])), (Value.string (bs [])), (Value.string (bs [])), (Value.slice none 0 0)]))]) (cs := [(Value.int .i64 1), (Value.int .i64 1), (Value.int .i64 1), (Value.string (bs [])), (Value.string (bs [])), (Value.string (bs [])), (Value.slice none 0 0)]) ⟨rfl, (ev_hit hN rfl), trivial⟩ (by kernel_rfl) ?_
 intro w19 b20 lo_b20 hi_b20 hB22 E21
 have z_w19 := E21.size
 have hb := below_step0 hb E21 hb.size
 refine op_build (pv := [(0, (Value.int .i64 4)), (4, (Value.slice (some ⟨b20, 0, none⟩) 1 1))]) (v := (Value.agg #[(Value.int .i64 4), (Value.int .i64 0), (Value.int .i64 0), (Value.string (bs [])), (Value.string (bs [])), (Value.string (bs [])), (Value.slice (some ⟨b20, 0, none⟩) 1 1)])) ⟨rfl, rfl, ⟨rfl, (ev_hit hN rfl), trivial⟩⟩ (by kernel_rfl) ?_
 refine op_fn (vs := [(Value.slice none 0 0), (Value.slice none 0 0), (Value.agg #[(Value.int .i64 4), (Value.int .i64 0), (Value.int .i64 0), (Value.string (bs [])), (Value.string (bs [])), (Value.string (bs [])), (Value.slice (some ⟨b20, 0, none⟩) 1 1)])]) ok14 ⟨rfl, ⟨rfl, ⟨(ev_hit hN rfl), trivial⟩⟩⟩ (Kind_nil (XE.mk 4 0 0 [] [] [] (Value.slice (some ⟨b20, 0, none⟩) 1 1) [(XE.mk 1 1 1 [] [] [] (Value.slice none 0 0) [])]) (XsRd.node (e := (XE.mk 4 0 0 [] [] [] (Value.slice (some ⟨b20, 0, none⟩) 1 1) [(XE.mk 1 1 1 [] [] [] (Value.slice none 0 0) [])])) (XsRd.lit1 (e := (XE.mk 1 1 1 [] [] [] (Value.slice none 0 0) [])) hB22 (by omega) (XRd.bare rfl rfl)))) ?_
 rintro _ w23 ⟨E24, rfl⟩
 have E24 := grown_of_below E24
 have z_w23 := E24.size
 have hb := below_step0 hb E24 hb.size
 refine op_move (ev_hit hN rfl) (op_extract (ev_hit hN rfl) rfl ?_)
 refine op_extract (ev_hit hN rfl) rfl ?_
 refine op_assign (ev_hit hN rfl) (op_assign (ev_hit hN rfl) (reg_nil (hK18 _ _ (seq_any fun K25 hK25 => ?_))))
 refine one_reg (op_move (ev_hit hN rfl) (op_eql (ev_hit hN rfl) rfl (fun c24 => ?_) (fun c24 => ?_)))
 ·
  refine op_move (ev_hit hN rfl) (g_true (j := 2) (dj := 25) (b := true) rfl rfl rfl (ev_hit hN rfl) (op_move (ev_hit hN rfl) (g_true (j := 2) (dj := 25) (b := true) rfl rfl rfl (ev_hit hN rfl) (op_eql (ev_hit hN rfl) rfl (fun c27 => ?_) (fun c27 => ?_)))))
  ·
   refine op_pick_t (ev_hit hN rfl) (ev_hit hN rfl) ?_
   refine op_move (ev_hit hN rfl) (g_true (j := 6) (dj := 29) (b := true) rfl rfl rfl (ev_hit hN rfl) (op_move (ev_hit hN rfl) (g_true (j := 6) (dj := 29) (b := true) rfl rfl rfl (ev_hit hN rfl) (op_eql (ev_hit hN rfl) rfl (fun c31 => ?_) (fun c31 => ?_)))))
   ·
    refine op_pick_t (ev_hit hN rfl) (ev_hit hN rfl) ?_
    refine op_move (ev_hit hN rfl) (g_true (j := 10) (dj := 33) (b := true) rfl rfl rfl (ev_hit hN rfl) (op_fn (vs := []) ok16 trivial (Schema_ret _) ?_))
    rintro _ w27 ⟨E28, tv26, D26, rfl, hM26, hT26⟩
    have E28 := grown_of_below E28
    have z_w27 := E28.size
    have hb := below_step0 hb E28 hb.size
    have hR26 := hT26.1
    have hz26 := sch_sz hM26
    refine g_true (j := 10) (dj := 33) (b := true) rfl rfl rfl (ev_hit hN rfl) (op_build (pv := [(0, (Value.int .i64 6)), (1, (Value.string (bs [113])))]) (v := (Value.agg #[(Value.int .i64 6), (Value.string (bs [113])), (Value.string (bs [])), (Value.slice none 0 0), (Value.slice none 0 0), (Value.slice none 0 0), (Value.slice none 0 0), (Value.string (bs [])), (Value.slice none 0 0), (Value.slice none 0 0), (Value.slice none 0 0), (Value.bool false), (Value.slice none 0 0)])) ⟨rfl, rfl, ⟨rfl, rfl, trivial⟩⟩ (by kernel_rfl) ?_)
    refine g_true (j := 10) (dj := 33) (b := true) rfl rfl rfl (ev_hit hN rfl) (op_fn (vs := [(Value.agg #[tv26, (Value.slice none 0 0)]), (Value.agg #[(Value.int .i64 6), (Value.string (bs [113])), (Value.string (bs [])), (Value.slice none 0 0), (Value.slice none 0 0), (Value.slice none 0 0), (Value.slice none 0 0), (Value.string (bs [])), (Value.slice none 0 0), (Value.slice none 0 0), (Value.slice none 0 0), (Value.bool false), (Value.slice none 0 0)])]) ok19 ⟨(ev_hit hN rfl), ⟨(ev_hit hN rfl), trivial⟩⟩ (checkM hM26 (XS.mk (StF.mk 6 ([113]) [] (Value.slice none 0 0) [] (Value.slice none 0 0) [] (Value.slice none 0 0) [] (Value.slice none 0 0) [] [] (Value.slice none 0 0) [] (Value.slice none 0 0) [] (Value.slice none 0 0) [] false) (Value.slice none 0 0) []) (hT26.mono (by omega)) hz26.1 hz26.2 (SRd.mk (s := (XS.mk (StF.mk 6 ([113]) [] (Value.slice none 0 0) [] (Value.slice none 0 0) [] (Value.slice none 0 0) [] (Value.slice none 0 0) [] [] (Value.slice none 0 0) [] (Value.slice none 0 0) [] (Value.slice none 0 0) [] false) (Value.slice none 0 0) [])) ⟨(RdC.nil _ _ _ _), (RdC.nil _ _ _ _), (XsRd.nil _ _), (RdC.nil _ _ _ _), (XsRd.nil _ _), (XsRd.nil _ _), (XsRd.nil _ _)⟩ (RdC.nil _ _ _ _) (fun _ h => (by cases h)))) ?_)
    rintro _ w29 ⟨E30, rfl⟩
    have E30 := grown_of_below E30
    have z_w29 := E30.size
    have hb := below_step0 hb E30 hb.size
    refine g_true (j := 10) (dj := 33) (b := true) rfl rfl rfl (ev_hit hN rfl) (op_eql (ev_hit hN rfl) rfl (fun c37 => ?_) (fun c37 => ?_))
    ·
     refine op_pick_t (ev_hit hN rfl) (ev_hit hN rfl) ?_
     refine op_assign (ev_hit hN rfl) (reg_nil (hK25 _ _ (wp_ret ?_)))
     refine ret1 rfl hd (ev_hit hN rfl) ⟨_, rfl, ?_⟩
     exact ⟨hb, rfl⟩
    ·
     exact absurd rfl c37
   ·
    exact absurd rfl c31
  ·
   exact absurd rfl c27
 ·
  exact absurd rfl c24
end Go.Proofs.Ythflnkfghogaoaa

namespace Go.Gx
def NM5 : List (List UInt8) := [[107], [118], [110], [114], [113]]
def TB4 : List (List UInt8) := [[], [116], [117], [119]]
def hv0 (n : List UInt8) : Bool := decide (n = [107]) || (decide (n = [118]) || decide (n = [110]))
def hv1 (n : List UInt8) : Bool := decide (n = [107]) || (decide (n = [114]) || decide (n = [110]))
def cntN (h : Bool) (t u : List UInt8) : Int := if (h && (decide (t = []) || decide (t = u))) = true then 1 else 0
abbrev nl9 : Value := .slice none 0 0
def stNames (iv ov wv rv nv : Value) (items : List PItm) (wh ord : List XE) (av1 av2 : Value) : XS := .mk (.mk 6 [116] [] nl9 [] nl9 [] nl9 [] iv items [117] ov [.mk 2 0 0 [] [116] [107] av1 [], .mk 2 0 0 [] [117] [114] av2 []] wv wh rv ord false) nv []
def wantN (n t : List UInt8) : Int := if cntN (hv0 n) t [116] + cntN (hv1 n) t [117] = 1 then 0 else 10
theorem names_0 {iv ov wv rv nv a1 a2 : Value} {n t : List UInt8} (hn : n ∈ NM5) (ht : t ∈ TB4) : checkE schT [] (stNames iv ov wv rv nv [⟨0, t, n⟩] [] [] a1 a2) = wantN n t := by
  simp only [NM5, TB4, List.mem_cons, List.not_mem_nil, or_false] at hn ht
  rcases hn with rfl | rfl | rfl | rfl | rfl <;> rcases ht with rfl | rfl | rfl | rfl <;> kernel_rfl
theorem names_1 {iv ov wv rv nv a1 a2 a3 : Value} {n t : List UInt8} (hn : n ∈ NM5) (ht : t ∈ TB4) : checkE schT [] (stNames iv ov wv rv nv [] [] [.mk 2 0 0 [] t n a3 []] a1 a2) = wantN n t := by
  simp only [NM5, TB4, List.mem_cons, List.not_mem_nil, or_false] at hn ht
  rcases hn with rfl | rfl | rfl | rfl | rfl <;> rcases ht with rfl | rfl | rfl | rfl <;> kernel_rfl
theorem names_2 {iv ov wv rv nv a1 a2 a3 a4 a5 : Value} {n t : List UInt8} (hn : n ∈ NM5) (ht : t ∈ TB4) : checkE schT [] (stNames iv ov wv rv nv [] [.mk 8 0 0 [] [] [] a5 [.mk 2 0 0 [] t n a3 [], .mk 2 0 0 [] t n a4 []]] [] a1 a2) = wantN n t := by
  simp only [NM5, TB4, List.mem_cons, List.not_mem_nil, or_false] at hn ht
  rcases hn with rfl | rfl | rfl | rfl | rfl <;> rcases ht with rfl | rfl | rfl | rfl <;> kernel_rfl
/-! keys -/
/-! folds -/
end Go.Gx
namespace Go.Gx
theorem sum_t {a : Int} {n t : List UInt8} (ha : a = cntN (hv0 n) t [116]) (h : cntN (hv1 n) t [117] = 1) : (a + 1) = cntN (hv0 n) t [116] + cntN (hv1 n) t [117] := by rw [ha, h]
theorem sum_f {a : Int} {n t : List UInt8} (ha : a = cntN (hv0 n) t [116]) (h : cntN (hv1 n) t [117] = 0) : a = cntN (hv0 n) t [116] + cntN (hv1 n) t [117] := by rw [ha, h, Int.add_zero]
theorem cntN_le (h : Bool) (t u : List UInt8) : 0 ≤ cntN h t u ∧ cntN h t u ≤ 1 := by unfold cntN; split <;> simp
end Go.Gx

namespace Go.Proofs.Ythflnkfghogaoaa
open Go.Gx Go.RowKit
attribute [local irreducible] wpList wpStill Code.wp Calls

theorem have_ret (x : List UInt8) (w : World) : Ret Try.prog 24 #[(Value.string (bs x))] w (fun v' w' => Below w.heap.size w w' ∧ v' = .agg #[.bool (hv0 x), .bool (hv1 x)]) := by
 have hb := Below.refl w.heap.size w
 refine enter (N := 24) Try.func24 rfl rfl (by simp) fun a0 hN hd hA => ?_
 have s0 : a0.tmps.getD 0 undef = (Value.string (bs x)) := hA 0 (by simp)
 clear hA
 refine seq_any fun K1 hK1 => one_reg (op_alloc (cs := [(Value.bool false), (Value.bool false)]) zero59 rfl ?_)
 intro w2 b3 lo_b3 hi_b3 hB5 E4
 have z_w2 := E4.size
 have hb := below_step0 hb E4 hb.size
 refine reg_nil (hK1 _ _ (seq_any fun K6 hK6 => ?_))
 refine one_reg (op_move (ev_base hN rfl s0) (op_seql (ev_hit hN rfl) rfl (fun c4 => ?_) (fun c4 => ?_)))
 ·
  refine op_move (ev_hit hN rfl) (g_false (j := 2) (dj := 5) (b := false) rfl rfl rfl (ev_hit hN rfl) rfl rfl (g_false (j := 2) (dj := 5) (b := false) rfl rfl rfl (ev_hit hN rfl) rfl rfl (op_pick_t (ev_hit hN rfl) rfl ?_)))
  refine op_move (ev_hit hN rfl) (g_false (j := 6) (dj := 9) (b := false) rfl rfl rfl (ev_hit hN rfl) rfl rfl (g_false (j := 6) (dj := 9) (b := false) rfl rfl rfl (ev_hit hN rfl) rfl rfl (op_pick_t (ev_hit hN rfl) rfl ?_)))
  refine op_move (ev_base hN rfl s0) (op_seql (ev_hit hN rfl) rfl (fun c14 => ?_) (fun c14 => ?_))
  ·
   refine op_move (ev_hit hN rfl) (g_false (j := 12) (dj := 15) (b := false) rfl rfl rfl (ev_hit hN rfl) rfl rfl (g_false (j := 12) (dj := 15) (b := false) rfl rfl rfl (ev_hit hN rfl) rfl rfl (op_pick_t (ev_hit hN rfl) rfl ?_)))
   refine op_move (ev_hit hN rfl) (g_false (j := 16) (dj := 19) (b := false) rfl rfl rfl (ev_hit hN rfl) rfl rfl (g_false (j := 16) (dj := 19) (b := false) rfl rfl rfl (ev_hit hN rfl) rfl rfl (op_pick_t (ev_hit hN rfl) rfl ?_)))
   refine op_build (pv := [(0, (Value.bool true)), (1, (Value.bool true))]) (v := (Value.agg #[(Value.bool true), (Value.bool true)])) ⟨rfl, (ev_hit hN rfl), ⟨rfl, (ev_hit hN rfl), trivial⟩⟩ (by kernel_rfl) ?_
   refine op_store (vs := [(Value.bool true), (Value.bool true)]) (cs' := [(Value.bool true), (Value.bool true)]) size59 (ev_hit hN rfl) (ev_hit hN rfl) rfl rfl rfl hB5 (Nat.le_of_ble_eq_true rfl) rfl ?_
   intro w9 hB5 E10
   have z_w9 := E10.size
   have hb := below_step1 hb E10 hb.size (by omega)
   refine reg_nil (hK6 _ _ (wp_ret ?_))
   refine retN (rs := [.cell 2 59]) (vs := [(Value.agg #[(Value.bool true), (Value.bool true)])]) rfl hd ⟨⟨_, (ev_hit hN rfl), run_loadA (cs := [(Value.bool true), (Value.bool true)]) agg59 rfl (fun j u hu => by rw [Nat.zero_add]; exact hB5.cell hu)⟩, trivial⟩ rfl ⟨_, rfl, ?_⟩
   have e0 : hv0 x = true := by unfold hv0; simp [c4]
   have e1 : hv1 x = true := by unfold hv1; simp [c14]
   rw [e0, e1]; exact ⟨hb, rfl⟩
  ·
   refine op_move (ev_hit hN rfl) (g_true (j := 12) (dj := 15) (b := false) rfl rfl rfl (ev_hit hN rfl) (op_move (ev_base hN rfl s0) (g_true (j := 12) (dj := 15) (b := false) rfl rfl rfl (ev_hit hN rfl) (op_seql (ev_hit hN rfl) rfl (fun c17 => ?_) (fun c17 => ?_)))))
   ·
    refine op_pick_f (ev_hit hN rfl) (ev_hit hN rfl) ?_
    refine op_move (ev_hit hN rfl) (g_false (j := 16) (dj := 19) (b := false) rfl rfl rfl (ev_hit hN rfl) rfl rfl (g_false (j := 16) (dj := 19) (b := false) rfl rfl rfl (ev_hit hN rfl) rfl rfl (op_pick_t (ev_hit hN rfl) rfl ?_)))
    refine op_build (pv := [(0, (Value.bool true)), (1, (Value.bool true))]) (v := (Value.agg #[(Value.bool true), (Value.bool true)])) ⟨rfl, (ev_hit hN rfl), ⟨rfl, (ev_hit hN rfl), trivial⟩⟩ (by kernel_rfl) ?_
    refine op_store (vs := [(Value.bool true), (Value.bool true)]) (cs' := [(Value.bool true), (Value.bool true)]) size59 (ev_hit hN rfl) (ev_hit hN rfl) rfl rfl rfl hB5 (Nat.le_of_ble_eq_true rfl) rfl ?_
    intro w13 hB5 E14
    have z_w13 := E14.size
    have hb := below_step1 hb E14 hb.size (by omega)
    refine reg_nil (hK6 _ _ (wp_ret ?_))
    refine retN (rs := [.cell 2 59]) (vs := [(Value.agg #[(Value.bool true), (Value.bool true)])]) rfl hd ⟨⟨_, (ev_hit hN rfl), run_loadA (cs := [(Value.bool true), (Value.bool true)]) agg59 rfl (fun j u hu => by rw [Nat.zero_add]; exact hB5.cell hu)⟩, trivial⟩ rfl ⟨_, rfl, ?_⟩
    have e0 : hv0 x = true := by unfold hv0; simp [c4]
    have e1 : hv1 x = true := by unfold hv1; simp [c14, c17]
    rw [e0, e1]; exact ⟨hb, rfl⟩
   ·
    refine op_pick_f (ev_hit hN rfl) (ev_hit hN rfl) ?_
    refine op_move (ev_hit hN rfl) (g_true (j := 16) (dj := 19) (b := false) rfl rfl rfl (ev_hit hN rfl) (op_move (ev_base hN rfl s0) (g_true (j := 16) (dj := 19) (b := false) rfl rfl rfl (ev_hit hN rfl) (op_seql (ev_hit hN rfl) rfl (fun c21 => ?_) (fun c21 => ?_)))))
    ·
     refine op_pick_f (ev_hit hN rfl) (ev_hit hN rfl) ?_
     refine op_build (pv := [(0, (Value.bool true)), (1, (Value.bool true))]) (v := (Value.agg #[(Value.bool true), (Value.bool true)])) ⟨rfl, (ev_hit hN rfl), ⟨rfl, (ev_hit hN rfl), trivial⟩⟩ (by kernel_rfl) ?_
     refine op_store (vs := [(Value.bool true), (Value.bool true)]) (cs' := [(Value.bool true), (Value.bool true)]) size59 (ev_hit hN rfl) (ev_hit hN rfl) rfl rfl rfl hB5 (Nat.le_of_ble_eq_true rfl) rfl ?_
     intro w17 hB5 E18
     have z_w17 := E18.size
     have hb := below_step1 hb E18 hb.size (by omega)
     refine reg_nil (hK6 _ _ (wp_ret ?_))
     refine retN (rs := [.cell 2 59]) (vs := [(Value.agg #[(Value.bool true), (Value.bool true)])]) rfl hd ⟨⟨_, (ev_hit hN rfl), run_loadA (cs := [(Value.bool true), (Value.bool true)]) agg59 rfl (fun j u hu => by rw [Nat.zero_add]; exact hB5.cell hu)⟩, trivial⟩ rfl ⟨_, rfl, ?_⟩
     have e0 : hv0 x = true := by unfold hv0; simp [c4]
     have e1 : hv1 x = true := by unfold hv1; simp [c14, c17, c21]
     rw [e0, e1]; exact ⟨hb, rfl⟩
    ·
     refine op_pick_f (ev_hit hN rfl) (ev_hit hN rfl) ?_
     refine op_build (pv := [(0, (Value.bool true)), (1, (Value.bool false))]) (v := (Value.agg #[(Value.bool true), (Value.bool false)])) ⟨rfl, (ev_hit hN rfl), ⟨rfl, (ev_hit hN rfl), trivial⟩⟩ (by kernel_rfl) ?_
     refine op_store (vs := [(Value.bool true), (Value.bool false)]) (cs' := [(Value.bool true), (Value.bool false)]) size59 (ev_hit hN rfl) (ev_hit hN rfl) rfl rfl rfl hB5 (Nat.le_of_ble_eq_true rfl) rfl ?_
     intro w21 hB5 E22
     have z_w21 := E22.size
     have hb := below_step1 hb E22 hb.size (by omega)
     refine reg_nil (hK6 _ _ (wp_ret ?_))
     refine retN (rs := [.cell 2 59]) (vs := [(Value.agg #[(Value.bool true), (Value.bool false)])]) rfl hd ⟨⟨_, (ev_hit hN rfl), run_loadA (cs := [(Value.bool true), (Value.bool false)]) agg59 rfl (fun j u hu => by rw [Nat.zero_add]; exact hB5.cell hu)⟩, trivial⟩ rfl ⟨_, rfl, ?_⟩
     have e0 : hv0 x = true := by unfold hv0; simp [c4]
     have e1 : hv1 x = false := by unfold hv1; simp [c14, c17, c21]
     rw [e0, e1]; exact ⟨hb, rfl⟩
 ·
  refine op_move (ev_hit hN rfl) (g_true (j := 2) (dj := 5) (b := false) rfl rfl rfl (ev_hit hN rfl) (op_move (ev_base hN rfl s0) (g_true (j := 2) (dj := 5) (b := false) rfl rfl rfl (ev_hit hN rfl) (op_seql (ev_hit hN rfl) rfl (fun c7 => ?_) (fun c7 => ?_)))))
  ·
   refine op_pick_f (ev_hit hN rfl) (ev_hit hN rfl) ?_
   refine op_move (ev_hit hN rfl) (g_false (j := 6) (dj := 9) (b := false) rfl rfl rfl (ev_hit hN rfl) rfl rfl (g_false (j := 6) (dj := 9) (b := false) rfl rfl rfl (ev_hit hN rfl) rfl rfl (op_pick_t (ev_hit hN rfl) rfl ?_)))
   refine op_move (ev_base hN rfl s0) (op_seql (ev_hit hN rfl) rfl (fun c14 => ?_) (fun c14 => ?_))
   ·
    refine op_move (ev_hit hN rfl) (g_false (j := 12) (dj := 15) (b := false) rfl rfl rfl (ev_hit hN rfl) rfl rfl (g_false (j := 12) (dj := 15) (b := false) rfl rfl rfl (ev_hit hN rfl) rfl rfl (op_pick_t (ev_hit hN rfl) rfl ?_)))
    refine op_move (ev_hit hN rfl) (g_false (j := 16) (dj := 19) (b := false) rfl rfl rfl (ev_hit hN rfl) rfl rfl (g_false (j := 16) (dj := 19) (b := false) rfl rfl rfl (ev_hit hN rfl) rfl rfl (op_pick_t (ev_hit hN rfl) rfl ?_)))
    refine op_build (pv := [(0, (Value.bool true)), (1, (Value.bool true))]) (v := (Value.agg #[(Value.bool true), (Value.bool true)])) ⟨rfl, (ev_hit hN rfl), ⟨rfl, (ev_hit hN rfl), trivial⟩⟩ (by kernel_rfl) ?_
    refine op_store (vs := [(Value.bool true), (Value.bool true)]) (cs' := [(Value.bool true), (Value.bool true)]) size59 (ev_hit hN rfl) (ev_hit hN rfl) rfl rfl rfl hB5 (Nat.le_of_ble_eq_true rfl) rfl ?_
    intro w25 hB5 E26
    have z_w25 := E26.size
    have hb := below_step1 hb E26 hb.size (by omega)
    refine reg_nil (hK6 _ _ (wp_ret ?_))
    refine retN (rs := [.cell 2 59]) (vs := [(Value.agg #[(Value.bool true), (Value.bool true)])]) rfl hd ⟨⟨_, (ev_hit hN rfl), run_loadA (cs := [(Value.bool true), (Value.bool true)]) agg59 rfl (fun j u hu => by rw [Nat.zero_add]; exact hB5.cell hu)⟩, trivial⟩ rfl ⟨_, rfl, ?_⟩
    have e0 : hv0 x = true := by unfold hv0; simp [c4, c7]
    have e1 : hv1 x = true := by unfold hv1; simp [c14]
    rw [e0, e1]; exact ⟨hb, rfl⟩
   ·
    refine op_move (ev_hit hN rfl) (g_true (j := 12) (dj := 15) (b := false) rfl rfl rfl (ev_hit hN rfl) (op_move (ev_base hN rfl s0) (g_true (j := 12) (dj := 15) (b := false) rfl rfl rfl (ev_hit hN rfl) (op_seql (ev_hit hN rfl) rfl (fun c17 => ?_) (fun c17 => ?_)))))
    ·
     refine op_pick_f (ev_hit hN rfl) (ev_hit hN rfl) ?_
     refine op_move (ev_hit hN rfl) (g_false (j := 16) (dj := 19) (b := false) rfl rfl rfl (ev_hit hN rfl) rfl rfl (g_false (j := 16) (dj := 19) (b := false) rfl rfl rfl (ev_hit hN rfl) rfl rfl (op_pick_t (ev_hit hN rfl) rfl ?_)))
     refine op_build (pv := [(0, (Value.bool true)), (1, (Value.bool true))]) (v := (Value.agg #[(Value.bool true), (Value.bool true)])) ⟨rfl, (ev_hit hN rfl), ⟨rfl, (ev_hit hN rfl), trivial⟩⟩ (by kernel_rfl) ?_
     refine op_store (vs := [(Value.bool true), (Value.bool true)]) (cs' := [(Value.bool true), (Value.bool true)]) size59 (ev_hit hN rfl) (ev_hit hN rfl) rfl rfl rfl hB5 (Nat.le_of_ble_eq_true rfl) rfl ?_
     intro w29 hB5 E30
     have z_w29 := E30.size
     have hb := below_step1 hb E30 hb.size (by omega)
     refine reg_nil (hK6 _ _ (wp_ret ?_))
     refine retN (rs := [.cell 2 59]) (vs := [(Value.agg #[(Value.bool true), (Value.bool true)])]) rfl hd ⟨⟨_, (ev_hit hN rfl), run_loadA (cs := [(Value.bool true), (Value.bool true)]) agg59 rfl (fun j u hu => by rw [Nat.zero_add]; exact hB5.cell hu)⟩, trivial⟩ rfl ⟨_, rfl, ?_⟩
     have e0 : hv0 x = true := by unfold hv0; simp [c4, c7]
     have e1 : hv1 x = true := by unfold hv1; simp [c14, c17]
     rw [e0, e1]; exact ⟨hb, rfl⟩
    ·
     refine op_pick_f (ev_hit hN rfl) (ev_hit hN rfl) ?_
     refine op_move (ev_hit hN rfl) (g_true (j := 16) (dj := 19) (b := false) rfl rfl rfl (ev_hit hN rfl) (op_move (ev_base hN rfl s0) (g_true (j := 16) (dj := 19) (b := false) rfl rfl rfl (ev_hit hN rfl) (op_seql (ev_hit hN rfl) rfl (fun c21 => ?_) (fun c21 => ?_)))))
     ·
      refine op_pick_f (ev_hit hN rfl) (ev_hit hN rfl) ?_
      refine op_build (pv := [(0, (Value.bool true)), (1, (Value.bool true))]) (v := (Value.agg #[(Value.bool true), (Value.bool true)])) ⟨rfl, (ev_hit hN rfl), ⟨rfl, (ev_hit hN rfl), trivial⟩⟩ (by kernel_rfl) ?_
      refine op_store (vs := [(Value.bool true), (Value.bool true)]) (cs' := [(Value.bool true), (Value.bool true)]) size59 (ev_hit hN rfl) (ev_hit hN rfl) rfl rfl rfl hB5 (Nat.le_of_ble_eq_true rfl) rfl ?_
      intro w33 hB5 E34
      have z_w33 := E34.size
      have hb := below_step1 hb E34 hb.size (by omega)
      refine reg_nil (hK6 _ _ (wp_ret ?_))
      refine retN (rs := [.cell 2 59]) (vs := [(Value.agg #[(Value.bool true), (Value.bool true)])]) rfl hd ⟨⟨_, (ev_hit hN rfl), run_loadA (cs := [(Value.bool true), (Value.bool true)]) agg59 rfl (fun j u hu => by rw [Nat.zero_add]; exact hB5.cell hu)⟩, trivial⟩ rfl ⟨_, rfl, ?_⟩
      have e0 : hv0 x = true := by unfold hv0; simp [c4, c7]
      have e1 : hv1 x = true := by unfold hv1; simp [c14, c17, c21]
      rw [e0, e1]; exact ⟨hb, rfl⟩
     ·
      refine op_pick_f (ev_hit hN rfl) (ev_hit hN rfl) ?_
      refine op_build (pv := [(0, (Value.bool true)), (1, (Value.bool false))]) (v := (Value.agg #[(Value.bool true), (Value.bool false)])) ⟨rfl, (ev_hit hN rfl), ⟨rfl, (ev_hit hN rfl), trivial⟩⟩ (by kernel_rfl) ?_
      refine op_store (vs := [(Value.bool true), (Value.bool false)]) (cs' := [(Value.bool true), (Value.bool false)]) size59 (ev_hit hN rfl) (ev_hit hN rfl) rfl rfl rfl hB5 (Nat.le_of_ble_eq_true rfl) rfl ?_
      intro w37 hB5 E38
      have z_w37 := E38.size
      have hb := below_step1 hb E38 hb.size (by omega)
      refine reg_nil (hK6 _ _ (wp_ret ?_))
      refine retN (rs := [.cell 2 59]) (vs := [(Value.agg #[(Value.bool true), (Value.bool false)])]) rfl hd ⟨⟨_, (ev_hit hN rfl), run_loadA (cs := [(Value.bool true), (Value.bool false)]) agg59 rfl (fun j u hu => by rw [Nat.zero_add]; exact hB5.cell hu)⟩, trivial⟩ rfl ⟨_, rfl, ?_⟩
      have e0 : hv0 x = true := by unfold hv0; simp [c4, c7]
      have e1 : hv1 x = false := by unfold hv1; simp [c14, c17, c21]
      rw [e0, e1]; exact ⟨hb, rfl⟩
  ·
   refine op_pick_f (ev_hit hN rfl) (ev_hit hN rfl) ?_
   refine op_move (ev_hit hN rfl) (g_true (j := 6) (dj := 9) (b := false) rfl rfl rfl (ev_hit hN rfl) (op_move (ev_base hN rfl s0) (g_true (j := 6) (dj := 9) (b := false) rfl rfl rfl (ev_hit hN rfl) (op_seql (ev_hit hN rfl) rfl (fun c11 => ?_) (fun c11 => ?_)))))
   ·
    refine op_pick_f (ev_hit hN rfl) (ev_hit hN rfl) ?_
    refine op_move (ev_base hN rfl s0) (op_seql (ev_hit hN rfl) rfl (fun c14 => ?_) (fun c14 => ?_))
    ·
     refine op_move (ev_hit hN rfl) (g_false (j := 12) (dj := 15) (b := false) rfl rfl rfl (ev_hit hN rfl) rfl rfl (g_false (j := 12) (dj := 15) (b := false) rfl rfl rfl (ev_hit hN rfl) rfl rfl (op_pick_t (ev_hit hN rfl) rfl ?_)))
     refine op_move (ev_hit hN rfl) (g_false (j := 16) (dj := 19) (b := false) rfl rfl rfl (ev_hit hN rfl) rfl rfl (g_false (j := 16) (dj := 19) (b := false) rfl rfl rfl (ev_hit hN rfl) rfl rfl (op_pick_t (ev_hit hN rfl) rfl ?_)))
     refine op_build (pv := [(0, (Value.bool true)), (1, (Value.bool true))]) (v := (Value.agg #[(Value.bool true), (Value.bool true)])) ⟨rfl, (ev_hit hN rfl), ⟨rfl, (ev_hit hN rfl), trivial⟩⟩ (by kernel_rfl) ?_
     refine op_store (vs := [(Value.bool true), (Value.bool true)]) (cs' := [(Value.bool true), (Value.bool true)]) size59 (ev_hit hN rfl) (ev_hit hN rfl) rfl rfl rfl hB5 (Nat.le_of_ble_eq_true rfl) rfl ?_
     intro w41 hB5 E42
     have z_w41 := E42.size
     have hb := below_step1 hb E42 hb.size (by omega)
     refine reg_nil (hK6 _ _ (wp_ret ?_))
     refine retN (rs := [.cell 2 59]) (vs := [(Value.agg #[(Value.bool true), (Value.bool true)])]) rfl hd ⟨⟨_, (ev_hit hN rfl), run_loadA (cs := [(Value.bool true), (Value.bool true)]) agg59 rfl (fun j u hu => by rw [Nat.zero_add]; exact hB5.cell hu)⟩, trivial⟩ rfl ⟨_, rfl, ?_⟩
     have e0 : hv0 x = true := by unfold hv0; simp [c4, c7, c11]
     have e1 : hv1 x = true := by unfold hv1; simp [c14]
     rw [e0, e1]; exact ⟨hb, rfl⟩
    ·
     refine op_move (ev_hit hN rfl) (g_true (j := 12) (dj := 15) (b := false) rfl rfl rfl (ev_hit hN rfl) (op_move (ev_base hN rfl s0) (g_true (j := 12) (dj := 15) (b := false) rfl rfl rfl (ev_hit hN rfl) (op_seql (ev_hit hN rfl) rfl (fun c17 => ?_) (fun c17 => ?_)))))
     ·
      refine op_pick_f (ev_hit hN rfl) (ev_hit hN rfl) ?_
      refine op_move (ev_hit hN rfl) (g_false (j := 16) (dj := 19) (b := false) rfl rfl rfl (ev_hit hN rfl) rfl rfl (g_false (j := 16) (dj := 19) (b := false) rfl rfl rfl (ev_hit hN rfl) rfl rfl (op_pick_t (ev_hit hN rfl) rfl ?_)))
      refine op_build (pv := [(0, (Value.bool true)), (1, (Value.bool true))]) (v := (Value.agg #[(Value.bool true), (Value.bool true)])) ⟨rfl, (ev_hit hN rfl), ⟨rfl, (ev_hit hN rfl), trivial⟩⟩ (by kernel_rfl) ?_
      refine op_store (vs := [(Value.bool true), (Value.bool true)]) (cs' := [(Value.bool true), (Value.bool true)]) size59 (ev_hit hN rfl) (ev_hit hN rfl) rfl rfl rfl hB5 (Nat.le_of_ble_eq_true rfl) rfl ?_
      intro w45 hB5 E46
      have z_w45 := E46.size
      have hb := below_step1 hb E46 hb.size (by omega)
      refine reg_nil (hK6 _ _ (wp_ret ?_))
      refine retN (rs := [.cell 2 59]) (vs := [(Value.agg #[(Value.bool true), (Value.bool true)])]) rfl hd ⟨⟨_, (ev_hit hN rfl), run_loadA (cs := [(Value.bool true), (Value.bool true)]) agg59 rfl (fun j u hu => by rw [Nat.zero_add]; exact hB5.cell hu)⟩, trivial⟩ rfl ⟨_, rfl, ?_⟩
      have e0 : hv0 x = true := by unfold hv0; simp [c4, c7, c11]
      have e1 : hv1 x = true := by unfold hv1; simp [c14, c17]
      rw [e0, e1]; exact ⟨hb, rfl⟩
     ·
      refine op_pick_f (ev_hit hN rfl) (ev_hit hN rfl) ?_
      refine op_move (ev_hit hN rfl) (g_true (j := 16) (dj := 19) (b := false) rfl rfl rfl (ev_hit hN rfl) (op_move (ev_base hN rfl s0) (g_true (j := 16) (dj := 19) (b := false) rfl rfl rfl (ev_hit hN rfl) (op_seql (ev_hit hN rfl) rfl (fun c21 => ?_) (fun c21 => ?_)))))
      ·
       refine op_pick_f (ev_hit hN rfl) (ev_hit hN rfl) ?_
       refine op_build (pv := [(0, (Value.bool true)), (1, (Value.bool true))]) (v := (Value.agg #[(Value.bool true), (Value.bool true)])) ⟨rfl, (ev_hit hN rfl), ⟨rfl, (ev_hit hN rfl), trivial⟩⟩ (by kernel_rfl) ?_
       refine op_store (vs := [(Value.bool true), (Value.bool true)]) (cs' := [(Value.bool true), (Value.bool true)]) size59 (ev_hit hN rfl) (ev_hit hN rfl) rfl rfl rfl hB5 (Nat.le_of_ble_eq_true rfl) rfl ?_
       intro w49 hB5 E50
       have z_w49 := E50.size
       have hb := below_step1 hb E50 hb.size (by omega)
       refine reg_nil (hK6 _ _ (wp_ret ?_))
       refine retN (rs := [.cell 2 59]) (vs := [(Value.agg #[(Value.bool true), (Value.bool true)])]) rfl hd ⟨⟨_, (ev_hit hN rfl), run_loadA (cs := [(Value.bool true), (Value.bool true)]) agg59 rfl (fun j u hu => by rw [Nat.zero_add]; exact hB5.cell hu)⟩, trivial⟩ rfl ⟨_, rfl, ?_⟩
       have e0 : hv0 x = true := by unfold hv0; simp [c4, c7, c11]
       have e1 : hv1 x = true := by unfold hv1; simp [c14, c17, c21]
       rw [e0, e1]; exact ⟨hb, rfl⟩
      ·
       refine op_pick_f (ev_hit hN rfl) (ev_hit hN rfl) ?_
       refine op_build (pv := [(0, (Value.bool true)), (1, (Value.bool false))]) (v := (Value.agg #[(Value.bool true), (Value.bool false)])) ⟨rfl, (ev_hit hN rfl), ⟨rfl, (ev_hit hN rfl), trivial⟩⟩ (by kernel_rfl) ?_
       refine op_store (vs := [(Value.bool true), (Value.bool false)]) (cs' := [(Value.bool true), (Value.bool false)]) size59 (ev_hit hN rfl) (ev_hit hN rfl) rfl rfl rfl hB5 (Nat.le_of_ble_eq_true rfl) rfl ?_
       intro w53 hB5 E54
       have z_w53 := E54.size
       have hb := below_step1 hb E54 hb.size (by omega)
       refine reg_nil (hK6 _ _ (wp_ret ?_))
       refine retN (rs := [.cell 2 59]) (vs := [(Value.agg #[(Value.bool true), (Value.bool false)])]) rfl hd ⟨⟨_, (ev_hit hN rfl), run_loadA (cs := [(Value.bool true), (Value.bool false)]) agg59 rfl (fun j u hu => by rw [Nat.zero_add]; exact hB5.cell hu)⟩, trivial⟩ rfl ⟨_, rfl, ?_⟩
       have e0 : hv0 x = true := by unfold hv0; simp [c4, c7, c11]
       have e1 : hv1 x = false := by unfold hv1; simp [c14, c17, c21]
       rw [e0, e1]; exact ⟨hb, rfl⟩
   ·
    refine op_pick_f (ev_hit hN rfl) (ev_hit hN rfl) ?_
    refine op_move (ev_base hN rfl s0) (op_seql (ev_hit hN rfl) rfl (fun c14 => ?_) (fun c14 => ?_))
    ·
     refine op_move (ev_hit hN rfl) (g_false (j := 12) (dj := 15) (b := false) rfl rfl rfl (ev_hit hN rfl) rfl rfl (g_false (j := 12) (dj := 15) (b := false) rfl rfl rfl (ev_hit hN rfl) rfl rfl (op_pick_t (ev_hit hN rfl) rfl ?_)))
     refine op_move (ev_hit hN rfl) (g_false (j := 16) (dj := 19) (b := false) rfl rfl rfl (ev_hit hN rfl) rfl rfl (g_false (j := 16) (dj := 19) (b := false) rfl rfl rfl (ev_hit hN rfl) rfl rfl (op_pick_t (ev_hit hN rfl) rfl ?_)))
     refine op_build (pv := [(0, (Value.bool false)), (1, (Value.bool true))]) (v := (Value.agg #[(Value.bool false), (Value.bool true)])) ⟨rfl, (ev_hit hN rfl), ⟨rfl, (ev_hit hN rfl), trivial⟩⟩ (by kernel_rfl) ?_
     refine op_store (vs := [(Value.bool false), (Value.bool true)]) (cs' := [(Value.bool false), (Value.bool true)]) size59 (ev_hit hN rfl) (ev_hit hN rfl) rfl rfl rfl hB5 (Nat.le_of_ble_eq_true rfl) rfl ?_
     intro w57 hB5 E58
     have z_w57 := E58.size
     have hb := below_step1 hb E58 hb.size (by omega)
     refine reg_nil (hK6 _ _ (wp_ret ?_))
     refine retN (rs := [.cell 2 59]) (vs := [(Value.agg #[(Value.bool false), (Value.bool true)])]) rfl hd ⟨⟨_, (ev_hit hN rfl), run_loadA (cs := [(Value.bool false), (Value.bool true)]) agg59 rfl (fun j u hu => by rw [Nat.zero_add]; exact hB5.cell hu)⟩, trivial⟩ rfl ⟨_, rfl, ?_⟩
     have e0 : hv0 x = false := by unfold hv0; simp [c4, c7, c11]
     have e1 : hv1 x = true := by unfold hv1; simp [c14]
     rw [e0, e1]; exact ⟨hb, rfl⟩
    ·
     refine op_move (ev_hit hN rfl) (g_true (j := 12) (dj := 15) (b := false) rfl rfl rfl (ev_hit hN rfl) (op_move (ev_base hN rfl s0) (g_true (j := 12) (dj := 15) (b := false) rfl rfl rfl (ev_hit hN rfl) (op_seql (ev_hit hN rfl) rfl (fun c17 => ?_) (fun c17 => ?_)))))
     ·
      refine op_pick_f (ev_hit hN rfl) (ev_hit hN rfl) ?_
      refine op_move (ev_hit hN rfl) (g_false (j := 16) (dj := 19) (b := false) rfl rfl rfl (ev_hit hN rfl) rfl rfl (g_false (j := 16) (dj := 19) (b := false) rfl rfl rfl (ev_hit hN rfl) rfl rfl (op_pick_t (ev_hit hN rfl) rfl ?_)))
      refine op_build (pv := [(0, (Value.bool false)), (1, (Value.bool true))]) (v := (Value.agg #[(Value.bool false), (Value.bool true)])) ⟨rfl, (ev_hit hN rfl), ⟨rfl, (ev_hit hN rfl), trivial⟩⟩ (by kernel_rfl) ?_
      refine op_store (vs := [(Value.bool false), (Value.bool true)]) (cs' := [(Value.bool false), (Value.bool true)]) size59 (ev_hit hN rfl) (ev_hit hN rfl) rfl rfl rfl hB5 (Nat.le_of_ble_eq_true rfl) rfl ?_
      intro w61 hB5 E62
      have z_w61 := E62.size
      have hb := below_step1 hb E62 hb.size (by omega)
      refine reg_nil (hK6 _ _ (wp_ret ?_))
      refine retN (rs := [.cell 2 59]) (vs := [(Value.agg #[(Value.bool false), (Value.bool true)])]) rfl hd ⟨⟨_, (ev_hit hN rfl), run_loadA (cs := [(Value.bool false), (Value.bool true)]) agg59 rfl (fun j u hu => by rw [Nat.zero_add]; exact hB5.cell hu)⟩, trivial⟩ rfl ⟨_, rfl, ?_⟩
      have e0 : hv0 x = false := by unfold hv0; simp [c4, c7, c11]
      have e1 : hv1 x = true := by unfold hv1; simp [c14, c17]
      rw [e0, e1]; exact ⟨hb, rfl⟩
     ·
      refine op_pick_f (ev_hit hN rfl) (ev_hit hN rfl) ?_
      refine op_move (ev_hit hN rfl) (g_true (j := 16) (dj := 19) (b := false) rfl rfl rfl (ev_hit hN rfl) (op_move (ev_base hN rfl s0) (g_true (j := 16) (dj := 19) (b := false) rfl rfl rfl (ev_hit hN rfl) (op_seql (ev_hit hN rfl) rfl (fun c21 => ?_) (fun c21 => ?_)))))
      ·
       refine op_pick_f (ev_hit hN rfl) (ev_hit hN rfl) ?_
       refine op_build (pv := [(0, (Value.bool false)), (1, (Value.bool true))]) (v := (Value.agg #[(Value.bool false), (Value.bool true)])) ⟨rfl, (ev_hit hN rfl), ⟨rfl, (ev_hit hN rfl), trivial⟩⟩ (by kernel_rfl) ?_
       refine op_store (vs := [(Value.bool false), (Value.bool true)]) (cs' := [(Value.bool false), (Value.bool true)]) size59 (ev_hit hN rfl) (ev_hit hN rfl) rfl rfl rfl hB5 (Nat.le_of_ble_eq_true rfl) rfl ?_
       intro w65 hB5 E66
       have z_w65 := E66.size
       have hb := below_step1 hb E66 hb.size (by omega)
       refine reg_nil (hK6 _ _ (wp_ret ?_))
       refine retN (rs := [.cell 2 59]) (vs := [(Value.agg #[(Value.bool false), (Value.bool true)])]) rfl hd ⟨⟨_, (ev_hit hN rfl), run_loadA (cs := [(Value.bool false), (Value.bool true)]) agg59 rfl (fun j u hu => by rw [Nat.zero_add]; exact hB5.cell hu)⟩, trivial⟩ rfl ⟨_, rfl, ?_⟩
       have e0 : hv0 x = false := by unfold hv0; simp [c4, c7, c11]
       have e1 : hv1 x = true := by unfold hv1; simp [c14, c17, c21]
       rw [e0, e1]; exact ⟨hb, rfl⟩
      ·
       refine op_pick_f (ev_hit hN rfl) (ev_hit hN rfl) ?_
       refine op_build (pv := [(0, (Value.bool false)), (1, (Value.bool false))]) (v := (Value.agg #[(Value.bool false), (Value.bool false)])) ⟨rfl, (ev_hit hN rfl), ⟨rfl, (ev_hit hN rfl), trivial⟩⟩ (by kernel_rfl) ?_
       refine op_store (vs := [(Value.bool false), (Value.bool false)]) (cs' := [(Value.bool false), (Value.bool false)]) size59 (ev_hit hN rfl) (ev_hit hN rfl) rfl rfl rfl hB5 (Nat.le_of_ble_eq_true rfl) rfl ?_
       intro w69 hB5 E70
       have z_w69 := E70.size
       have hb := below_step1 hb E70 hb.size (by omega)
       refine reg_nil (hK6 _ _ (wp_ret ?_))
       refine retN (rs := [.cell 2 59]) (vs := [(Value.agg #[(Value.bool false), (Value.bool false)])]) rfl hd ⟨⟨_, (ev_hit hN rfl), run_loadA (cs := [(Value.bool false), (Value.bool false)]) agg59 rfl (fun j u hu => by rw [Nat.zero_add]; exact hB5.cell hu)⟩, trivial⟩ rfl ⟨_, rfl, ?_⟩
       have e0 : hv0 x = false := by unfold hv0; simp [c4, c7, c11]
       have e1 : hv1 x = false := by unfold hv1; simp [c14, c17, c21]
       rw [e0, e1]; exact ⟨hb, rfl⟩

theorem col_ret (t n : List UInt8) (w : World) : Ret Try.prog 25 #[(Value.string (bs t)), (Value.string (bs n))] w (fun v' w' => Below w.heap.size w w' ∧ v' = .agg #[.int .i64 2, .int .i64 0, .int .i64 0, .string (bs []), .string (bs t), .string (bs n), .slice none 0 0]) := by
 have hb := Below.refl w.heap.size w
 refine enter (N := 8) Try.func25 rfl rfl (by simp) fun a0 hN hd hA => ?_
 have s0 : a0.tmps.getD 0 undef = (Value.string (bs t)) := hA 0 (by simp)
 have s1 : a0.tmps.getD 1 undef = (Value.string (bs n)) := hA 1 (by simp)
 clear hA
 refine seq_any fun K71 hK71 => one_reg (op_alloc (cs := [(Value.int .i64 0), (Value.int .i64 0), (Value.int .i64 0), (Value.string (bs [])), (Value.string (bs [])), (Value.string (bs [])), (Value.slice none 0 0)]) zero28 rfl ?_)
 intro w72 b73 lo_b73 hi_b73 hB75 E74
 have z_w72 := E74.size
 have hb := below_step0 hb E74 hb.size
 refine reg_nil (hK71 _ _ (seq_any fun K76 hK76 => one_reg (op_move (ev_base hN rfl s0) (op_move (ev_base hN rfl s1) (op_build (pv := [(0, (Value.int .i64 2)), (2, (Value.string (bs t))), (3, (Value.string (bs n)))]) (v := (Value.agg #[(Value.int .i64 2), (Value.int .i64 0), (Value.int .i64 0), (Value.string (bs [])), (Value.string (bs t)), (Value.string (bs n)), (Value.slice none 0 0)])) ⟨rfl, rfl, ⟨rfl, (ev_hit hN rfl), ⟨rfl, (ev_hit hN rfl), trivial⟩⟩⟩ (by kernel_rfl) ?_)))))
 refine op_store (vs := [(Value.int .i64 2), (Value.int .i64 0), (Value.int .i64 0), (Value.string (bs [])), (Value.string (bs t)), (Value.string (bs n)), (Value.slice none 0 0)]) (cs' := [(Value.int .i64 2), (Value.int .i64 0), (Value.int .i64 0), (Value.string (bs [])), (Value.string (bs t)), (Value.string (bs n)), (Value.slice none 0 0)]) size28 (ev_hit hN rfl) (ev_hit hN rfl) rfl rfl rfl hB75 (Nat.le_of_ble_eq_true rfl) rfl ?_
 intro w79 hB75 E80
 have z_w79 := E80.size
 have hb := below_step1 hb E80 hb.size (by omega)
 refine reg_nil (hK76 _ _ (wp_ret ?_))
 refine retN (rs := [.cell 4 28]) (vs := [(Value.agg #[(Value.int .i64 2), (Value.int .i64 0), (Value.int .i64 0), (Value.string (bs [])), (Value.string (bs t)), (Value.string (bs n)), (Value.slice none 0 0)])]) rfl hd ⟨⟨_, (ev_hit hN rfl), run_loadA (cs := [(Value.int .i64 2), (Value.int .i64 0), (Value.int .i64 0), (Value.string (bs [])), (Value.string (bs t)), (Value.string (bs n)), (Value.slice none 0 0)]) agg28 rfl (fun j u hu => by rw [Nat.zero_add]; exact hB75.cell hu)⟩, trivial⟩ rfl ⟨_, rfl, ?_⟩
 exact ⟨hb, rfl⟩

theorem TypedNames_ret (name table place : UInt8) (w : World) : Ret Try.prog 6 #[(Value.int .u8 (name.toNat : Int)), (Value.int .u8 (table.toNat : Int)), (Value.int .u8 (place.toNat : Int))] w (fun v' w' => Below w.heap.size w w' ∧ v' = .bool true) := by
 have hp0 := name.toNat_lt
 have hp1 := table.toNat_lt
 have hp2 := place.toNat_lt
 have hb := Below.refl w.heap.size w
 refine enter (N := 97) Try.func6 rfl rfl (by simp) fun a0 hN hd hA => ?_
 have s0 : a0.tmps.getD 0 undef = (Value.int .u8 (name.toNat : Int)) := hA 0 (by simp)
 have s1 : a0.tmps.getD 1 undef = (Value.int .u8 (table.toNat : Int)) := hA 1 (by simp)
 have s2 : a0.tmps.getD 2 undef = (Value.int .u8 (place.toNat : Int)) := hA 2 (by simp)
 clear hA
 refine seq_any fun K1 hK1 => one_reg ?_
 refine op_assign rfl (reg_nil (hK1 _ _ (seq_any fun K2 hK2 => seq_any fun K3 hK3 => one_reg (op_fn (vs := []) ok12 trivial (begun10_ret _) ?_))))
 rintro _ w4 ⟨E5, rfl⟩
 have E5 := grown_of_below E5
 have z_w4 := E5.size
 have hb := below_step0 hb E5 hb.size
 refine op_not (ev_hit hN rfl) ?_
 refine reg_nil (hK3 _ _ (wp_cond_false (ev_hit hN rfl) (wp_skip (hK2 _ _ (seq_join2 (N := 97) (fun az_ w' => ∃ (n9 t9 : List UInt8), (az_.tmps.getD 2 undef = (Value.int .u8 (place.toNat : Int))) ∧ (az_.tmps.getD 6 undef = (Value.bool false)) ∧ (az_.tmps.getD 7 undef = (Value.string (bs n9))) ∧ (az_.tmps.getD 8 undef = (Value.string (bs t9))) ∧ (n9 ∈ NM5) ∧ (t9 ∈ TB4) ∧ (Below w.heap.size w w') ∧ (w4.heap.size ≤ w'.heap.size)) (fun hJ6 => ?_) ?_)))))
 ·
  refine seq_any fun K7 hK7 => one_reg (op_bslice (e := 9) (pv := [(0, (Value.string (bs [107]))), (1, (Value.string (bs [118]))), (2, (Value.string (bs [110]))), (3, (Value.string (bs [114]))), (4, (Value.string (bs [113])))]) (cs := [(Value.string (bs [107])), (Value.string (bs [118])), (Value.string (bs [110])), (Value.string (bs [114])), (Value.string (bs [113]))]) ⟨rfl, rfl, ⟨rfl, rfl, ⟨rfl, rfl, ⟨rfl, rfl, ⟨rfl, rfl, trivial⟩⟩⟩⟩⟩ (by kernel_rfl) ?_)
  intro w8 b9 lo_b9 hi_b9 hB11 E10
  have z_w8 := E10.size
  have hb := below_step0 hb E10 hb.size
  refine op_move (ev_base hN rfl s0) (op_rem (r := ((name.toNat % 5 : Nat) : Int)) (ev_hit hN rfl) rfl (by decide) (by rw [Int.tmod_eq_emod_of_nonneg (by omega)]; omega) ?_)
  refine op_index_rd slt53 (ev_hit hN rfl) (RdC.ofBx (sz := 1) (n := 5) hB11 rfl (by decide)) (ev_hit hN rfl) (by omega) (by omega) ?_
  intro b12 o13 h0b12 h1b12 hc14
  refine op_load1 (v := (Value.string (bs (NM5.getD (name.toNat % 5) [])))) one9 (ev_hit hN rfl) (by have := hc14 0 (Value.string (bs (NM5.getD (name.toNat % 5) []))) (by decide) (el_sv (l := NM5) (i := (name.toNat % 5)) rfl (show _ < 5 by omega)); simpa using this) (op_assign (ev_hit hN rfl) (reg_nil (hK7 _ _ (seq_any fun K15 hK15 => one_reg (op_bslice (e := 9) (pv := [(0, (Value.string (bs []))), (1, (Value.string (bs [116]))), (2, (Value.string (bs [117]))), (3, (Value.string (bs [119])))]) (cs := [(Value.string (bs [])), (Value.string (bs [116])), (Value.string (bs [117])), (Value.string (bs [119]))]) ⟨rfl, rfl, ⟨rfl, rfl, ⟨rfl, rfl, ⟨rfl, rfl, trivial⟩⟩⟩⟩ (by kernel_rfl) ?_)))))
  intro w16 b17 lo_b17 hi_b17 hB19 E18
  have z_w16 := E18.size
  have hb := below_step0 hb E18 hb.size
  refine op_move (ev_base hN rfl s1) (op_rem (r := ((table.toNat % 4 : Nat) : Int)) (ev_hit hN rfl) rfl (by decide) (by rw [Int.tmod_eq_emod_of_nonneg (by omega)]; omega) ?_)
  refine op_index_rd slt53 (ev_hit hN rfl) (RdC.ofBx (sz := 1) (n := 4) hB19 rfl (by decide)) (ev_hit hN rfl) (by omega) (by omega) ?_
  intro b20 o21 h0b20 h1b20 hc22
  refine op_load1 (v := (Value.string (bs (TB4.getD (table.toNat % 4) [])))) one9 (ev_hit hN rfl) (by have := hc22 0 (Value.string (bs (TB4.getD (table.toNat % 4) []))) (by decide) (el_sv (l := TB4) (i := (table.toNat % 4)) rfl (show _ < 4 by omega)); simpa using this) (op_assign (ev_hit hN rfl) (reg_nil (hK15 _ _ ?_)))
  exact hJ6 _ _ _ hN hd ⟨(NM5.getD (name.toNat % 5) []), (TB4.getD (table.toNat % 4) []), (sl_base hN rfl s2), (sl_hit hN rfl), (sl_hit hN rfl), (sl_hit hN rfl), (getD_mem (l := NM5) (i := name.toNat % 5) (show _ < 5 by omega)), (getD_mem (l := TB4) (i := table.toNat % 4) (show _ < 4 by omega)), hb, (by omega)⟩
 ·
  rintro a6 w6 hN6 hd6 ⟨n9, t9, s6_2, s6_6, s6_7, s6_8, hn9, ht9, hb, zl_w6⟩
  have z_w6 := hb.size
  refine seq_any fun K23 hK23 => one_reg (op_move (ev_base hN6 rfl s6_7) (op_fn (vs := [(Value.string (bs n9))]) ok24 ⟨(ev_hit hN6 rfl), trivial⟩ (have_ret n9 _) ?_))
  rintro _ w24 ⟨E25, rfl⟩
  have E25 := grown_of_below E25
  have z_w24 := E25.size
  have hb := below_step0 hb E25 hb.size
  refine op_alloc (cs := [(Value.bool false), (Value.bool false)]) zero59 rfl ?_
  intro w26 b27 lo_b27 hi_b27 hB29 E28
  have z_w26 := E28.size
  have hb := below_step0 hb E28 hb.size
  refine op_store (vs := [(Value.bool (hv0 n9)), (Value.bool (hv1 n9))]) (cs' := [(Value.bool (hv0 n9)), (Value.bool (hv1 n9))]) size59 (ev_hit hN6 rfl) (ev_hit hN6 rfl) rfl rfl rfl hB29 (Nat.le_of_ble_eq_true rfl) rfl ?_
  intro w32 hB29 E33
  have z_w32 := E33.size
  have hb := below_step1 hb E33 hb.size (by omega)
  refine reg_nil (hK23 _ _ (seq_any fun K34 hK34 => ?_))
  refine one_reg (op_assign rfl (reg_nil (hK34 _ _ (seq_join1 (N := 97) (fun az_ w' => ∃ (a9 : Int), (az_.tmps.getD 2 undef = (Value.int .u8 (place.toNat : Int))) ∧ (az_.tmps.getD 6 undef = (Value.bool false)) ∧ (az_.tmps.getD 7 undef = (Value.string (bs n9))) ∧ (az_.tmps.getD 8 undef = (Value.string (bs t9))) ∧ (az_.tmps.getD 9 undef = (ptr b27 0)) ∧ (az_.tmps.getD 10 undef = (Value.int .i64 a9)) ∧ (a9 = cntN (hv0 n9) t9 [116]) ∧ (Below w.heap.size w w') ∧ (w32.heap.size ≤ w'.heap.size) ∧ (Bx w' b27 59 [(Value.bool (hv0 n9)), (Value.bool (hv1 n9))])) (fun hJ35 => ?_) ?_))))
  ·
   refine seq_any fun K36 hK36 => seq_any fun K37 hK37 => one_reg (op_index_arr (j := 0) arr59 (ev_hit hN6 rfl) rfl rfl (by decide) ?_)
   refine op_load1 (v := (Value.bool (hv0 n9))) one4 (ev_hit hN6 rfl) (hB29.cell rfl) (op_move (ev_hit hN6 rfl) ?_)
   rcases Bool.eq_false_or_eq_true ((hv0 n9)) with g29 | g29
   ·
    rw [g29]
    refine g_true (j := 2) (dj := 29) (b := true) rfl rfl rfl (ev_hit hN6 rfl) (op_move (ev_base hN6 rfl s6_8) (g_true (j := 2) (dj := 29) (b := true) rfl rfl rfl (ev_hit hN6 rfl) (op_seql (ev_hit hN6 rfl) rfl (fun c31 => ?_) (fun c31 => ?_))))
    ·
     refine g_true (j := 2) (dj := 29) (b := true) rfl rfl rfl (ev_hit hN6 rfl) (op_move (ev_hit hN6 rfl) (g_false (j := 5) (dj := 32) (b := false) rfl rfl rfl (ev_hit hN6 rfl) rfl rfl (g_false (j := 5) (dj := 32) (b := false) rfl rfl rfl (ev_hit hN6 rfl) rfl rfl (g_true (j := 2) (dj := 29) (b := true) rfl rfl rfl (ev_hit hN6 rfl) (op_pick_t (ev_hit hN6 rfl) rfl ?_)))))
     refine op_pick_t (ev_hit hN6 rfl) (ev_hit hN6 rfl) ?_
     refine reg_nil (hK37 _ _ (wp_cond_true (ev_hit hN6 rfl) (one_reg (op_move (ev_hit hN6 rfl) (op_add (r := 1) (ev_hit hN6 rfl) rfl (by decide) ?_)))))
     refine op_assign (ev_hit hN6 rfl) (reg_nil (hK36 _ _ ?_))
     exact hJ35 _ _ _ hN6 hd6 ⟨1, (sl_base hN6 rfl s6_2), (sl_base hN6 rfl s6_6), (sl_base hN6 rfl s6_7), (sl_base hN6 rfl s6_8), (sl_hit hN6 rfl), (sl_hit hN6 rfl), (by unfold cntN; simp [g29, c31]), hb, (by omega), hB29⟩
    ·
     refine g_true (j := 2) (dj := 29) (b := true) rfl rfl rfl (ev_hit hN6 rfl) (op_move (ev_hit hN6 rfl) (g_true (j := 5) (dj := 32) (b := false) rfl rfl rfl (ev_hit hN6 rfl) (op_move (ev_base hN6 rfl s6_8) (g_true (j := 5) (dj := 32) (b := false) rfl rfl rfl (ev_hit hN6 rfl) (op_seql (ev_hit hN6 rfl) rfl (fun c34 => ?_) (fun c34 => ?_))))))
     ·
      refine g_true (j := 2) (dj := 29) (b := true) rfl rfl rfl (ev_hit hN6 rfl) (op_pick_f (ev_hit hN6 rfl) (ev_hit hN6 rfl) ?_)
      refine op_pick_t (ev_hit hN6 rfl) (ev_hit hN6 rfl) ?_
      refine reg_nil (hK37 _ _ (wp_cond_true (ev_hit hN6 rfl) (one_reg (op_move (ev_hit hN6 rfl) (op_add (r := 1) (ev_hit hN6 rfl) rfl (by decide) ?_)))))
      refine op_assign (ev_hit hN6 rfl) (reg_nil (hK36 _ _ ?_))
      exact hJ35 _ _ _ hN6 hd6 ⟨1, (sl_base hN6 rfl s6_2), (sl_base hN6 rfl s6_6), (sl_base hN6 rfl s6_7), (sl_base hN6 rfl s6_8), (sl_hit hN6 rfl), (sl_hit hN6 rfl), (by unfold cntN; simp [g29, c31, c34]), hb, (by omega), hB29⟩
     ·
      refine g_true (j := 2) (dj := 29) (b := true) rfl rfl rfl (ev_hit hN6 rfl) (op_pick_f (ev_hit hN6 rfl) (ev_hit hN6 rfl) ?_)
      refine op_pick_t (ev_hit hN6 rfl) (ev_hit hN6 rfl) ?_
      refine reg_nil (hK37 _ _ (wp_cond_false (ev_hit hN6 rfl) (wp_skip (hK36 _ _ ?_))))
      exact hJ35 _ _ _ hN6 hd6 ⟨0, (sl_base hN6 rfl s6_2), (sl_base hN6 rfl s6_6), (sl_base hN6 rfl s6_7), (sl_base hN6 rfl s6_8), (sl_hit hN6 rfl), (sl_hit hN6 rfl), (by unfold cntN; simp [g29, c31, c34]), hb, (by omega), hB29⟩
   ·
    rw [g29]
    refine g_false (j := 2) (dj := 29) (b := true) rfl rfl rfl (ev_hit hN6 rfl) rfl rfl (g_false (j := 2) (dj := 29) (b := true) rfl rfl rfl (ev_hit hN6 rfl) rfl rfl (g_false (j := 2) (dj := 29) (b := true) rfl rfl rfl (ev_hit hN6 rfl) rfl rfl (g_undef (j := 5) (dj := 32) (b := false) rfl rfl rfl (ev_hit hN6 rfl) rfl ?_)))
    refine g_undef (j := 5) (dj := 32) (b := false) rfl rfl rfl (ev_hit hN6 rfl) rfl ?_
    refine g_false (j := 2) (dj := 29) (b := true) rfl rfl rfl (ev_hit hN6 rfl) rfl rfl (op_pick_f (ev_hit hN6 rfl) rfl ?_)
    refine reg_nil (hK37 _ _ (wp_cond_false (ev_hit hN6 rfl) (wp_skip (hK36 _ _ ?_))))
    exact hJ35 _ _ _ hN6 hd6 ⟨0, (sl_base hN6 rfl s6_2), (sl_base hN6 rfl s6_6), (sl_base hN6 rfl s6_7), (sl_base hN6 rfl s6_8), (sl_hit hN6 rfl), (sl_hit hN6 rfl), (by unfold cntN; simp [g29]), hb, (by omega), hB29⟩
  ·
   rintro a35 w35 hN35 hd35 ⟨a9, s35_2, s35_6, s35_7, s35_8, s35_9, s35_10, ha9, hb, zl_w35, hB29⟩
   have z_w35 := hb.size
   refine seq_join1 (N := 97) (fun az_ w' => ∃ (s9 : Int), (az_.tmps.getD 2 undef = (Value.int .u8 (place.toNat : Int))) ∧ (az_.tmps.getD 6 undef = (Value.bool false)) ∧ (az_.tmps.getD 7 undef = (Value.string (bs n9))) ∧ (az_.tmps.getD 8 undef = (Value.string (bs t9))) ∧ (az_.tmps.getD 10 undef = (Value.int .i64 s9)) ∧ (s9 = cntN (hv0 n9) t9 [116] + cntN (hv1 n9) t9 [117]) ∧ (Below w.heap.size w w') ∧ (w35.heap.size ≤ w'.heap.size) ∧ (Bx w' b27 59 [(Value.bool (hv0 n9)), (Value.bool (hv1 n9))])) (fun hJ38 => ?_) ?_
   ·
    refine seq_any fun K39 hK39 => seq_any fun K40 hK40 => one_reg (op_index_arr (j := 1) arr59 (ev_base hN35 rfl s35_9) rfl rfl (by decide) ?_)
    refine op_load1 (v := (Value.bool (hv1 n9))) one4 (ev_hit hN35 rfl) (hB29.cell rfl) (op_move (ev_hit hN35 rfl) ?_)
    rcases Bool.eq_false_or_eq_true ((hv1 n9)) with g41 | g41
    ·
     rw [g41]
     refine g_true (j := 2) (dj := 41) (b := true) rfl rfl rfl (ev_hit hN35 rfl) (op_move (ev_base hN35 rfl s35_8) (g_true (j := 2) (dj := 41) (b := true) rfl rfl rfl (ev_hit hN35 rfl) (op_seql (ev_hit hN35 rfl) rfl (fun c43 => ?_) (fun c43 => ?_))))
     ·
      refine g_true (j := 2) (dj := 41) (b := true) rfl rfl rfl (ev_hit hN35 rfl) (op_move (ev_hit hN35 rfl) (g_false (j := 5) (dj := 44) (b := false) rfl rfl rfl (ev_hit hN35 rfl) rfl rfl (g_false (j := 5) (dj := 44) (b := false) rfl rfl rfl (ev_hit hN35 rfl) rfl rfl (g_true (j := 2) (dj := 41) (b := true) rfl rfl rfl (ev_hit hN35 rfl) (op_pick_t (ev_hit hN35 rfl) rfl ?_)))))
      refine op_pick_t (ev_hit hN35 rfl) (ev_hit hN35 rfl) ?_
      refine reg_nil (hK40 _ _ (wp_cond_true (ev_hit hN35 rfl) (one_reg ?_)))
      have q9 := cntN_le (hv0 n9) t9 [116]
      refine op_move (ev_base hN35 rfl s35_10) (op_add (ev_hit hN35 rfl) rfl (add64 (by omega)) ?_)
      refine op_assign (ev_hit hN35 rfl) (reg_nil (hK39 _ _ ?_))
      exact hJ38 _ _ _ hN35 hd35 ⟨(a9 + 1), (sl_base hN35 rfl s35_2), (sl_base hN35 rfl s35_6), (sl_base hN35 rfl s35_7), (sl_base hN35 rfl s35_8), (sl_hit hN35 rfl), (sum_t (a := a9) ha9 (by unfold cntN; simp [g41, c43])), hb, (by omega), hB29⟩
     ·
      refine g_true (j := 2) (dj := 41) (b := true) rfl rfl rfl (ev_hit hN35 rfl) (op_move (ev_hit hN35 rfl) (g_true (j := 5) (dj := 44) (b := false) rfl rfl rfl (ev_hit hN35 rfl) (op_move (ev_base hN35 rfl s35_8) (g_true (j := 5) (dj := 44) (b := false) rfl rfl rfl (ev_hit hN35 rfl) (op_seql (ev_hit hN35 rfl) rfl (fun c46 => ?_) (fun c46 => ?_))))))
      ·
       refine g_true (j := 2) (dj := 41) (b := true) rfl rfl rfl (ev_hit hN35 rfl) (op_pick_f (ev_hit hN35 rfl) (ev_hit hN35 rfl) ?_)
       refine op_pick_t (ev_hit hN35 rfl) (ev_hit hN35 rfl) ?_
       refine reg_nil (hK40 _ _ (wp_cond_true (ev_hit hN35 rfl) (one_reg ?_)))
       have q9 := cntN_le (hv0 n9) t9 [116]
       refine op_move (ev_base hN35 rfl s35_10) (op_add (ev_hit hN35 rfl) rfl (add64 (by omega)) ?_)
       refine op_assign (ev_hit hN35 rfl) (reg_nil (hK39 _ _ ?_))
       exact hJ38 _ _ _ hN35 hd35 ⟨(a9 + 1), (sl_base hN35 rfl s35_2), (sl_base hN35 rfl s35_6), (sl_base hN35 rfl s35_7), (sl_base hN35 rfl s35_8), (sl_hit hN35 rfl), (sum_t (a := a9) ha9 (by unfold cntN; simp [g41, c43, c46])), hb, (by omega), hB29⟩
      ·
       refine g_true (j := 2) (dj := 41) (b := true) rfl rfl rfl (ev_hit hN35 rfl) (op_pick_f (ev_hit hN35 rfl) (ev_hit hN35 rfl) ?_)
       refine op_pick_t (ev_hit hN35 rfl) (ev_hit hN35 rfl) ?_
       refine reg_nil (hK40 _ _ (wp_cond_false (ev_hit hN35 rfl) (wp_skip (hK39 _ _ ?_))))
       exact hJ38 _ _ _ hN35 hd35 ⟨a9, (sl_base hN35 rfl s35_2), (sl_base hN35 rfl s35_6), (sl_base hN35 rfl s35_7), (sl_base hN35 rfl s35_8), (sl_base hN35 rfl s35_10), (sum_f (a := a9) ha9 (by unfold cntN; simp [g41, c43, c46])), hb, (by omega), hB29⟩
    ·
     rw [g41]
     refine g_false (j := 2) (dj := 41) (b := true) rfl rfl rfl (ev_hit hN35 rfl) rfl rfl (g_false (j := 2) (dj := 41) (b := true) rfl rfl rfl (ev_hit hN35 rfl) rfl rfl (g_false (j := 2) (dj := 41) (b := true) rfl rfl rfl (ev_hit hN35 rfl) rfl rfl (g_undef (j := 5) (dj := 44) (b := false) rfl rfl rfl (ev_hit hN35 rfl) rfl ?_)))
     refine g_undef (j := 5) (dj := 44) (b := false) rfl rfl rfl (ev_hit hN35 rfl) rfl ?_
     refine g_false (j := 2) (dj := 41) (b := true) rfl rfl rfl (ev_hit hN35 rfl) rfl rfl (op_pick_f (ev_hit hN35 rfl) rfl ?_)
     refine reg_nil (hK40 _ _ (wp_cond_false (ev_hit hN35 rfl) (wp_skip (hK39 _ _ ?_))))
     exact hJ38 _ _ _ hN35 hd35 ⟨a9, (sl_base hN35 rfl s35_2), (sl_base hN35 rfl s35_6), (sl_base hN35 rfl s35_7), (sl_base hN35 rfl s35_8), (sl_base hN35 rfl s35_10), (sum_f (a := a9) ha9 (by unfold cntN; simp [g41])), hb, (by omega), hB29⟩
   ·
    rintro a38 w38 hN38 hd38 ⟨s9, s38_2, s38_6, s38_7, s38_8, s38_10, hs9, hb, zl_w38, hB29⟩
    have z_w38 := hb.size
    refine seq_any fun K41 hK41 => one_reg (op_fn (vs := [(Value.string (bs [116])), (Value.string (bs [107]))]) ok25 ⟨rfl, ⟨rfl, trivial⟩⟩ (col_ret ([116]) ([107]) _) ?_)
    rintro _ w42 ⟨E43, rfl⟩
    have E43 := grown_of_below E43
    have z_w42 := E43.size
    have hb := below_step0 hb E43 hb.size
    refine op_fn (vs := [(Value.string (bs [117])), (Value.string (bs [114]))]) ok25 ⟨rfl, ⟨rfl, trivial⟩⟩ (col_ret ([117]) ([114]) _) ?_
    rintro _ w44 ⟨E45, rfl⟩
    have E45 := grown_of_below E45
    have z_w44 := E45.size
    have hb := below_step0 hb E45 hb.size
    refine op_bslice (e := 28) (pv := [(0, (Value.agg #[(Value.int .i64 2), (Value.int .i64 0), (Value.int .i64 0), (Value.string (bs [])), (Value.string (bs [116])), (Value.string (bs [107])), (Value.slice none 0 0)])), (1, (Value.agg #[(Value.int .i64 2), (Value.int .i64 0), (Value.int .i64 0), (Value.string (bs [])), (Value.string (bs [117])), (Value.string (bs [114])), (Value.slice none 0 0)]))]) (cs := [(Value.int .i64 2), (Value.int .i64 0), (Value.int .i64 0), (Value.string (bs [])), (Value.string (bs [116])), (Value.string (bs [107])), (Value.slice none 0 0), (Value.int .i64 2), (Value.int .i64 0), (Value.int .i64 0), (Value.string (bs [])), (Value.string (bs [117])), (Value.string (bs [114])), (Value.slice none 0 0)]) ⟨rfl, (ev_hit hN38 rfl), ⟨rfl, (ev_hit hN38 rfl), trivial⟩⟩ (by kernel_rfl) ?_
    intro w46 b47 lo_b47 hi_b47 hB49 E48
    have z_w46 := E48.size
    have hb := below_step0 hb E48 hb.size
    refine op_build (pv := [(0, (Value.int .i64 6)), (1, (Value.string (bs [116]))), (7, (Value.string (bs [117]))), (8, (Value.slice (some ⟨b47, 0, none⟩) 2 2))]) (v := (Value.agg #[(Value.int .i64 6), (Value.string (bs [116])), (Value.string (bs [])), (Value.slice none 0 0), (Value.slice none 0 0), (Value.slice none 0 0), (Value.slice none 0 0), (Value.string (bs [117])), (Value.slice (some ⟨b47, 0, none⟩) 2 2), (Value.slice none 0 0), (Value.slice none 0 0), (Value.bool false), (Value.slice none 0 0)])) ⟨rfl, rfl, ⟨rfl, rfl, ⟨rfl, rfl, ⟨rfl, (ev_hit hN38 rfl), trivial⟩⟩⟩⟩ (by kernel_rfl) ?_
    refine op_alloc (cs := [(Value.int .i64 0), (Value.string (bs [])), (Value.string (bs [])), (Value.slice none 0 0), (Value.slice none 0 0), (Value.slice none 0 0), (Value.slice none 0 0), (Value.string (bs [])), (Value.slice none 0 0), (Value.slice none 0 0), (Value.slice none 0 0), (Value.bool false), (Value.slice none 0 0)]) zero45 rfl ?_
    intro w50 b51 lo_b51 hi_b51 hB53 E52
    have z_w50 := E52.size
    have hB49 := hB49.keep0 E52
    have hb := below_step0 hb E52 hb.size
    have hB53_old := hB53
    refine op_store (vs := [(Value.int .i64 6), (Value.string (bs [116])), (Value.string (bs [])), (Value.slice none 0 0), (Value.slice none 0 0), (Value.slice none 0 0), (Value.slice none 0 0), (Value.string (bs [117])), (Value.slice (some ⟨b47, 0, none⟩) 2 2), (Value.slice none 0 0), (Value.slice none 0 0), (Value.bool false), (Value.slice none 0 0)]) (cs' := [(Value.int .i64 6), (Value.string (bs [116])), (Value.string (bs [])), (Value.slice none 0 0), (Value.slice none 0 0), (Value.slice none 0 0), (Value.slice none 0 0), (Value.string (bs [117])), (Value.slice (some ⟨b47, 0, none⟩) 2 2), (Value.slice none 0 0), (Value.slice none 0 0), (Value.bool false), (Value.slice none 0 0)]) size45 (ev_hit hN38 rfl) (ev_hit hN38 rfl) rfl rfl rfl hB53 (Nat.le_of_ble_eq_true rfl) rfl ?_
    intro w56 hB53 E57
    have z_w56 := E57.size
    have hB49 := hB49.keep E57 (fun hh => hB49.ne hB53_old (by decide) (Option.some.inj hh))
    have hb := below_step1 hb E57 hb.size (by omega)
    refine reg_nil (hK41 _ _ (seq_any fun K58 hK58 => seq_any fun K59 hK59 => one_reg (op_move (ev_base hN38 rfl s38_2) (op_rem (r := ((place.toNat % 3 : Nat) : Int)) (ev_hit hN38 rfl) rfl (by decide) (by rw [Int.tmod_eq_emod_of_nonneg (by omega)]; omega) ?_))))
    refine reg_nil (hK59 _ _ (wp_block ?_))
    refine seq_any fun K60 hK60 => ?_
    refine one_reg (op_eql (ev_hit hN38 rfl) rfl (fun c68 => ?_) (fun c68 => ?_))
    ·
     refine op_assign (ev_hit hN38 rfl) ?_
     refine reg_nil (hK60 _ _ (wp_cond_true (ev_hit hN38 rfl) (one_reg (op_move (ev_base hN38 rfl s38_8) (op_move (ev_base hN38 rfl s38_7) (op_build (pv := [(1, (Value.string (bs t9))), (2, (Value.string (bs n9)))]) (v := (Value.agg #[(Value.int .i64 0), (Value.string (bs t9)), (Value.string (bs n9))])) ⟨rfl, (ev_hit hN38 rfl), ⟨rfl, (ev_hit hN38 rfl), trivial⟩⟩ (by kernel_rfl) ?_))))))
     refine op_bslice (e := 63) (pv := [(0, (Value.agg #[(Value.int .i64 0), (Value.string (bs t9)), (Value.string (bs n9))]))]) (cs := [(Value.int .i64 0), (Value.string (bs t9)), (Value.string (bs n9))]) ⟨rfl, (ev_hit hN38 rfl), trivial⟩ (by kernel_rfl) ?_
     intro w61 b62 lo_b62 hi_b62 hB64 E63
     have z_w61 := E63.size
     have hB49 := hB49.keep0 E63
     have hB53 := hB53.keep0 E63
     have hb := below_step0 hb E63 hb.size
     refine op_field fld45_6 (ev_hit hN38 rfl) ?_
     have hB53_old := hB53
     refine op_store (vs := [(Value.slice (some ⟨b62, 0, none⟩) 1 1)]) (cs' := [(Value.int .i64 6), (Value.string (bs [116])), (Value.string (bs [])), (Value.slice none 0 0), (Value.slice none 0 0), (Value.slice none 0 0), (Value.slice (some ⟨b62, 0, none⟩) 1 1), (Value.string (bs [117])), (Value.slice (some ⟨b47, 0, none⟩) 2 2), (Value.slice none 0 0), (Value.slice none 0 0), (Value.bool false), (Value.slice none 0 0)]) size22 (ev_hit hN38 rfl) (ev_hit hN38 rfl) rfl rfl rfl hB53 (Nat.le_of_ble_eq_true rfl) rfl ?_
     intro w67 hB53 E68
     have z_w67 := E68.size
     have hB49 := hB49.keep E68 (fun hh => hB49.ne hB53_old (by decide) (Option.some.inj hh))
     have hB64 := hB64.keep E68 (fun hh => hB64.ne hB53_old (by decide) (Option.some.inj hh))
     have hb := below_step1 hb E68 hb.size (by omega)
     refine reg_nil (hK58 _ _ (seq_any fun K69 hK69 => reg_split (hd := [_, _]) (tl := _) 2 mixed (by kernel_rfl) rfl rfl ?_))
     refine any_env (φ := phiV [(fun _ => True), (fun uz => uz = (Value.agg #[(Value.int .i64 6), (Value.string (bs [116])), (Value.string (bs [])), (Value.slice none 0 0), (Value.slice none 0 0), (Value.slice none 0 0), (Value.slice (some ⟨b62, 0, none⟩) 1 1), (Value.string (bs [117])), (Value.slice (some ⟨b47, 0, none⟩) 2 2), (Value.slice none 0 0), (Value.slice none 0 0), (Value.bool false), (Value.slice none 0 0)]))]) (G := fun w' => Bx w' b51 45 [(Value.int .i64 6), (Value.string (bs [116])), (Value.string (bs [])), (Value.slice none 0 0), (Value.slice none 0 0), (Value.slice none 0 0), (Value.slice (some ⟨b62, 0, none⟩) 1 1), (Value.string (bs [117])), (Value.slice (some ⟨b47, 0, none⟩) 2 2), (Value.slice none 0 0), (Value.slice none 0 0), (Value.bool false), (Value.slice none 0 0)]) [0] (by kernel_rfl) (by kernel_rfl) (by kernel_rfl) (by kernel_rfl) hN38 (fun w1 w2 E h => h.keep0 E) hB53 (ObEs.pass rfl (ObEs.cons ?_ (ObEs.nil))) (by simp only [putsL_defers]) ?_
     ·
      intro eA aA wA hNA hGA hbsA hdpA
      have qA_11 := (hbsA 11 rfl).trans (sl_hit hN38 rfl)
      refine op_loadA (cs := [(Value.int .i64 6), (Value.string (bs [116])), (Value.string (bs [])), (Value.slice none 0 0), (Value.slice none 0 0), (Value.slice none 0 0), (Value.slice (some ⟨b62, 0, none⟩) 1 1), (Value.string (bs [117])), (Value.slice (some ⟨b47, 0, none⟩) 2 2), (Value.slice none 0 0), (Value.slice none 0 0), (Value.bool false), (Value.slice none 0 0)]) agg45 rfl (ev_base hNA rfl qA_11) (fun j u hu => by rw [Nat.zero_add]; exact hGA.cell hu) ?_
      exact obE_end rfl rfl rfl
     ·
      intro w70 E70 _ a70 hN70 hbs70 hdp70 o_ ho_; obtain rfl := Option.some.inj ho_
      have z_w70 := E70.size
      have hB49 := hB49.keep0 E70
      have hB64 := hB64.keep0 E70
      have hB53 := hB53.keep0 E70
      have hb := below_step0 hb E70 hb.size
      refine op_fn (vs := []) ok16 trivial (Schema_ret _) ?_
      rintro _ w72 ⟨E73, tv71, D71, rfl, hM71, hT71⟩
      have E73 := grown_of_below E73
      have z_w72 := E73.size
      have hB49 := hB49.keep0 E73
      have hB64 := hB64.keep0 E73
      have hB53 := hB53.keep0 E73
      have hb := below_step0 hb E73 hb.size
      have hR71 := hT71.1
      have hz71 := sch_sz hM71
      refine ke_end rfl (by decide) rfl hB53 ?_
      intro w74 E74 a74 hN74 hd74 hbs74 hph74
      have hd74 := hd74.trans ((by simp only [putsL_defers] : _ = _).trans hd38)
      have z_w74 := E74.size
      have hB49 := hB49.keep0 E74
      have hB64 := hB64.keep0 E74
      have hT71 := hT71.keep0 E74
      have hb := below_step0 hb E74 hb.size
      have s74_10 := (hbs74 10 rfl).trans (sl_base hN38 rfl s38_10)
      have s74_81 : Sl a74 81 (Value.agg #[tv71, (Value.slice none 0 0)]) := (Option.some.inj ((hph74 0 _ 81 rfl rfl).1 0 rfl)).symm
      have s74_82 : Sl a74 82 (Value.agg #[(Value.int .i64 6), (Value.string (bs [116])), (Value.string (bs [])), (Value.slice none 0 0), (Value.slice none 0 0), (Value.slice none 0 0), (Value.slice (some ⟨b62, 0, none⟩) 1 1), (Value.string (bs [117])), (Value.slice (some ⟨b47, 0, none⟩) 2 2), (Value.slice none 0 0), (Value.slice none 0 0), (Value.bool false), (Value.slice none 0 0)]) := (hph74 1 _ 82 rfl rfl).2 rfl
      refine split_end ?_
      refine from_seq (tl := [_, _]) (by decide) (by kernel_rfl) rfl ?_
      refine op_fn (vs := [(Value.agg #[tv71, (Value.slice none 0 0)]), (Value.agg #[(Value.int .i64 6), (Value.string (bs [116])), (Value.string (bs [])), (Value.slice none 0 0), (Value.slice none 0 0), (Value.slice none 0 0), (Value.slice (some ⟨b62, 0, none⟩) 1 1), (Value.string (bs [117])), (Value.slice (some ⟨b47, 0, none⟩) 2 2), (Value.slice none 0 0), (Value.slice none 0 0), (Value.bool false), (Value.slice none 0 0)])]) ok19 ⟨(ev_base hN74 rfl s74_81), ⟨(ev_base hN74 rfl s74_82), trivial⟩⟩ (checkM hM71 (XS.mk (StF.mk 6 ([116]) [] (Value.slice none 0 0) [] (Value.slice none 0 0) [] (Value.slice none 0 0) [] (Value.slice (some ⟨b62, 0, none⟩) 1 1) ([(PItm.mk 0 t9 n9)]) ([117]) (Value.slice (some ⟨b47, 0, none⟩) 2 2) ([(XE.mk 2 0 0 [] ([116]) ([107]) (Value.slice none 0 0) []), (XE.mk 2 0 0 [] ([117]) ([114]) (Value.slice none 0 0) [])]) (Value.slice none 0 0) [] (Value.slice none 0 0) [] false) (Value.slice none 0 0) []) (hT71.mono (by omega)) hz71.1 hz71.2 (SRd.mk (s := (XS.mk (StF.mk 6 ([116]) [] (Value.slice none 0 0) [] (Value.slice none 0 0) [] (Value.slice none 0 0) [] (Value.slice (some ⟨b62, 0, none⟩) 1 1) ([(PItm.mk 0 t9 n9)]) ([117]) (Value.slice (some ⟨b47, 0, none⟩) 2 2) ([(XE.mk 2 0 0 [] ([116]) ([107]) (Value.slice none 0 0) []), (XE.mk 2 0 0 [] ([117]) ([114]) (Value.slice none 0 0) [])]) (Value.slice none 0 0) [] (Value.slice none 0 0) [] false) (Value.slice none 0 0) [])) ⟨(RdC.nil _ _ _ _), (RdC.nil _ _ _ _), (XsRd.nil _ _), (rd_items (x := (PItm.mk 0 t9 n9)) hB64 (by omega)), (XsRd.lit2 (e := (XE.mk 2 0 0 [] ([116]) ([107]) (Value.slice none 0 0) [])) (e2 := (XE.mk 2 0 0 [] ([117]) ([114]) (Value.slice none 0 0) [])) hB49 (by omega) (XRd.bare rfl rfl) (XRd.bare rfl rfl)), (XsRd.nil _ _), (XsRd.nil _ _)⟩ (RdC.nil _ _ _ _) (fun _ h => (by cases h)))) ?_
      rintro _ w75 ⟨E76, rfl⟩
      have E76 := grown_of_below E76
      have z_w75 := E76.size
      have hb := below_step0 hb E76 hb.size
      refine op_assign (ev_hit hN74 rfl) (reg_nil (hK69 _ _ (seq_any fun K77 hK77 => one_reg ?_)))
      have hck : checkE schT [] (XS.mk (StF.mk 6 ([116]) [] (Value.slice none 0 0) [] (Value.slice none 0 0) [] (Value.slice none 0 0) [] (Value.slice (some ⟨b62, 0, none⟩) 1 1) ([(PItm.mk 0 t9 n9)]) ([117]) (Value.slice (some ⟨b47, 0, none⟩) 2 2) ([(XE.mk 2 0 0 [] ([116]) ([107]) (Value.slice none 0 0) []), (XE.mk 2 0 0 [] ([117]) ([114]) (Value.slice none 0 0) [])]) (Value.slice none 0 0) [] (Value.slice none 0 0) [] false) (Value.slice none 0 0) []) = wantN n9 t9 := names_0 hn9 ht9
      unfold wantN at hck; rw [← hs9] at hck
      refine op_move (ev_hit hN74 rfl) (op_eql (ev_hit hN74 rfl) rfl (fun c85 => ?_) (fun c85 => ?_))
      ·
       refine op_move (ev_base hN74 rfl s74_10) (op_eql (ev_hit hN74 rfl) rfl (fun c87 => ?_) (fun c87 => ?_))
       ·
        refine op_eqb Try.underlying4 (ev_hit hN74 rfl) (ev_hit hN74 rfl) ?_
        refine op_move (ev_hit hN74 rfl) (g_true (j := 5) (dj := 89) (b := true) rfl rfl rfl (ev_hit hN74 rfl) (op_move (ev_base hN74 rfl s74_10) (g_true (j := 5) (dj := 89) (b := true) rfl rfl rfl (ev_hit hN74 rfl) (op_eql (ev_hit hN74 rfl) rfl (fun c91 => ?_) (fun c91 => ?_)))))
        ·
         refine g_true (j := 5) (dj := 89) (b := true) rfl rfl rfl (ev_hit hN74 rfl) (op_move (ev_hit hN74 rfl) (g_false (j := 8) (dj := 92) (b := false) rfl rfl rfl (ev_hit hN74 rfl) rfl rfl (g_false (j := 8) (dj := 92) (b := false) rfl rfl rfl (ev_hit hN74 rfl) rfl rfl (g_true (j := 5) (dj := 89) (b := true) rfl rfl rfl (ev_hit hN74 rfl) (op_pick_t (ev_hit hN74 rfl) rfl ?_)))))
         refine op_pick_t (ev_hit hN74 rfl) (ev_hit hN74 rfl) ?_
         refine op_assign (ev_hit hN74 rfl) (reg_nil (hK77 _ _ (wp_ret ?_)))
         refine ret1 rfl hd74 (ev_hit hN74 rfl) ⟨_, rfl, ?_⟩
         exact ⟨hb, rfl⟩
        ·
         refine g_true (j := 5) (dj := 89) (b := true) rfl rfl rfl (ev_hit hN74 rfl) (op_move (ev_hit hN74 rfl) (g_true (j := 8) (dj := 92) (b := false) rfl rfl rfl (ev_hit hN74 rfl) (op_move (ev_hit hN74 rfl) (g_true (j := 8) (dj := 92) (b := false) rfl rfl rfl (ev_hit hN74 rfl) (op_eql (ev_hit hN74 rfl) rfl (fun c94 => ?_) (fun c94 => ?_))))))
         ·
          refine g_true (j := 5) (dj := 89) (b := true) rfl rfl rfl (ev_hit hN74 rfl) (op_pick_f (ev_hit hN74 rfl) (ev_hit hN74 rfl) ?_)
          refine op_pick_t (ev_hit hN74 rfl) (ev_hit hN74 rfl) ?_
          refine op_assign (ev_hit hN74 rfl) (reg_nil (hK77 _ _ (wp_ret ?_)))
          refine ret1 rfl hd74 (ev_hit hN74 rfl) ⟨_, rfl, ?_⟩
          exact ⟨hb, rfl⟩
         ·
          refine g_true (j := 5) (dj := 89) (b := true) rfl rfl rfl (ev_hit hN74 rfl) (op_pick_f (ev_hit hN74 rfl) (ev_hit hN74 rfl) ?_)
          refine op_pick_t (ev_hit hN74 rfl) (ev_hit hN74 rfl) ?_
          refine op_assign (ev_hit hN74 rfl) (reg_nil (hK77 _ _ (wp_ret ?_)))
          refine ret1 rfl hd74 (ev_hit hN74 rfl) ⟨_, rfl, ?_⟩
          exfalso; split at hck <;> omega
       ·
        refine op_eqb Try.underlying4 (ev_hit hN74 rfl) (ev_hit hN74 rfl) ?_
        refine op_move (ev_hit hN74 rfl) (g_false (j := 5) (dj := 89) (b := true) rfl rfl rfl (ev_hit hN74 rfl) rfl rfl (g_false (j := 5) (dj := 89) (b := true) rfl rfl rfl (ev_hit hN74 rfl) rfl rfl (g_false (j := 5) (dj := 89) (b := true) rfl rfl rfl (ev_hit hN74 rfl) rfl rfl (g_undef (j := 8) (dj := 92) (b := false) rfl rfl rfl (ev_hit hN74 rfl) rfl ?_))))
        refine g_undef (j := 8) (dj := 92) (b := false) rfl rfl rfl (ev_hit hN74 rfl) rfl ?_
        refine g_false (j := 5) (dj := 89) (b := true) rfl rfl rfl (ev_hit hN74 rfl) rfl rfl (op_pick_f (ev_hit hN74 rfl) rfl ?_)
        refine op_assign (ev_hit hN74 rfl) (reg_nil (hK77 _ _ (wp_ret ?_)))
        refine ret1 rfl hd74 (ev_hit hN74 rfl) ⟨_, rfl, ?_⟩
        exfalso; split at hck <;> omega
      ·
       refine op_move (ev_base hN74 rfl s74_10) (op_eql (ev_hit hN74 rfl) rfl (fun c87 => ?_) (fun c87 => ?_))
       ·
        refine op_eqb Try.underlying4 (ev_hit hN74 rfl) (ev_hit hN74 rfl) ?_
        refine op_move (ev_hit hN74 rfl) (g_false (j := 5) (dj := 89) (b := true) rfl rfl rfl (ev_hit hN74 rfl) rfl rfl (g_false (j := 5) (dj := 89) (b := true) rfl rfl rfl (ev_hit hN74 rfl) rfl rfl (g_false (j := 5) (dj := 89) (b := true) rfl rfl rfl (ev_hit hN74 rfl) rfl rfl (g_undef (j := 8) (dj := 92) (b := false) rfl rfl rfl (ev_hit hN74 rfl) rfl ?_))))
        refine g_undef (j := 8) (dj := 92) (b := false) rfl rfl rfl (ev_hit hN74 rfl) rfl ?_
        refine g_false (j := 5) (dj := 89) (b := true) rfl rfl rfl (ev_hit hN74 rfl) rfl rfl (op_pick_f (ev_hit hN74 rfl) rfl ?_)
        refine op_assign (ev_hit hN74 rfl) (reg_nil (hK77 _ _ (wp_ret ?_)))
        refine ret1 rfl hd74 (ev_hit hN74 rfl) ⟨_, rfl, ?_⟩
        exfalso; split at hck <;> omega
       ·
        refine op_eqb Try.underlying4 (ev_hit hN74 rfl) (ev_hit hN74 rfl) ?_
        refine op_move (ev_hit hN74 rfl) (g_true (j := 5) (dj := 89) (b := true) rfl rfl rfl (ev_hit hN74 rfl) (op_move (ev_base hN74 rfl s74_10) (g_true (j := 5) (dj := 89) (b := true) rfl rfl rfl (ev_hit hN74 rfl) (op_eql (ev_hit hN74 rfl) rfl (fun c91 => ?_) (fun c91 => ?_)))))
        ·
         refine g_true (j := 5) (dj := 89) (b := true) rfl rfl rfl (ev_hit hN74 rfl) (op_move (ev_hit hN74 rfl) (g_false (j := 8) (dj := 92) (b := false) rfl rfl rfl (ev_hit hN74 rfl) rfl rfl (g_false (j := 8) (dj := 92) (b := false) rfl rfl rfl (ev_hit hN74 rfl) rfl rfl (g_true (j := 5) (dj := 89) (b := true) rfl rfl rfl (ev_hit hN74 rfl) (op_pick_t (ev_hit hN74 rfl) rfl ?_)))))
         refine op_pick_t (ev_hit hN74 rfl) (ev_hit hN74 rfl) ?_
         refine op_assign (ev_hit hN74 rfl) (reg_nil (hK77 _ _ (wp_ret ?_)))
         refine ret1 rfl hd74 (ev_hit hN74 rfl) ⟨_, rfl, ?_⟩
         exact ⟨hb, rfl⟩
        ·
         refine g_true (j := 5) (dj := 89) (b := true) rfl rfl rfl (ev_hit hN74 rfl) (op_move (ev_hit hN74 rfl) (g_true (j := 8) (dj := 92) (b := false) rfl rfl rfl (ev_hit hN74 rfl) (op_move (ev_hit hN74 rfl) (g_true (j := 8) (dj := 92) (b := false) rfl rfl rfl (ev_hit hN74 rfl) (op_eql (ev_hit hN74 rfl) rfl (fun c94 => ?_) (fun c94 => ?_))))))
         ·
          refine g_true (j := 5) (dj := 89) (b := true) rfl rfl rfl (ev_hit hN74 rfl) (op_pick_f (ev_hit hN74 rfl) (ev_hit hN74 rfl) ?_)
          refine op_pick_t (ev_hit hN74 rfl) (ev_hit hN74 rfl) ?_
          refine op_assign (ev_hit hN74 rfl) (reg_nil (hK77 _ _ (wp_ret ?_)))
          refine ret1 rfl hd74 (ev_hit hN74 rfl) ⟨_, rfl, ?_⟩
          exact ⟨hb, rfl⟩
         ·
          refine g_true (j := 5) (dj := 89) (b := true) rfl rfl rfl (ev_hit hN74 rfl) (op_pick_f (ev_hit hN74 rfl) (ev_hit hN74 rfl) ?_)
          refine op_pick_t (ev_hit hN74 rfl) (ev_hit hN74 rfl) ?_
          refine op_assign (ev_hit hN74 rfl) (reg_nil (hK77 _ _ (wp_ret ?_)))
          refine ret1 rfl hd74 (ev_hit hN74 rfl) ⟨_, rfl, ?_⟩
          exfalso; split at hck <;> omega
    ·
     refine op_assign (ev_hit hN38 rfl) (reg_nil (hK60 _ _ (wp_cond_false (ev_hit hN38 rfl) (seq_any fun K78 hK78 => ?_))))
     refine one_reg (op_eql (ev_hit hN38 rfl) rfl (fun c75 => ?_) (fun c75 => ?_))
     ·
      refine op_assign (ev_hit hN38 rfl) ?_
      refine reg_nil (hK78 _ _ (wp_cond_true (ev_hit hN38 rfl) (one_reg (op_move (ev_base hN38 rfl s38_8) (op_move (ev_base hN38 rfl s38_7) (op_fn (vs := [(Value.string (bs t9)), (Value.string (bs n9))]) ok25 ⟨(ev_hit hN38 rfl), ⟨(ev_hit hN38 rfl), trivial⟩⟩ (col_ret t9 n9 _) ?_))))))
      rintro _ w79 ⟨E80, rfl⟩
      have E80 := grown_of_below E80
      have z_w79 := E80.size
      have hB49 := hB49.keep0 E80
      have hB53 := hB53.keep0 E80
      have hb := below_step0 hb E80 hb.size
      refine op_bslice (e := 28) (pv := [(0, (Value.agg #[(Value.int .i64 2), (Value.int .i64 0), (Value.int .i64 0), (Value.string (bs [])), (Value.string (bs t9)), (Value.string (bs n9)), (Value.slice none 0 0)]))]) (cs := [(Value.int .i64 2), (Value.int .i64 0), (Value.int .i64 0), (Value.string (bs [])), (Value.string (bs t9)), (Value.string (bs n9)), (Value.slice none 0 0)]) ⟨rfl, (ev_hit hN38 rfl), trivial⟩ (by kernel_rfl) ?_
      intro w81 b82 lo_b82 hi_b82 hB84 E83
      have z_w81 := E83.size
      have hB49 := hB49.keep0 E83
      have hB53 := hB53.keep0 E83
      have hb := below_step0 hb E83 hb.size
      refine op_field fld45_10 (ev_hit hN38 rfl) ?_
      have hB53_old := hB53
      refine op_store (vs := [(Value.slice (some ⟨b82, 0, none⟩) 1 1)]) (cs' := [(Value.int .i64 6), (Value.string (bs [116])), (Value.string (bs [])), (Value.slice none 0 0), (Value.slice none 0 0), (Value.slice none 0 0), (Value.slice none 0 0), (Value.string (bs [117])), (Value.slice (some ⟨b47, 0, none⟩) 2 2), (Value.slice none 0 0), (Value.slice (some ⟨b82, 0, none⟩) 1 1), (Value.bool false), (Value.slice none 0 0)]) size26 (ev_hit hN38 rfl) (ev_hit hN38 rfl) rfl rfl rfl hB53 (Nat.le_of_ble_eq_true rfl) rfl ?_
      intro w87 hB53 E88
      have z_w87 := E88.size
      have hB49 := hB49.keep E88 (fun hh => hB49.ne hB53_old (by decide) (Option.some.inj hh))
      have hB84 := hB84.keep E88 (fun hh => hB84.ne hB53_old (by decide) (Option.some.inj hh))
      have hb := below_step1 hb E88 hb.size (by omega)
      refine reg_nil (hK58 _ _ (seq_any fun K89 hK89 => reg_split (hd := [_, _]) (tl := _) 2 mixed (by kernel_rfl) rfl rfl ?_))
      refine any_env (φ := phiV [(fun _ => True), (fun uz => uz = (Value.agg #[(Value.int .i64 6), (Value.string (bs [116])), (Value.string (bs [])), (Value.slice none 0 0), (Value.slice none 0 0), (Value.slice none 0 0), (Value.slice none 0 0), (Value.string (bs [117])), (Value.slice (some ⟨b47, 0, none⟩) 2 2), (Value.slice none 0 0), (Value.slice (some ⟨b82, 0, none⟩) 1 1), (Value.bool false), (Value.slice none 0 0)]))]) (G := fun w' => Bx w' b51 45 [(Value.int .i64 6), (Value.string (bs [116])), (Value.string (bs [])), (Value.slice none 0 0), (Value.slice none 0 0), (Value.slice none 0 0), (Value.slice none 0 0), (Value.string (bs [117])), (Value.slice (some ⟨b47, 0, none⟩) 2 2), (Value.slice none 0 0), (Value.slice (some ⟨b82, 0, none⟩) 1 1), (Value.bool false), (Value.slice none 0 0)]) [0] (by kernel_rfl) (by kernel_rfl) (by kernel_rfl) (by kernel_rfl) hN38 (fun w1 w2 E h => h.keep0 E) hB53 (ObEs.pass rfl (ObEs.cons ?_ (ObEs.nil))) (by simp only [putsL_defers]) ?_
      ·
       intro eA aA wA hNA hGA hbsA hdpA
       have qA_11 := (hbsA 11 rfl).trans (sl_hit hN38 rfl)
       refine op_loadA (cs := [(Value.int .i64 6), (Value.string (bs [116])), (Value.string (bs [])), (Value.slice none 0 0), (Value.slice none 0 0), (Value.slice none 0 0), (Value.slice none 0 0), (Value.string (bs [117])), (Value.slice (some ⟨b47, 0, none⟩) 2 2), (Value.slice none 0 0), (Value.slice (some ⟨b82, 0, none⟩) 1 1), (Value.bool false), (Value.slice none 0 0)]) agg45 rfl (ev_base hNA rfl qA_11) (fun j u hu => by rw [Nat.zero_add]; exact hGA.cell hu) ?_
       exact obE_end rfl rfl rfl
      ·
       intro w90 E90 _ a90 hN90 hbs90 hdp90 o_ ho_; obtain rfl := Option.some.inj ho_
       have z_w90 := E90.size
       have hB49 := hB49.keep0 E90
       have hB84 := hB84.keep0 E90
       have hB53 := hB53.keep0 E90
       have hb := below_step0 hb E90 hb.size
       refine op_fn (vs := []) ok16 trivial (Schema_ret _) ?_
       rintro _ w92 ⟨E93, tv91, D91, rfl, hM91, hT91⟩
       have E93 := grown_of_below E93
       have z_w92 := E93.size
       have hB49 := hB49.keep0 E93
       have hB84 := hB84.keep0 E93
       have hB53 := hB53.keep0 E93
       have hb := below_step0 hb E93 hb.size
       have hR91 := hT91.1
       have hz91 := sch_sz hM91
       refine ke_end rfl (by decide) rfl hB53 ?_
       intro w94 E94 a94 hN94 hd94 hbs94 hph94
       have hd94 := hd94.trans ((by simp only [putsL_defers] : _ = _).trans hd38)
       have z_w94 := E94.size
       have hB49 := hB49.keep0 E94
       have hB84 := hB84.keep0 E94
       have hT91 := hT91.keep0 E94
       have hb := below_step0 hb E94 hb.size
       have s94_10 := (hbs94 10 rfl).trans (sl_base hN38 rfl s38_10)
       have s94_81 : Sl a94 81 (Value.agg #[tv91, (Value.slice none 0 0)]) := (Option.some.inj ((hph94 0 _ 81 rfl rfl).1 0 rfl)).symm
       have s94_82 : Sl a94 82 (Value.agg #[(Value.int .i64 6), (Value.string (bs [116])), (Value.string (bs [])), (Value.slice none 0 0), (Value.slice none 0 0), (Value.slice none 0 0), (Value.slice none 0 0), (Value.string (bs [117])), (Value.slice (some ⟨b47, 0, none⟩) 2 2), (Value.slice none 0 0), (Value.slice (some ⟨b82, 0, none⟩) 1 1), (Value.bool false), (Value.slice none 0 0)]) := (hph94 1 _ 82 rfl rfl).2 rfl
       refine split_end ?_
       refine from_seq (tl := [_, _]) (by decide) (by kernel_rfl) rfl ?_
       refine op_fn (vs := [(Value.agg #[tv91, (Value.slice none 0 0)]), (Value.agg #[(Value.int .i64 6), (Value.string (bs [116])), (Value.string (bs [])), (Value.slice none 0 0), (Value.slice none 0 0), (Value.slice none 0 0), (Value.slice none 0 0), (Value.string (bs [117])), (Value.slice (some ⟨b47, 0, none⟩) 2 2), (Value.slice none 0 0), (Value.slice (some ⟨b82, 0, none⟩) 1 1), (Value.bool false), (Value.slice none 0 0)])]) ok19 ⟨(ev_base hN94 rfl s94_81), ⟨(ev_base hN94 rfl s94_82), trivial⟩⟩ (checkM hM91 (XS.mk (StF.mk 6 ([116]) [] (Value.slice none 0 0) [] (Value.slice none 0 0) [] (Value.slice none 0 0) [] (Value.slice none 0 0) [] ([117]) (Value.slice (some ⟨b47, 0, none⟩) 2 2) ([(XE.mk 2 0 0 [] ([116]) ([107]) (Value.slice none 0 0) []), (XE.mk 2 0 0 [] ([117]) ([114]) (Value.slice none 0 0) [])]) (Value.slice none 0 0) [] (Value.slice (some ⟨b82, 0, none⟩) 1 1) ([(XE.mk 2 0 0 [] t9 n9 (Value.slice none 0 0) [])]) false) (Value.slice none 0 0) []) (hT91.mono (by omega)) hz91.1 hz91.2 (SRd.mk (s := (XS.mk (StF.mk 6 ([116]) [] (Value.slice none 0 0) [] (Value.slice none 0 0) [] (Value.slice none 0 0) [] (Value.slice none 0 0) [] ([117]) (Value.slice (some ⟨b47, 0, none⟩) 2 2) ([(XE.mk 2 0 0 [] ([116]) ([107]) (Value.slice none 0 0) []), (XE.mk 2 0 0 [] ([117]) ([114]) (Value.slice none 0 0) [])]) (Value.slice none 0 0) [] (Value.slice (some ⟨b82, 0, none⟩) 1 1) ([(XE.mk 2 0 0 [] t9 n9 (Value.slice none 0 0) [])]) false) (Value.slice none 0 0) [])) ⟨(RdC.nil _ _ _ _), (RdC.nil _ _ _ _), (XsRd.nil _ _), (RdC.nil _ _ _ _), (XsRd.lit2 (e := (XE.mk 2 0 0 [] ([116]) ([107]) (Value.slice none 0 0) [])) (e2 := (XE.mk 2 0 0 [] ([117]) ([114]) (Value.slice none 0 0) [])) hB49 (by omega) (XRd.bare rfl rfl) (XRd.bare rfl rfl)), (XsRd.nil _ _), (XsRd.lit1 (e := (XE.mk 2 0 0 [] t9 n9 (Value.slice none 0 0) [])) hB84 (by omega) (XRd.bare rfl rfl))⟩ (RdC.nil _ _ _ _) (fun _ h => (by cases h)))) ?_
       rintro _ w95 ⟨E96, rfl⟩
       have E96 := grown_of_below E96
       have z_w95 := E96.size
       have hb := below_step0 hb E96 hb.size
       refine op_assign (ev_hit hN94 rfl) (reg_nil (hK89 _ _ (seq_any fun K97 hK97 => one_reg ?_)))
       have hck : checkE schT [] (XS.mk (StF.mk 6 ([116]) [] (Value.slice none 0 0) [] (Value.slice none 0 0) [] (Value.slice none 0 0) [] (Value.slice none 0 0) [] ([117]) (Value.slice (some ⟨b47, 0, none⟩) 2 2) ([(XE.mk 2 0 0 [] ([116]) ([107]) (Value.slice none 0 0) []), (XE.mk 2 0 0 [] ([117]) ([114]) (Value.slice none 0 0) [])]) (Value.slice none 0 0) [] (Value.slice (some ⟨b82, 0, none⟩) 1 1) ([(XE.mk 2 0 0 [] t9 n9 (Value.slice none 0 0) [])]) false) (Value.slice none 0 0) []) = wantN n9 t9 := names_1 hn9 ht9
       unfold wantN at hck; rw [← hs9] at hck
       refine op_move (ev_hit hN94 rfl) (op_eql (ev_hit hN94 rfl) rfl (fun c85 => ?_) (fun c85 => ?_))
       ·
        refine op_move (ev_base hN94 rfl s94_10) (op_eql (ev_hit hN94 rfl) rfl (fun c87 => ?_) (fun c87 => ?_))
        ·
         refine op_eqb Try.underlying4 (ev_hit hN94 rfl) (ev_hit hN94 rfl) ?_
         refine op_move (ev_hit hN94 rfl) (g_true (j := 5) (dj := 89) (b := true) rfl rfl rfl (ev_hit hN94 rfl) (op_move (ev_base hN94 rfl s94_10) (g_true (j := 5) (dj := 89) (b := true) rfl rfl rfl (ev_hit hN94 rfl) (op_eql (ev_hit hN94 rfl) rfl (fun c91 => ?_) (fun c91 => ?_)))))
         ·
          refine g_true (j := 5) (dj := 89) (b := true) rfl rfl rfl (ev_hit hN94 rfl) (op_move (ev_hit hN94 rfl) (g_false (j := 8) (dj := 92) (b := false) rfl rfl rfl (ev_hit hN94 rfl) rfl rfl (g_false (j := 8) (dj := 92) (b := false) rfl rfl rfl (ev_hit hN94 rfl) rfl rfl (g_true (j := 5) (dj := 89) (b := true) rfl rfl rfl (ev_hit hN94 rfl) (op_pick_t (ev_hit hN94 rfl) rfl ?_)))))
          refine op_pick_t (ev_hit hN94 rfl) (ev_hit hN94 rfl) ?_
          refine op_assign (ev_hit hN94 rfl) (reg_nil (hK97 _ _ (wp_ret ?_)))
          refine ret1 rfl hd94 (ev_hit hN94 rfl) ⟨_, rfl, ?_⟩
          exact ⟨hb, rfl⟩
         ·
          refine g_true (j := 5) (dj := 89) (b := true) rfl rfl rfl (ev_hit hN94 rfl) (op_move (ev_hit hN94 rfl) (g_true (j := 8) (dj := 92) (b := false) rfl rfl rfl (ev_hit hN94 rfl) (op_move (ev_hit hN94 rfl) (g_true (j := 8) (dj := 92) (b := false) rfl rfl rfl (ev_hit hN94 rfl) (op_eql (ev_hit hN94 rfl) rfl (fun c94 => ?_) (fun c94 => ?_))))))
          ·
           refine g_true (j := 5) (dj := 89) (b := true) rfl rfl rfl (ev_hit hN94 rfl) (op_pick_f (ev_hit hN94 rfl) (ev_hit hN94 rfl) ?_)
           refine op_pick_t (ev_hit hN94 rfl) (ev_hit hN94 rfl) ?_
           refine op_assign (ev_hit hN94 rfl) (reg_nil (hK97 _ _ (wp_ret ?_)))
           refine ret1 rfl hd94 (ev_hit hN94 rfl) ⟨_, rfl, ?_⟩
           exact ⟨hb, rfl⟩
          ·
           refine g_true (j := 5) (dj := 89) (b := true) rfl rfl rfl (ev_hit hN94 rfl) (op_pick_f (ev_hit hN94 rfl) (ev_hit hN94 rfl) ?_)
           refine op_pick_t (ev_hit hN94 rfl) (ev_hit hN94 rfl) ?_
           refine op_assign (ev_hit hN94 rfl) (reg_nil (hK97 _ _ (wp_ret ?_)))
           refine ret1 rfl hd94 (ev_hit hN94 rfl) ⟨_, rfl, ?_⟩
           exfalso; split at hck <;> omega
        ·
         refine op_eqb Try.underlying4 (ev_hit hN94 rfl) (ev_hit hN94 rfl) ?_
         refine op_move (ev_hit hN94 rfl) (g_false (j := 5) (dj := 89) (b := true) rfl rfl rfl (ev_hit hN94 rfl) rfl rfl (g_false (j := 5) (dj := 89) (b := true) rfl rfl rfl (ev_hit hN94 rfl) rfl rfl (g_false (j := 5) (dj := 89) (b := true) rfl rfl rfl (ev_hit hN94 rfl) rfl rfl (g_undef (j := 8) (dj := 92) (b := false) rfl rfl rfl (ev_hit hN94 rfl) rfl ?_))))
         refine g_undef (j := 8) (dj := 92) (b := false) rfl rfl rfl (ev_hit hN94 rfl) rfl ?_
         refine g_false (j := 5) (dj := 89) (b := true) rfl rfl rfl (ev_hit hN94 rfl) rfl rfl (op_pick_f (ev_hit hN94 rfl) rfl ?_)
         refine op_assign (ev_hit hN94 rfl) (reg_nil (hK97 _ _ (wp_ret ?_)))
         refine ret1 rfl hd94 (ev_hit hN94 rfl) ⟨_, rfl, ?_⟩
         exfalso; split at hck <;> omega
       ·
        refine op_move (ev_base hN94 rfl s94_10) (op_eql (ev_hit hN94 rfl) rfl (fun c87 => ?_) (fun c87 => ?_))
        ·
         refine op_eqb Try.underlying4 (ev_hit hN94 rfl) (ev_hit hN94 rfl) ?_
         refine op_move (ev_hit hN94 rfl) (g_false (j := 5) (dj := 89) (b := true) rfl rfl rfl (ev_hit hN94 rfl) rfl rfl (g_false (j := 5) (dj := 89) (b := true) rfl rfl rfl (ev_hit hN94 rfl) rfl rfl (g_false (j := 5) (dj := 89) (b := true) rfl rfl rfl (ev_hit hN94 rfl) rfl rfl (g_undef (j := 8) (dj := 92) (b := false) rfl rfl rfl (ev_hit hN94 rfl) rfl ?_))))
         refine g_undef (j := 8) (dj := 92) (b := false) rfl rfl rfl (ev_hit hN94 rfl) rfl ?_
         refine g_false (j := 5) (dj := 89) (b := true) rfl rfl rfl (ev_hit hN94 rfl) rfl rfl (op_pick_f (ev_hit hN94 rfl) rfl ?_)
         refine op_assign (ev_hit hN94 rfl) (reg_nil (hK97 _ _ (wp_ret ?_)))
         refine ret1 rfl hd94 (ev_hit hN94 rfl) ⟨_, rfl, ?_⟩
         exfalso; split at hck <;> omega
        ·
         refine op_eqb Try.underlying4 (ev_hit hN94 rfl) (ev_hit hN94 rfl) ?_
         refine op_move (ev_hit hN94 rfl) (g_true (j := 5) (dj := 89) (b := true) rfl rfl rfl (ev_hit hN94 rfl) (op_move (ev_base hN94 rfl s94_10) (g_true (j := 5) (dj := 89) (b := true) rfl rfl rfl (ev_hit hN94 rfl) (op_eql (ev_hit hN94 rfl) rfl (fun c91 => ?_) (fun c91 => ?_)))))
         ·
          refine g_true (j := 5) (dj := 89) (b := true) rfl rfl rfl (ev_hit hN94 rfl) (op_move (ev_hit hN94 rfl) (g_false (j := 8) (dj := 92) (b := false) rfl rfl rfl (ev_hit hN94 rfl) rfl rfl (g_false (j := 8) (dj := 92) (b := false) rfl rfl rfl (ev_hit hN94 rfl) rfl rfl (g_true (j := 5) (dj := 89) (b := true) rfl rfl rfl (ev_hit hN94 rfl) (op_pick_t (ev_hit hN94 rfl) rfl ?_)))))
          refine op_pick_t (ev_hit hN94 rfl) (ev_hit hN94 rfl) ?_
          refine op_assign (ev_hit hN94 rfl) (reg_nil (hK97 _ _ (wp_ret ?_)))
          refine ret1 rfl hd94 (ev_hit hN94 rfl) ⟨_, rfl, ?_⟩
          exact ⟨hb, rfl⟩
         ·
          refine g_true (j := 5) (dj := 89) (b := true) rfl rfl rfl (ev_hit hN94 rfl) (op_move (ev_hit hN94 rfl) (g_true (j := 8) (dj := 92) (b := false) rfl rfl rfl (ev_hit hN94 rfl) (op_move (ev_hit hN94 rfl) (g_true (j := 8) (dj := 92) (b := false) rfl rfl rfl (ev_hit hN94 rfl) (op_eql (ev_hit hN94 rfl) rfl (fun c94 => ?_) (fun c94 => ?_))))))
          ·
           refine g_true (j := 5) (dj := 89) (b := true) rfl rfl rfl (ev_hit hN94 rfl) (op_pick_f (ev_hit hN94 rfl) (ev_hit hN94 rfl) ?_)
           refine op_pick_t (ev_hit hN94 rfl) (ev_hit hN94 rfl) ?_
           refine op_assign (ev_hit hN94 rfl) (reg_nil (hK97 _ _ (wp_ret ?_)))
           refine ret1 rfl hd94 (ev_hit hN94 rfl) ⟨_, rfl, ?_⟩
           exact ⟨hb, rfl⟩
          ·
           refine g_true (j := 5) (dj := 89) (b := true) rfl rfl rfl (ev_hit hN94 rfl) (op_pick_f (ev_hit hN94 rfl) (ev_hit hN94 rfl) ?_)
           refine op_pick_t (ev_hit hN94 rfl) (ev_hit hN94 rfl) ?_
           refine op_assign (ev_hit hN94 rfl) (reg_nil (hK97 _ _ (wp_ret ?_)))
           refine ret1 rfl hd94 (ev_hit hN94 rfl) ⟨_, rfl, ?_⟩
           exfalso; split at hck <;> omega
     ·
      refine op_assign (ev_hit hN38 rfl) ?_
      refine reg_nil (hK78 _ _ (wp_cond_false (ev_hit hN38 rfl) (one_reg (op_move (ev_base hN38 rfl s38_8) (op_move (ev_base hN38 rfl s38_7) (op_fn (vs := [(Value.string (bs t9)), (Value.string (bs n9))]) ok25 ⟨(ev_hit hN38 rfl), ⟨(ev_hit hN38 rfl), trivial⟩⟩ (col_ret t9 n9 _) ?_))))))
      rintro _ w98 ⟨E99, rfl⟩
      have E99 := grown_of_below E99
      have z_w98 := E99.size
      have hB49 := hB49.keep0 E99
      have hB53 := hB53.keep0 E99
      have hb := below_step0 hb E99 hb.size
      refine op_move (ev_base hN38 rfl s38_8) (op_move (ev_base hN38 rfl s38_7) (op_fn (vs := [(Value.string (bs t9)), (Value.string (bs n9))]) ok25 ⟨(ev_hit hN38 rfl), ⟨(ev_hit hN38 rfl), trivial⟩⟩ (col_ret t9 n9 _) ?_))
      rintro _ w100 ⟨E101, rfl⟩
      have E101 := grown_of_below E101
      have z_w100 := E101.size
      have hB49 := hB49.keep0 E101
      have hB53 := hB53.keep0 E101
      have hb := below_step0 hb E101 hb.size
      refine op_bslice (e := 28) (pv := [(0, (Value.agg #[(Value.int .i64 2), (Value.int .i64 0), (Value.int .i64 0), (Value.string (bs [])), (Value.string (bs t9)), (Value.string (bs n9)), (Value.slice none 0 0)])), (1, (Value.agg #[(Value.int .i64 2), (Value.int .i64 0), (Value.int .i64 0), (Value.string (bs [])), (Value.string (bs t9)), (Value.string (bs n9)), (Value.slice none 0 0)]))]) (cs := [(Value.int .i64 2), (Value.int .i64 0), (Value.int .i64 0), (Value.string (bs [])), (Value.string (bs t9)), (Value.string (bs n9)), (Value.slice none 0 0), (Value.int .i64 2), (Value.int .i64 0), (Value.int .i64 0), (Value.string (bs [])), (Value.string (bs t9)), (Value.string (bs n9)), (Value.slice none 0 0)]) ⟨rfl, (ev_hit hN38 rfl), ⟨rfl, (ev_hit hN38 rfl), trivial⟩⟩ (by kernel_rfl) ?_
      intro w102 b103 lo_b103 hi_b103 hB105 E104
      have z_w102 := E104.size
      have hB49 := hB49.keep0 E104
      have hB53 := hB53.keep0 E104
      have hb := below_step0 hb E104 hb.size
      refine op_build (pv := [(0, (Value.int .i64 8)), (4, (Value.slice (some ⟨b103, 0, none⟩) 2 2))]) (v := (Value.agg #[(Value.int .i64 8), (Value.int .i64 0), (Value.int .i64 0), (Value.string (bs [])), (Value.string (bs [])), (Value.string (bs [])), (Value.slice (some ⟨b103, 0, none⟩) 2 2)])) ⟨rfl, rfl, ⟨rfl, (ev_hit hN38 rfl), trivial⟩⟩ (by kernel_rfl) ?_
      refine op_bslice (e := 28) (pv := [(0, (Value.agg #[(Value.int .i64 8), (Value.int .i64 0), (Value.int .i64 0), (Value.string (bs [])), (Value.string (bs [])), (Value.string (bs [])), (Value.slice (some ⟨b103, 0, none⟩) 2 2)]))]) (cs := [(Value.int .i64 8), (Value.int .i64 0), (Value.int .i64 0), (Value.string (bs [])), (Value.string (bs [])), (Value.string (bs [])), (Value.slice (some ⟨b103, 0, none⟩) 2 2)]) ⟨rfl, (ev_hit hN38 rfl), trivial⟩ (by kernel_rfl) ?_
      intro w106 b107 lo_b107 hi_b107 hB109 E108
      have z_w106 := E108.size
      have hB49 := hB49.keep0 E108
      have hB53 := hB53.keep0 E108
      have hB105 := hB105.keep0 E108
      have hb := below_step0 hb E108 hb.size
      refine op_field fld45_9 (ev_hit hN38 rfl) ?_
      have hB53_old := hB53
      refine op_store (vs := [(Value.slice (some ⟨b107, 0, none⟩) 1 1)]) (cs' := [(Value.int .i64 6), (Value.string (bs [116])), (Value.string (bs [])), (Value.slice none 0 0), (Value.slice none 0 0), (Value.slice none 0 0), (Value.slice none 0 0), (Value.string (bs [117])), (Value.slice (some ⟨b47, 0, none⟩) 2 2), (Value.slice (some ⟨b107, 0, none⟩) 1 1), (Value.slice none 0 0), (Value.bool false), (Value.slice none 0 0)]) size26 (ev_hit hN38 rfl) (ev_hit hN38 rfl) rfl rfl rfl hB53 (Nat.le_of_ble_eq_true rfl) rfl ?_
      intro w112 hB53 E113
      have z_w112 := E113.size
      have hB49 := hB49.keep E113 (fun hh => hB49.ne hB53_old (by decide) (Option.some.inj hh))
      have hB105 := hB105.keep E113 (fun hh => hB105.ne hB53_old (by decide) (Option.some.inj hh))
      have hB109 := hB109.keep E113 (fun hh => hB109.ne hB53_old (by decide) (Option.some.inj hh))
      have hb := below_step1 hb E113 hb.size (by omega)
      refine reg_nil (hK58 _ _ (seq_any fun K114 hK114 => reg_split (hd := [_, _]) (tl := _) 2 mixed (by kernel_rfl) rfl rfl ?_))
      refine any_env (φ := phiV [(fun _ => True), (fun uz => uz = (Value.agg #[(Value.int .i64 6), (Value.string (bs [116])), (Value.string (bs [])), (Value.slice none 0 0), (Value.slice none 0 0), (Value.slice none 0 0), (Value.slice none 0 0), (Value.string (bs [117])), (Value.slice (some ⟨b47, 0, none⟩) 2 2), (Value.slice (some ⟨b107, 0, none⟩) 1 1), (Value.slice none 0 0), (Value.bool false), (Value.slice none 0 0)]))]) (G := fun w' => Bx w' b51 45 [(Value.int .i64 6), (Value.string (bs [116])), (Value.string (bs [])), (Value.slice none 0 0), (Value.slice none 0 0), (Value.slice none 0 0), (Value.slice none 0 0), (Value.string (bs [117])), (Value.slice (some ⟨b47, 0, none⟩) 2 2), (Value.slice (some ⟨b107, 0, none⟩) 1 1), (Value.slice none 0 0), (Value.bool false), (Value.slice none 0 0)]) [0] (by kernel_rfl) (by kernel_rfl) (by kernel_rfl) (by kernel_rfl) hN38 (fun w1 w2 E h => h.keep0 E) hB53 (ObEs.pass rfl (ObEs.cons ?_ (ObEs.nil))) (by simp only [putsL_defers]) ?_
      ·
       intro eA aA wA hNA hGA hbsA hdpA
       have qA_11 := (hbsA 11 rfl).trans (sl_hit hN38 rfl)
       refine op_loadA (cs := [(Value.int .i64 6), (Value.string (bs [116])), (Value.string (bs [])), (Value.slice none 0 0), (Value.slice none 0 0), (Value.slice none 0 0), (Value.slice none 0 0), (Value.string (bs [117])), (Value.slice (some ⟨b47, 0, none⟩) 2 2), (Value.slice (some ⟨b107, 0, none⟩) 1 1), (Value.slice none 0 0), (Value.bool false), (Value.slice none 0 0)]) agg45 rfl (ev_base hNA rfl qA_11) (fun j u hu => by rw [Nat.zero_add]; exact hGA.cell hu) ?_
       exact obE_end rfl rfl rfl
      ·
       intro w115 E115 _ a115 hN115 hbs115 hdp115 o_ ho_; obtain rfl := Option.some.inj ho_
       have z_w115 := E115.size
       have hB49 := hB49.keep0 E115
       have hB105 := hB105.keep0 E115
       have hB109 := hB109.keep0 E115
       have hB53 := hB53.keep0 E115
       have hb := below_step0 hb E115 hb.size
       refine op_fn (vs := []) ok16 trivial (Schema_ret _) ?_
       rintro _ w117 ⟨E118, tv116, D116, rfl, hM116, hT116⟩
       have E118 := grown_of_below E118
       have z_w117 := E118.size
       have hB49 := hB49.keep0 E118
       have hB105 := hB105.keep0 E118
       have hB109 := hB109.keep0 E118
       have hB53 := hB53.keep0 E118
       have hb := below_step0 hb E118 hb.size
       have hR116 := hT116.1
       have hz116 := sch_sz hM116
       refine ke_end rfl (by decide) rfl hB53 ?_
       intro w119 E119 a119 hN119 hd119 hbs119 hph119
       have hd119 := hd119.trans ((by simp only [putsL_defers] : _ = _).trans hd38)
       have z_w119 := E119.size
       have hB49 := hB49.keep0 E119
       have hB105 := hB105.keep0 E119
       have hB109 := hB109.keep0 E119
       have hT116 := hT116.keep0 E119
       have hb := below_step0 hb E119 hb.size
       have s119_10 := (hbs119 10 rfl).trans (sl_base hN38 rfl s38_10)
       have s119_81 : Sl a119 81 (Value.agg #[tv116, (Value.slice none 0 0)]) := (Option.some.inj ((hph119 0 _ 81 rfl rfl).1 0 rfl)).symm
       have s119_82 : Sl a119 82 (Value.agg #[(Value.int .i64 6), (Value.string (bs [116])), (Value.string (bs [])), (Value.slice none 0 0), (Value.slice none 0 0), (Value.slice none 0 0), (Value.slice none 0 0), (Value.string (bs [117])), (Value.slice (some ⟨b47, 0, none⟩) 2 2), (Value.slice (some ⟨b107, 0, none⟩) 1 1), (Value.slice none 0 0), (Value.bool false), (Value.slice none 0 0)]) := (hph119 1 _ 82 rfl rfl).2 rfl
       refine split_end ?_
       refine from_seq (tl := [_, _]) (by decide) (by kernel_rfl) rfl ?_
       refine op_fn (vs := [(Value.agg #[tv116, (Value.slice none 0 0)]), (Value.agg #[(Value.int .i64 6), (Value.string (bs [116])), (Value.string (bs [])), (Value.slice none 0 0), (Value.slice none 0 0), (Value.slice none 0 0), (Value.slice none 0 0), (Value.string (bs [117])), (Value.slice (some ⟨b47, 0, none⟩) 2 2), (Value.slice (some ⟨b107, 0, none⟩) 1 1), (Value.slice none 0 0), (Value.bool false), (Value.slice none 0 0)])]) ok19 ⟨(ev_base hN119 rfl s119_81), ⟨(ev_base hN119 rfl s119_82), trivial⟩⟩ (checkM hM116 (XS.mk (StF.mk 6 ([116]) [] (Value.slice none 0 0) [] (Value.slice none 0 0) [] (Value.slice none 0 0) [] (Value.slice none 0 0) [] ([117]) (Value.slice (some ⟨b47, 0, none⟩) 2 2) ([(XE.mk 2 0 0 [] ([116]) ([107]) (Value.slice none 0 0) []), (XE.mk 2 0 0 [] ([117]) ([114]) (Value.slice none 0 0) [])]) (Value.slice (some ⟨b107, 0, none⟩) 1 1) ([(XE.mk 8 0 0 [] [] [] (Value.slice (some ⟨b103, 0, none⟩) 2 2) [(XE.mk 2 0 0 [] t9 n9 (Value.slice none 0 0) []), (XE.mk 2 0 0 [] t9 n9 (Value.slice none 0 0) [])])]) (Value.slice none 0 0) [] false) (Value.slice none 0 0) []) (hT116.mono (by omega)) hz116.1 hz116.2 (SRd.mk (s := (XS.mk (StF.mk 6 ([116]) [] (Value.slice none 0 0) [] (Value.slice none 0 0) [] (Value.slice none 0 0) [] (Value.slice none 0 0) [] ([117]) (Value.slice (some ⟨b47, 0, none⟩) 2 2) ([(XE.mk 2 0 0 [] ([116]) ([107]) (Value.slice none 0 0) []), (XE.mk 2 0 0 [] ([117]) ([114]) (Value.slice none 0 0) [])]) (Value.slice (some ⟨b107, 0, none⟩) 1 1) ([(XE.mk 8 0 0 [] [] [] (Value.slice (some ⟨b103, 0, none⟩) 2 2) [(XE.mk 2 0 0 [] t9 n9 (Value.slice none 0 0) []), (XE.mk 2 0 0 [] t9 n9 (Value.slice none 0 0) [])])]) (Value.slice none 0 0) [] false) (Value.slice none 0 0) [])) ⟨(RdC.nil _ _ _ _), (RdC.nil _ _ _ _), (XsRd.nil _ _), (RdC.nil _ _ _ _), (XsRd.lit2 (e := (XE.mk 2 0 0 [] ([116]) ([107]) (Value.slice none 0 0) [])) (e2 := (XE.mk 2 0 0 [] ([117]) ([114]) (Value.slice none 0 0) [])) hB49 (by omega) (XRd.bare rfl rfl) (XRd.bare rfl rfl)), (XsRd.lit1 (e := (XE.mk 8 0 0 [] [] [] (Value.slice (some ⟨b103, 0, none⟩) 2 2) [(XE.mk 2 0 0 [] t9 n9 (Value.slice none 0 0) []), (XE.mk 2 0 0 [] t9 n9 (Value.slice none 0 0) [])])) hB109 (by omega) (XsRd.node (e := (XE.mk 8 0 0 [] [] [] (Value.slice (some ⟨b103, 0, none⟩) 2 2) [(XE.mk 2 0 0 [] t9 n9 (Value.slice none 0 0) []), (XE.mk 2 0 0 [] t9 n9 (Value.slice none 0 0) [])])) (XsRd.lit2 (e := (XE.mk 2 0 0 [] t9 n9 (Value.slice none 0 0) [])) (e2 := (XE.mk 2 0 0 [] t9 n9 (Value.slice none 0 0) [])) hB105 (by omega) (XRd.bare rfl rfl) (XRd.bare rfl rfl)))), (XsRd.nil _ _)⟩ (RdC.nil _ _ _ _) (fun _ h => (by cases h)))) ?_
       rintro _ w120 ⟨E121, rfl⟩
       have E121 := grown_of_below E121
       have z_w120 := E121.size
       have hb := below_step0 hb E121 hb.size
       refine op_assign (ev_hit hN119 rfl) (reg_nil (hK114 _ _ (seq_any fun K122 hK122 => one_reg ?_)))
       have hck : checkE schT [] (XS.mk (StF.mk 6 ([116]) [] (Value.slice none 0 0) [] (Value.slice none 0 0) [] (Value.slice none 0 0) [] (Value.slice none 0 0) [] ([117]) (Value.slice (some ⟨b47, 0, none⟩) 2 2) ([(XE.mk 2 0 0 [] ([116]) ([107]) (Value.slice none 0 0) []), (XE.mk 2 0 0 [] ([117]) ([114]) (Value.slice none 0 0) [])]) (Value.slice (some ⟨b107, 0, none⟩) 1 1) ([(XE.mk 8 0 0 [] [] [] (Value.slice (some ⟨b103, 0, none⟩) 2 2) [(XE.mk 2 0 0 [] t9 n9 (Value.slice none 0 0) []), (XE.mk 2 0 0 [] t9 n9 (Value.slice none 0 0) [])])]) (Value.slice none 0 0) [] false) (Value.slice none 0 0) []) = wantN n9 t9 := names_2 hn9 ht9
       unfold wantN at hck; rw [← hs9] at hck
       refine op_move (ev_hit hN119 rfl) (op_eql (ev_hit hN119 rfl) rfl (fun c85 => ?_) (fun c85 => ?_))
       ·
        refine op_move (ev_base hN119 rfl s119_10) (op_eql (ev_hit hN119 rfl) rfl (fun c87 => ?_) (fun c87 => ?_))
        ·
         refine op_eqb Try.underlying4 (ev_hit hN119 rfl) (ev_hit hN119 rfl) ?_
         refine op_move (ev_hit hN119 rfl) (g_true (j := 5) (dj := 89) (b := true) rfl rfl rfl (ev_hit hN119 rfl) (op_move (ev_base hN119 rfl s119_10) (g_true (j := 5) (dj := 89) (b := true) rfl rfl rfl (ev_hit hN119 rfl) (op_eql (ev_hit hN119 rfl) rfl (fun c91 => ?_) (fun c91 => ?_)))))
         ·
          refine g_true (j := 5) (dj := 89) (b := true) rfl rfl rfl (ev_hit hN119 rfl) (op_move (ev_hit hN119 rfl) (g_false (j := 8) (dj := 92) (b := false) rfl rfl rfl (ev_hit hN119 rfl) rfl rfl (g_false (j := 8) (dj := 92) (b := false) rfl rfl rfl (ev_hit hN119 rfl) rfl rfl (g_true (j := 5) (dj := 89) (b := true) rfl rfl rfl (ev_hit hN119 rfl) (op_pick_t (ev_hit hN119 rfl) rfl ?_)))))
          refine op_pick_t (ev_hit hN119 rfl) (ev_hit hN119 rfl) ?_
          refine op_assign (ev_hit hN119 rfl) (reg_nil (hK122 _ _ (wp_ret ?_)))
          refine ret1 rfl hd119 (ev_hit hN119 rfl) ⟨_, rfl, ?_⟩
          exact ⟨hb, rfl⟩
         ·
          refine g_true (j := 5) (dj := 89) (b := true) rfl rfl rfl (ev_hit hN119 rfl) (op_move (ev_hit hN119 rfl) (g_true (j := 8) (dj := 92) (b := false) rfl rfl rfl (ev_hit hN119 rfl) (op_move (ev_hit hN119 rfl) (g_true (j := 8) (dj := 92) (b := false) rfl rfl rfl (ev_hit hN119 rfl) (op_eql (ev_hit hN119 rfl) rfl (fun c94 => ?_) (fun c94 => ?_))))))
          ·
           refine g_true (j := 5) (dj := 89) (b := true) rfl rfl rfl (ev_hit hN119 rfl) (op_pick_f (ev_hit hN119 rfl) (ev_hit hN119 rfl) ?_)
           refine op_pick_t (ev_hit hN119 rfl) (ev_hit hN119 rfl) ?_
           refine op_assign (ev_hit hN119 rfl) (reg_nil (hK122 _ _ (wp_ret ?_)))
           refine ret1 rfl hd119 (ev_hit hN119 rfl) ⟨_, rfl, ?_⟩
           exact ⟨hb, rfl⟩
          ·
           refine g_true (j := 5) (dj := 89) (b := true) rfl rfl rfl (ev_hit hN119 rfl) (op_pick_f (ev_hit hN119 rfl) (ev_hit hN119 rfl) ?_)
           refine op_pick_t (ev_hit hN119 rfl) (ev_hit hN119 rfl) ?_
           refine op_assign (ev_hit hN119 rfl) (reg_nil (hK122 _ _ (wp_ret ?_)))
           refine ret1 rfl hd119 (ev_hit hN119 rfl) ⟨_, rfl, ?_⟩
           exfalso; split at hck <;> omega
        ·
         refine op_eqb Try.underlying4 (ev_hit hN119 rfl) (ev_hit hN119 rfl) ?_
         refine op_move (ev_hit hN119 rfl) (g_false (j := 5) (dj := 89) (b := true) rfl rfl rfl (ev_hit hN119 rfl) rfl rfl (g_false (j := 5) (dj := 89) (b := true) rfl rfl rfl (ev_hit hN119 rfl) rfl rfl (g_false (j := 5) (dj := 89) (b := true) rfl rfl rfl (ev_hit hN119 rfl) rfl rfl (g_undef (j := 8) (dj := 92) (b := false) rfl rfl rfl (ev_hit hN119 rfl) rfl ?_))))
         refine g_undef (j := 8) (dj := 92) (b := false) rfl rfl rfl (ev_hit hN119 rfl) rfl ?_
         refine g_false (j := 5) (dj := 89) (b := true) rfl rfl rfl (ev_hit hN119 rfl) rfl rfl (op_pick_f (ev_hit hN119 rfl) rfl ?_)
         refine op_assign (ev_hit hN119 rfl) (reg_nil (hK122 _ _ (wp_ret ?_)))
         refine ret1 rfl hd119 (ev_hit hN119 rfl) ⟨_, rfl, ?_⟩
         exfalso; split at hck <;> omega
       ·
        refine op_move (ev_base hN119 rfl s119_10) (op_eql (ev_hit hN119 rfl) rfl (fun c87 => ?_) (fun c87 => ?_))
        ·
         refine op_eqb Try.underlying4 (ev_hit hN119 rfl) (ev_hit hN119 rfl) ?_
         refine op_move (ev_hit hN119 rfl) (g_false (j := 5) (dj := 89) (b := true) rfl rfl rfl (ev_hit hN119 rfl) rfl rfl (g_false (j := 5) (dj := 89) (b := true) rfl rfl rfl (ev_hit hN119 rfl) rfl rfl (g_false (j := 5) (dj := 89) (b := true) rfl rfl rfl (ev_hit hN119 rfl) rfl rfl (g_undef (j := 8) (dj := 92) (b := false) rfl rfl rfl (ev_hit hN119 rfl) rfl ?_))))
         refine g_undef (j := 8) (dj := 92) (b := false) rfl rfl rfl (ev_hit hN119 rfl) rfl ?_
         refine g_false (j := 5) (dj := 89) (b := true) rfl rfl rfl (ev_hit hN119 rfl) rfl rfl (op_pick_f (ev_hit hN119 rfl) rfl ?_)
         refine op_assign (ev_hit hN119 rfl) (reg_nil (hK122 _ _ (wp_ret ?_)))
         refine ret1 rfl hd119 (ev_hit hN119 rfl) ⟨_, rfl, ?_⟩
         exfalso; split at hck <;> omega
        ·
         refine op_eqb Try.underlying4 (ev_hit hN119 rfl) (ev_hit hN119 rfl) ?_
         refine op_move (ev_hit hN119 rfl) (g_true (j := 5) (dj := 89) (b := true) rfl rfl rfl (ev_hit hN119 rfl) (op_move (ev_base hN119 rfl s119_10) (g_true (j := 5) (dj := 89) (b := true) rfl rfl rfl (ev_hit hN119 rfl) (op_eql (ev_hit hN119 rfl) rfl (fun c91 => ?_) (fun c91 => ?_)))))
         ·
          refine g_true (j := 5) (dj := 89) (b := true) rfl rfl rfl (ev_hit hN119 rfl) (op_move (ev_hit hN119 rfl) (g_false (j := 8) (dj := 92) (b := false) rfl rfl rfl (ev_hit hN119 rfl) rfl rfl (g_false (j := 8) (dj := 92) (b := false) rfl rfl rfl (ev_hit hN119 rfl) rfl rfl (g_true (j := 5) (dj := 89) (b := true) rfl rfl rfl (ev_hit hN119 rfl) (op_pick_t (ev_hit hN119 rfl) rfl ?_)))))
          refine op_pick_t (ev_hit hN119 rfl) (ev_hit hN119 rfl) ?_
          refine op_assign (ev_hit hN119 rfl) (reg_nil (hK122 _ _ (wp_ret ?_)))
          refine ret1 rfl hd119 (ev_hit hN119 rfl) ⟨_, rfl, ?_⟩
          exact ⟨hb, rfl⟩
         ·
          refine g_true (j := 5) (dj := 89) (b := true) rfl rfl rfl (ev_hit hN119 rfl) (op_move (ev_hit hN119 rfl) (g_true (j := 8) (dj := 92) (b := false) rfl rfl rfl (ev_hit hN119 rfl) (op_move (ev_hit hN119 rfl) (g_true (j := 8) (dj := 92) (b := false) rfl rfl rfl (ev_hit hN119 rfl) (op_eql (ev_hit hN119 rfl) rfl (fun c94 => ?_) (fun c94 => ?_))))))
          ·
           refine g_true (j := 5) (dj := 89) (b := true) rfl rfl rfl (ev_hit hN119 rfl) (op_pick_f (ev_hit hN119 rfl) (ev_hit hN119 rfl) ?_)
           refine op_pick_t (ev_hit hN119 rfl) (ev_hit hN119 rfl) ?_
           refine op_assign (ev_hit hN119 rfl) (reg_nil (hK122 _ _ (wp_ret ?_)))
           refine ret1 rfl hd119 (ev_hit hN119 rfl) ⟨_, rfl, ?_⟩
           exact ⟨hb, rfl⟩
          ·
           refine g_true (j := 5) (dj := 89) (b := true) rfl rfl rfl (ev_hit hN119 rfl) (op_pick_f (ev_hit hN119 rfl) (ev_hit hN119 rfl) ?_)
           refine op_pick_t (ev_hit hN119 rfl) (ev_hit hN119 rfl) ?_
           refine op_assign (ev_hit hN119 rfl) (reg_nil (hK122 _ _ (wp_ret ?_)))
           refine ret1 rfl hd119 (ev_hit hN119 rfl) ⟨_, rfl, ?_⟩
           exfalso; split at hck <;> omega

end Go.Proofs.Ythflnkfghogaoaa

namespace Go.Gx
open Go.RowKit Go.WideShapes
section
variable {H : Type} {enc : TypeId × Value → H} {P : Program} {w : World} {base : Nat} {spare : Nat → Bool} {held : Bool} {t e : TypeId}
end
end Go.Gx

namespace Go.Proofs.Ythflnkfghogaoaa
open Go.Gx Go.RowKit
end Go.Proofs.Ythflnkfghogaoaa
