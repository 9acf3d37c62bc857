/- Walks, written by a program: what each function of the translation hands back. -/
import Derived.Lib.Bytealg
import Derived.Lib.UnsafeStr
import Derived.Test.YthflnkfghogaoaaB3
set_option linter.unusedVariables false
set_option linter.unusedSimpArgs false

namespace Go.Proofs.Ythflnkfghogaoaa
open Go.Gx Go.RowKit
attribute [local irreducible] wpList wpStill Code.wp Calls

theorem lists_ret {f : StF} {nv : Value} {inner : List XS} {B : Nat} {w : World} (hfv : XsRd w B f.vv f.vals) (hfo : XsRd w B f.ov f.on) (hfw : XsRd w B f.wv f.wh) (hfr : XsRd w B f.rv f.ord) (hfn : RdC w 0 B 13 nv inner.length (inner.flatMap cellsS)) (hB : B ≤ w.heap.size) : Ret Try.prog 41 #[(.agg #[(.int .i64 f.kind), (.string (bs f.tb)), (.string (bs f.nm)), f.cv, f.gv, f.vv, f.iv, (.string (bs f.join)), f.ov, f.wv, f.rv, (.bool f.desc), nv])] w (fun v' w' => Below w.heap.size w w' ∧ v' = .bool (listsOk f inner.length)) := by
 have hfvR := hfv.1
 have hfoR := hfo.1
 have hfwR := hfw.1
 have hfrR := hfr.1
 have hb := Below.refl w.heap.size w
 refine enter (N := 67) Try.func41 rfl rfl (by simp) fun a0 hN hd hA => ?_
 have s0 : a0.tmps.getD 0 undef = (.agg #[(.int .i64 f.kind), (.string (bs f.tb)), (.string (bs f.nm)), f.cv, f.gv, f.vv, f.iv, (.string (bs f.join)), f.ov, f.wv, f.rv, (.bool f.desc), nv]) := hA 0 (by simp)
 clear hA
 refine zF fun K1 hK1 => ?_
 refine zH ?_
 refine op_box (cs := [(.int .i64 f.kind), (.string (bs f.tb)), (.string (bs f.nm)), f.cv, f.gv, f.vv, f.iv, (.string (bs f.join)), f.ov, f.wv, f.rv, (.bool f.desc), nv]) (zC hN rfl s0) rfl ?_
 intro w2 b3 lo_b3 hi_b3 hB5 E4
 have := E4.size
 have hfv := hfv.keep0 E4
 have hfvR := hfvR.keep0 E4
 have hfo := hfo.keep0 E4
 have hfoR := hfoR.keep0 E4
 have hfw := hfw.keep0 E4
 have hfwR := hfwR.keep0 E4
 have hfr := hfr.keep0 E4
 have hfrR := hfrR.keep0 E4
 have hfn := hfn.keep0 E4
 have hb := zP hb E4 hb.size
 refine zD rfl ?_
 refine zB ?_
 refine hK1 _ _ (seq_join1 (N := 67) (fun az_ w' => ∃ (q3 : Bool), (az_.tmps.getD 1 undef = (ptr b3 0)) ∧ (az_.tmps.getD 2 undef = (.bool false)) ∧ (az_.tmps.getD 3 undef = (.bool q3)) ∧ (q3 = decide (f.wh.length ≤ 1)) ∧ (Below w.heap.size w w') ∧ (w2.heap.size ≤ w'.heap.size) ∧ (XsRd w' B f.vv f.vals) ∧ (RdC w' 0 B 7 f.vv f.vals.length (f.vals.flatMap cellsX)) ∧ (XsRd w' B f.ov f.on) ∧ (RdC w' 0 B 7 f.ov f.on.length (f.on.flatMap cellsX)) ∧ (XsRd w' B f.wv f.wh) ∧ (RdC w' 0 B 7 f.wv f.wh.length (f.wh.flatMap cellsX)) ∧ (XsRd w' B f.rv f.ord) ∧ (RdC w' 0 B 7 f.rv f.ord.length (f.ord.flatMap cellsX)) ∧ (RdC w' 0 B 13 nv inner.length (inner.flatMap cellsS)) ∧ (Bx w' b3 45 [(.int .i64 f.kind), (.string (bs f.tb)), (.string (bs f.nm)), f.cv, f.gv, f.vv, f.iv, (.string (bs f.join)), f.ov, f.wv, f.rv, (.bool f.desc), nv])) (fun hJ6 => ?_) ?_)
 ·
  refine zF fun K7 hK7 => ?_
  refine zH ?_
  refine zM fld45_9 (zA hN rfl) ?_
  refine zN (v := f.wv) one26 (zA hN rfl) (hB5.cell rfl) ?_
  refine op_len_rd Try.underlying26 (zA hN rfl) hfwR ?_
  refine op_leq (zA hN rfl) rfl (fun c8 => ?_) (fun c8 => ?_)
  ·
   refine zD (zA hN rfl) ?_
   refine zB ?_
   refine hK7 _ _ ?_
   exact hJ6 _ _ _ hN hd ⟨true, (zU hN rfl), (zU hN rfl), (zU hN rfl), (decide_eq_true zx).symm, hb, zx, hfv, hfvR, hfo, hfoR, hfw, hfwR, hfr, hfrR, hfn, hB5⟩
  refine zD (zA hN rfl) ?_
  refine zB ?_
  refine hK7 _ _ ?_
  exact hJ6 _ _ _ hN hd ⟨false, (zU hN rfl), (zU hN rfl), (zU hN rfl), (decide_eq_false zx).symm, hb, zx, hfv, hfvR, hfo, hfoR, hfw, hfwR, hfr, hfrR, hfn, hB5⟩
 rintro a6 w6 hN6 hd6 ⟨q3, s6_1, s6_2, s6_3, hb3, hb, zl_w6, hfv, hfvR, hfo, hfoR, hfw, hfwR, hfr, hfrR, hfn, hB5⟩
 have := hb.size
 refine zF fun K8 hK8 => ?_
 refine zF fun K9 hK9 => ?_
 refine zH ?_
 refine zM fld45_0 (zC hN6 rfl s6_1) ?_
 refine zN (v := (Value.int .i64 f.kind)) one3 (zA hN6 rfl) (hB5.cell rfl) ?_
 refine zB ?_
 refine hK9 _ _ (wp_block ?_)
 refine zF fun K10 hK10 => ?_
 refine zH ?_
 refine op_eql (zA hN6 rfl) rfl (fun c12 => ?_) (fun c12 => ?_)
 ·
  refine zD (zA hN6 rfl) ?_
  refine zB ?_
  refine hK10 _ _ (wp_cond_true (zA hN6 rfl) (zF fun K11 hK11 => ?_))
  refine zH ?_
  refine zD rfl ?_
  refine zB ?_
  refine hK11 _ _ (seq_join1 (N := 67) (fun az_ w' => ∃ (on9 : Nat), (az_.tmps.getD 1 undef = (ptr b3 0)) ∧ (az_.tmps.getD 2 undef = (.bool false)) ∧ (az_.tmps.getD 3 undef = (.bool q3)) ∧ (az_.tmps.getD 4 undef = (.int .i64 ((on9 : Nat) : Int))) ∧ (on9 = if f.join = [] then 0 else 2) ∧ (Below w.heap.size w w') ∧ (w6.heap.size ≤ w'.heap.size) ∧ (XsRd w' B f.vv f.vals) ∧ (RdC w' 0 B 7 f.vv f.vals.length (f.vals.flatMap cellsX)) ∧ (XsRd w' B f.ov f.on) ∧ (RdC w' 0 B 7 f.ov f.on.length (f.on.flatMap cellsX)) ∧ (XsRd w' B f.wv f.wh) ∧ (RdC w' 0 B 7 f.wv f.wh.length (f.wh.flatMap cellsX)) ∧ (XsRd w' B f.rv f.ord) ∧ (RdC w' 0 B 7 f.rv f.ord.length (f.ord.flatMap cellsX)) ∧ (RdC w' 0 B 13 nv inner.length (inner.flatMap cellsS)) ∧ (Bx w' b3 45 [(.int .i64 f.kind), (.string (bs f.tb)), (.string (bs f.nm)), f.cv, f.gv, f.vv, f.iv, (.string (bs f.join)), f.ov, f.wv, f.rv, (.bool f.desc), nv])) (fun hJ12 => ?_) ?_)
  ·
   refine zF fun K13 hK13 => ?_
   refine zF fun K14 hK14 => ?_
   refine zH ?_
   refine zM fld45_7 (zC hN6 rfl s6_1) ?_
   refine zN (v := (Value.string (bs f.join))) one9 (zA hN6 rfl) (hB5.cell rfl) ?_
   refine op_sneq (zA hN6 rfl) rfl (fun c15 => ?_) (fun c15 => ?_)
   ·
    refine zB ?_
    refine hK14 _ _ (wp_cond_true (zA hN6 rfl) (zH ?_))
    refine zD rfl ?_
    refine zB ?_
    refine hK13 _ _ ?_
    exact hJ12 _ _ _ hN6 hd6 ⟨2, (zL hN6 rfl s6_1), (zL hN6 rfl s6_2), (zL hN6 rfl s6_3), (zU hN6 rfl).trans rfl, (if_neg c15).symm, hb, zx, hfv, hfvR, hfo, hfoR, hfw, hfwR, hfr, hfrR, hfn, hB5⟩
   refine zB ?_
   refine hK14 _ _ (wp_cond_false (zA hN6 rfl) (wp_skip (hK13 _ _ ?_)))
   exact hJ12 _ _ _ hN6 hd6 ⟨0, (zL hN6 rfl s6_1), (zL hN6 rfl s6_2), (zL hN6 rfl s6_3), (zU hN6 rfl).trans rfl, (if_pos c15).symm, hb, zx, hfv, hfvR, hfo, hfoR, hfw, hfwR, hfr, hfrR, hfn, hB5⟩
  rintro a12 w12 hN12 hd12 ⟨on9, s12_1, s12_2, s12_3, s12_4, hon9, hb, zl_w12, hfv, hfvR, hfo, hfoR, hfw, hfwR, hfr, hfrR, hfn, hB5⟩
  have := hb.size
  refine zF fun K15 hK15 => ?_
  refine zH ?_
  refine zG (zC hN12 rfl s12_3) ?_
  refine zG (zA hN12 rfl) ?_
  rcases Bool.eq_false_or_eq_true (q3) with g17 | g17
  ·
   rw [g17]
   refine zS (j := 1) (dj := 17) (b := true) rfl rfl rfl (zA hN12 rfl) ?_
   refine zM fld45_10 (zC hN12 rfl s12_1) ?_
   refine zS (j := 1) (dj := 17) (b := true) rfl rfl rfl (zA hN12 rfl) ?_
   refine zN (v := f.rv) one26 (zA hN12 rfl) (hB5.cell rfl) ?_
   refine zS (j := 1) (dj := 17) (b := true) rfl rfl rfl (zA hN12 rfl) ?_
   refine op_len_rd Try.underlying26 (zA hN12 rfl) hfrR ?_
   refine zS (j := 1) (dj := 17) (b := true) rfl rfl rfl (zA hN12 rfl) ?_
   refine op_leq (zA hN12 rfl) rfl (fun c21 => ?_) (fun c21 => ?_)
   ·
    refine zc (zA hN12 rfl) (zA hN12 rfl) ?_
    refine zG (zA hN12 rfl) ?_
    refine zS (j := 7) (dj := 23) (b := true) rfl rfl rfl (zA hN12 rfl) ?_
    refine zM fld45_8 (zC hN12 rfl s12_1) ?_
    refine zS (j := 7) (dj := 23) (b := true) rfl rfl rfl (zA hN12 rfl) ?_
    refine zN (v := f.ov) one26 (zA hN12 rfl) (hB5.cell rfl) ?_
    refine zS (j := 7) (dj := 23) (b := true) rfl rfl rfl (zA hN12 rfl) ?_
    refine op_len_rd Try.underlying26 (zA hN12 rfl) hfoR ?_
    refine zS (j := 7) (dj := 23) (b := true) rfl rfl rfl (zA hN12 rfl) ?_
    refine zG (zC hN12 rfl s12_4) ?_
    refine zS (j := 7) (dj := 23) (b := true) rfl rfl rfl (zA hN12 rfl) ?_
    refine op_eql (zA hN12 rfl) (zA hN12 rfl) (fun c28 => ?_) (fun c28 => ?_)
    ·
     refine zc (zA hN12 rfl) (zA hN12 rfl) ?_
     refine zG (zA hN12 rfl) ?_
     refine zS (j := 14) (dj := 30) (b := true) rfl rfl rfl (zA hN12 rfl) ?_
     refine zM fld45_8 (zC hN12 rfl s12_1) ?_
     refine zS (j := 14) (dj := 30) (b := true) rfl rfl rfl (zA hN12 rfl) ?_
     refine zN (v := f.ov) one26 (zA hN12 rfl) (hB5.cell rfl) ?_
     refine zS (j := 14) (dj := 30) (b := true) rfl rfl rfl (zA hN12 rfl) ?_
     refine zj ok68 (cols_ret (hfo.mono zx)) ⟨(zA hN12 rfl), trivial⟩ ?_
     rintro _ w16 ⟨E17, rfl⟩
     have E17 := zQ E17
     have := E17.size
     have hfr := hfr.keep0 E17
     have hB5 := hB5.keep0 E17
     have hb := zP hb E17 hb.size
     rcases Bool.eq_false_or_eq_true ((colsOk f.on)) with c33 | c33
     ·
      rw [c33]
      refine zc (zA hN12 rfl) (zA hN12 rfl) ?_
      refine zG (zA hN12 rfl) ?_
      refine zS (j := 19) (dj := 35) (b := true) rfl rfl rfl (zA hN12 rfl) ?_
      refine zM fld45_10 (zC hN12 rfl s12_1) ?_
      refine zS (j := 19) (dj := 35) (b := true) rfl rfl rfl (zA hN12 rfl) ?_
      refine zN (v := f.rv) one26 (zA hN12 rfl) (hB5.cell rfl) ?_
      refine zS (j := 19) (dj := 35) (b := true) rfl rfl rfl (zA hN12 rfl) ?_
      refine zj ok68 (cols_ret (hfr.mono zx)) ⟨(zA hN12 rfl), trivial⟩ ?_
      rintro _ w18 ⟨E19, rfl⟩
      have E19 := zQ E19
      have := E19.size
      have hb := zP hb E19 hb.size
      rcases Bool.eq_false_or_eq_true ((colsOk f.ord)) with c38 | c38
      ·
       rw [c38]
       refine zc (zA hN12 rfl) (zA hN12 rfl) ?_
       refine zD (zA hN12 rfl) ?_
       refine zB ?_
       refine hK15 _ _ (wp_ret (zb (zO ( ?_))))
       refine ret1 rfl hd12 (zA hN12 rfl) ⟨_, rfl, ?_⟩
       have e21 : decide (f.ord.length ≤ 1) = true := decide_eq_true zx
       have e28 : decide (f.on.length = if f.join = [] then 0 else 2) = true := decide_eq_true (by rw [← hon9]; omega)
       have e8 : decide (f.wh.length ≤ 1) = true := hb3.symm.trans g17
       have e9 : listsOk f inner.length = true := by unfold listsOk; rw [if_pos c12]; (simp only [e21, e28, c33, c38, e8]) <;> rfl
       rw [e9]; exact ⟨hb, rfl⟩
      rw [c38]
      refine zc (zA hN12 rfl) (zA hN12 rfl) ?_
      refine zD (zA hN12 rfl) ?_
      refine zB ?_
      refine hK15 _ _ (wp_ret (zb (zO ( ?_))))
      refine ret1 rfl hd12 (zA hN12 rfl) ⟨_, rfl, ?_⟩
      have e21 : decide (f.ord.length ≤ 1) = true := decide_eq_true zx
      have e28 : decide (f.on.length = if f.join = [] then 0 else 2) = true := decide_eq_true (by rw [← hon9]; omega)
      have e8 : decide (f.wh.length ≤ 1) = true := hb3.symm.trans g17
      have e9 : listsOk f inner.length = false := by unfold listsOk; rw [if_pos c12]; (simp only [e21, e28, c33, c38, e8]) <;> rfl
      rw [e9]; exact ⟨hb, rfl⟩
     rw [c33]
     refine zc (zA hN12 rfl) (zA hN12 rfl) ?_
     refine zG (zA hN12 rfl) ?_
     refine zR (j := 19) (dj := 35) (b := true) rfl rfl rfl (zA hN12 rfl) rfl rfl ?_
     refine zR (j := 19) (dj := 35) (b := true) rfl rfl rfl (zA hN12 rfl) rfl rfl ?_
     refine zR (j := 19) (dj := 35) (b := true) rfl rfl rfl (zA hN12 rfl) rfl rfl ?_
     refine zd (zA hN12 rfl) rfl ?_
     refine zD (zA hN12 rfl) ?_
     refine zB ?_
     refine hK15 _ _ (wp_ret (zb (zO ( ?_))))
     refine ret1 rfl hd12 (zA hN12 rfl) ⟨_, rfl, ?_⟩
     have e21 : decide (f.ord.length ≤ 1) = true := decide_eq_true zx
     have e28 : decide (f.on.length = if f.join = [] then 0 else 2) = true := decide_eq_true (by rw [← hon9]; omega)
     have e8 : decide (f.wh.length ≤ 1) = true := hb3.symm.trans g17
     have e9 : listsOk f inner.length = false := by unfold listsOk; rw [if_pos c12]; (simp only [e21, e28, c33, e8]) <;> rfl
     rw [e9]; exact ⟨hb, rfl⟩
    refine zc (zA hN12 rfl) (zA hN12 rfl) ?_
    refine zG (zA hN12 rfl) ?_
    refine zR (j := 14) (dj := 30) (b := true) rfl rfl rfl (zA hN12 rfl) rfl rfl ?_
    refine zR (j := 14) (dj := 30) (b := true) rfl rfl rfl (zA hN12 rfl) rfl rfl ?_
    refine zR (j := 14) (dj := 30) (b := true) rfl rfl rfl (zA hN12 rfl) rfl rfl ?_
    refine zd (zA hN12 rfl) rfl ?_
    refine zG (zA hN12 rfl) ?_
    refine zR (j := 19) (dj := 35) (b := true) rfl rfl rfl (zA hN12 rfl) rfl rfl ?_
    refine zR (j := 19) (dj := 35) (b := true) rfl rfl rfl (zA hN12 rfl) rfl rfl ?_
    refine zR (j := 19) (dj := 35) (b := true) rfl rfl rfl (zA hN12 rfl) rfl rfl ?_
    refine zd (zA hN12 rfl) rfl ?_
    refine zD (zA hN12 rfl) ?_
    refine zB ?_
    refine hK15 _ _ (wp_ret (zb (zO ( ?_))))
    refine ret1 rfl hd12 (zA hN12 rfl) ⟨_, rfl, ?_⟩
    have e21 : decide (f.ord.length ≤ 1) = true := decide_eq_true zx
    have e28 : decide (f.on.length = if f.join = [] then 0 else 2) = false := decide_eq_false (fun g => by rw [← hon9] at g; omega)
    have e8 : decide (f.wh.length ≤ 1) = true := hb3.symm.trans g17
    have e9 : listsOk f inner.length = false := by unfold listsOk; rw [if_pos c12]; (simp only [e21, e28, e8]) <;> rfl
    rw [e9]; exact ⟨hb, rfl⟩
   refine zc (zA hN12 rfl) (zA hN12 rfl) ?_
   refine zG (zA hN12 rfl) ?_
   refine zR (j := 7) (dj := 23) (b := true) rfl rfl rfl (zA hN12 rfl) rfl rfl ?_
   refine zR (j := 7) (dj := 23) (b := true) rfl rfl rfl (zA hN12 rfl) rfl rfl ?_
   refine zR (j := 7) (dj := 23) (b := true) rfl rfl rfl (zA hN12 rfl) rfl rfl ?_
   refine zR (j := 7) (dj := 23) (b := true) rfl rfl rfl (zA hN12 rfl) rfl rfl ?_
   refine zR (j := 7) (dj := 23) (b := true) rfl rfl rfl (zA hN12 rfl) rfl rfl ?_
   refine zd (zA hN12 rfl) rfl ?_
   refine zG (zA hN12 rfl) ?_
   refine zR (j := 14) (dj := 30) (b := true) rfl rfl rfl (zA hN12 rfl) rfl rfl ?_
   refine zR (j := 14) (dj := 30) (b := true) rfl rfl rfl (zA hN12 rfl) rfl rfl ?_
   refine zR (j := 14) (dj := 30) (b := true) rfl rfl rfl (zA hN12 rfl) rfl rfl ?_
   refine zd (zA hN12 rfl) rfl ?_
   refine zG (zA hN12 rfl) ?_
   refine zR (j := 19) (dj := 35) (b := true) rfl rfl rfl (zA hN12 rfl) rfl rfl ?_
   refine zR (j := 19) (dj := 35) (b := true) rfl rfl rfl (zA hN12 rfl) rfl rfl ?_
   refine zR (j := 19) (dj := 35) (b := true) rfl rfl rfl (zA hN12 rfl) rfl rfl ?_
   refine zd (zA hN12 rfl) rfl ?_
   refine zD (zA hN12 rfl) ?_
   refine zB ?_
   refine hK15 _ _ (wp_ret (zb (zO ( ?_))))
   refine ret1 rfl hd12 (zA hN12 rfl) ⟨_, rfl, ?_⟩
   have e21 : decide (f.ord.length ≤ 1) = false := decide_eq_false zx
   have e8 : decide (f.wh.length ≤ 1) = true := hb3.symm.trans g17
   have e9 : listsOk f inner.length = false := by unfold listsOk; rw [if_pos c12]; (simp only [e21, e8]) <;> rfl
   rw [e9]; exact ⟨hb, rfl⟩
  rw [g17]
  refine zR (j := 1) (dj := 17) (b := true) rfl rfl rfl (zA hN12 rfl) rfl rfl ?_
  refine zR (j := 1) (dj := 17) (b := true) rfl rfl rfl (zA hN12 rfl) rfl rfl ?_
  refine zR (j := 1) (dj := 17) (b := true) rfl rfl rfl (zA hN12 rfl) rfl rfl ?_
  refine zR (j := 1) (dj := 17) (b := true) rfl rfl rfl (zA hN12 rfl) rfl rfl ?_
  refine zd (zA hN12 rfl) rfl ?_
  refine zG (zA hN12 rfl) ?_
  refine zR (j := 7) (dj := 23) (b := true) rfl rfl rfl (zA hN12 rfl) rfl rfl ?_
  refine zR (j := 7) (dj := 23) (b := true) rfl rfl rfl (zA hN12 rfl) rfl rfl ?_
  refine zR (j := 7) (dj := 23) (b := true) rfl rfl rfl (zA hN12 rfl) rfl rfl ?_
  refine zR (j := 7) (dj := 23) (b := true) rfl rfl rfl (zA hN12 rfl) rfl rfl ?_
  refine zR (j := 7) (dj := 23) (b := true) rfl rfl rfl (zA hN12 rfl) rfl rfl ?_
  refine zd (zA hN12 rfl) rfl ?_
  refine zG (zA hN12 rfl) ?_
  refine zR (j := 14) (dj := 30) (b := true) rfl rfl rfl (zA hN12 rfl) rfl rfl ?_
  refine zR (j := 14) (dj := 30) (b := true) rfl rfl rfl (zA hN12 rfl) rfl rfl ?_
  refine zR (j := 14) (dj := 30) (b := true) rfl rfl rfl (zA hN12 rfl) rfl rfl ?_
  refine zd (zA hN12 rfl) rfl ?_
  refine zG (zA hN12 rfl) ?_
  refine zR (j := 19) (dj := 35) (b := true) rfl rfl rfl (zA hN12 rfl) rfl rfl ?_
  refine zR (j := 19) (dj := 35) (b := true) rfl rfl rfl (zA hN12 rfl) rfl rfl ?_
  refine zR (j := 19) (dj := 35) (b := true) rfl rfl rfl (zA hN12 rfl) rfl rfl ?_
  refine zd (zA hN12 rfl) rfl ?_
  refine zD (zA hN12 rfl) ?_
  refine zB ?_
  refine hK15 _ _ (wp_ret (zb (zO ( ?_))))
  refine ret1 rfl hd12 (zA hN12 rfl) ⟨_, rfl, ?_⟩
  have e8 : decide (f.wh.length ≤ 1) = false := hb3.symm.trans g17
  have e9 : listsOk f inner.length = false := by unfold listsOk; rw [if_pos c12]; (simp only [e8]) <;> rfl
  rw [e9]; exact ⟨hb, rfl⟩
 refine zD (zA hN6 rfl) ?_
 refine zB ?_
 refine hK10 _ _ (wp_cond_false (zA hN6 rfl) (zF fun K20 hK20 => ?_))
 refine zH ?_
 refine op_eql (zA hN6 rfl) rfl (fun c41 => ?_) (fun c41 => ?_)
 ·
  refine zD (zA hN6 rfl) ?_
  refine zB ?_
  refine hK20 _ _ (wp_cond_true (zA hN6 rfl) (zF fun K21 hK21 => ?_))
  refine zH ?_
  refine zG (zC hN6 rfl s6_3) ?_
  refine zG (zA hN6 rfl) ?_
  rcases Bool.eq_false_or_eq_true (q3) with g43 | g43
  ·
   rw [g43]
   refine zS (j := 1) (dj := 43) (b := true) rfl rfl rfl (zA hN6 rfl) ?_
   refine zM fld45_5 (zC hN6 rfl s6_1) ?_
   refine zS (j := 1) (dj := 43) (b := true) rfl rfl rfl (zA hN6 rfl) ?_
   refine zN (v := f.vv) one26 (zA hN6 rfl) (hB5.cell rfl) ?_
   refine zS (j := 1) (dj := 43) (b := true) rfl rfl rfl (zA hN6 rfl) ?_
   refine op_len_rd Try.underlying26 (zA hN6 rfl) hfvR ?_
   refine zS (j := 1) (dj := 43) (b := true) rfl rfl rfl (zA hN6 rfl) ?_
   refine op_eql (zA hN6 rfl) rfl (fun c47 => ?_) (fun c47 => ?_)
   ·
    refine zc (zA hN6 rfl) (zA hN6 rfl) ?_
    refine zD (zA hN6 rfl) ?_
    refine zB ?_
    refine hK21 _ _ (wp_ret (zb (zO ( ?_))))
    refine ret1 rfl hd6 (zA hN6 rfl) ⟨_, rfl, ?_⟩
    have e47 : decide (f.vals.length = 1) = true := decide_eq_true zx
    have e8 : decide (f.wh.length ≤ 1) = true := hb3.symm.trans g43
    have e9 : listsOk f inner.length = true := by unfold listsOk; rw [if_neg c12, if_pos c41]; (simp only [e47, e8]) <;> rfl
    rw [e9]; exact ⟨hb, rfl⟩
   refine zc (zA hN6 rfl) (zA hN6 rfl) ?_
   refine zD (zA hN6 rfl) ?_
   refine zB ?_
   refine hK21 _ _ (wp_ret (zb (zO ( ?_))))
   refine ret1 rfl hd6 (zA hN6 rfl) ⟨_, rfl, ?_⟩
   have e47 : decide (f.vals.length = 1) = false := decide_eq_false zx
   have e8 : decide (f.wh.length ≤ 1) = true := hb3.symm.trans g43
   have e9 : listsOk f inner.length = false := by unfold listsOk; rw [if_neg c12, if_pos c41]; (simp only [e47, e8]) <;> rfl
   rw [e9]; exact ⟨hb, rfl⟩
  rw [g43]
  refine zR (j := 1) (dj := 43) (b := true) rfl rfl rfl (zA hN6 rfl) rfl rfl ?_
  refine zR (j := 1) (dj := 43) (b := true) rfl rfl rfl (zA hN6 rfl) rfl rfl ?_
  refine zR (j := 1) (dj := 43) (b := true) rfl rfl rfl (zA hN6 rfl) rfl rfl ?_
  refine zR (j := 1) (dj := 43) (b := true) rfl rfl rfl (zA hN6 rfl) rfl rfl ?_
  refine zd (zA hN6 rfl) rfl ?_
  refine zD (zA hN6 rfl) ?_
  refine zB ?_
  refine hK21 _ _ (wp_ret (zb (zO ( ?_))))
  refine ret1 rfl hd6 (zA hN6 rfl) ⟨_, rfl, ?_⟩
  have e8 : decide (f.wh.length ≤ 1) = false := hb3.symm.trans g43
  have e9 : listsOk f inner.length = false := by unfold listsOk; rw [if_neg c12, if_pos c41]; (simp only [e8]) <;> rfl
  rw [e9]; exact ⟨hb, rfl⟩
 refine zD (zA hN6 rfl) ?_
 refine zB ?_
 refine hK20 _ _ (wp_cond_false (zA hN6 rfl) (zF fun K22 hK22 => ?_))
 refine zH ?_
 refine op_eql (zA hN6 rfl) rfl (fun c50 => ?_) (fun c50 => ?_)
 ·
  refine zD (zA hN6 rfl) ?_
  refine zB ?_
  refine hK22 _ _ (wp_cond_true (zA hN6 rfl) (zF fun K23 hK23 => ?_))
  refine zH ?_
  refine zG (zC hN6 rfl s6_3) ?_
  refine zD (zA hN6 rfl) ?_
  refine zB ?_
  refine hK23 _ _ (wp_ret (zb (zO ( ?_))))
  refine ret1 rfl hd6 (zA hN6 rfl) ⟨_, rfl, ?_⟩
  have e9 : listsOk f inner.length = q3 := by unfold listsOk; rw [if_neg c12, if_neg c41, if_pos c50]; exact hb3.symm
  rw [e9]; exact ⟨hb, rfl⟩
 refine zD (zA hN6 rfl) ?_
 refine zB ?_
 refine hK22 _ _ (wp_cond_false (zA hN6 rfl) (zF fun K24 hK24 => ?_))
 refine zF fun K25 hK25 => ?_
 refine zH ?_
 refine op_eql (zA hN6 rfl) rfl (fun c53 => ?_) (fun c53 => ?_)
 ·
  refine zD (zA hN6 rfl) ?_
  refine zB ?_
  refine hK25 _ _ (wp_cond_true (zA hN6 rfl) (wp_skip (hK24 _ _ (wp_cond_true (zA hN6 rfl) (zF fun K26 hK26 => ?_)))))
  refine zH ?_
  refine zM fld45_12 (zC hN6 rfl s6_1) ?_
  refine zN (v := nv) one43 (zA hN6 rfl) (hB5.cell rfl) ?_
  refine op_len_rd Try.underlying43 (zA hN6 rfl) hfn ?_
  refine op_eql (zA hN6 rfl) rfl (fun c58 => ?_) (fun c58 => ?_)
  ·
   refine zD (zA hN6 rfl) ?_
   refine zB ?_
   refine hK26 _ _ (wp_ret (zb (zO ( ?_))))
   refine ret1 rfl hd6 (zA hN6 rfl) ⟨_, rfl, ?_⟩
   have e58 : decide (inner.length = 1) = true := decide_eq_true zx
   have e9 : listsOk f inner.length = true := by unfold listsOk; rw [if_neg c12, if_neg c41, if_neg c50, if_pos (.inl c53)]; (simp only [e58]) <;> rfl
   rw [e9]; exact ⟨hb, rfl⟩
  refine zD (zA hN6 rfl) ?_
  refine zB ?_
  refine hK26 _ _ (wp_ret (zb (zO ( ?_))))
  refine ret1 rfl hd6 (zA hN6 rfl) ⟨_, rfl, ?_⟩
  have e58 : decide (inner.length = 1) = false := decide_eq_false zx
  have e9 : listsOk f inner.length = false := by unfold listsOk; rw [if_neg c12, if_neg c41, if_neg c50, if_pos (.inl c53)]; (simp only [e58]) <;> rfl
  rw [e9]; exact ⟨hb, rfl⟩
 refine zD (zA hN6 rfl) ?_
 refine zB ?_
 refine hK25 _ _ (wp_cond_false (zA hN6 rfl) (zH ?_))
 refine op_eql (zA hN6 rfl) rfl (fun c54 => ?_) (fun c54 => ?_)
 ·
  refine zD (zA hN6 rfl) ?_
  refine zB ?_
  refine hK24 _ _ (wp_cond_true (zA hN6 rfl) (zF fun K27 hK27 => ?_))
  refine zH ?_
  refine zM fld45_12 (zC hN6 rfl s6_1) ?_
  refine zN (v := nv) one43 (zA hN6 rfl) (hB5.cell rfl) ?_
  refine op_len_rd Try.underlying43 (zA hN6 rfl) hfn ?_
  refine op_eql (zA hN6 rfl) rfl (fun c58 => ?_) (fun c58 => ?_)
  ·
   refine zD (zA hN6 rfl) ?_
   refine zB ?_
   refine hK27 _ _ (wp_ret (zb (zO ( ?_))))
   refine ret1 rfl hd6 (zA hN6 rfl) ⟨_, rfl, ?_⟩
   have e58 : decide (inner.length = 1) = true := decide_eq_true zx
   have e9 : listsOk f inner.length = true := by unfold listsOk; rw [if_neg c12, if_neg c41, if_neg c50, if_pos (.inr c54)]; (simp only [e58]) <;> rfl
   rw [e9]; exact ⟨hb, rfl⟩
  refine zD (zA hN6 rfl) ?_
  refine zB ?_
  refine hK27 _ _ (wp_ret (zb (zO ( ?_))))
  refine ret1 rfl hd6 (zA hN6 rfl) ⟨_, rfl, ?_⟩
  have e58 : decide (inner.length = 1) = false := decide_eq_false zx
  have e9 : listsOk f inner.length = false := by unfold listsOk; rw [if_neg c12, if_neg c41, if_neg c50, if_pos (.inr c54)]; (simp only [e58]) <;> rfl
  rw [e9]; exact ⟨hb, rfl⟩
 refine zD (zA hN6 rfl) ?_
 refine zB ?_
 refine hK24 _ _ (wp_cond_false (zA hN6 rfl) (wp_skip (hK8 _ _ (zF fun K28 hK28 => ?_))))
 refine zH ?_
 refine zM fld45_0 (zC hN6 rfl s6_1) ?_
 refine zN (v := (Value.int .i64 f.kind)) one3 (zA hN6 rfl) (hB5.cell rfl) ?_
 refine op_geq (zA hN6 rfl) rfl (fun c61 => ?_) (fun c61 => ?_)
 ·
  refine zG (zA hN6 rfl) ?_
  refine zS (j := 3) (dj := 62) (b := true) rfl rfl rfl (zA hN6 rfl) ?_
  refine zM fld45_0 (zC hN6 rfl s6_1) ?_
  refine zS (j := 3) (dj := 62) (b := true) rfl rfl rfl (zA hN6 rfl) ?_
  refine zN (v := (Value.int .i64 f.kind)) one3 (zA hN6 rfl) (hB5.cell rfl) ?_
  refine zS (j := 3) (dj := 62) (b := true) rfl rfl rfl (zA hN6 rfl) ?_
  refine op_leq (zA hN6 rfl) rfl (fun c65 => ?_) (fun c65 => ?_)
  ·
   refine zc (zA hN6 rfl) (zA hN6 rfl) ?_
   refine zD (zA hN6 rfl) ?_
   refine zB ?_
   refine hK28 _ _ (wp_ret ?_)
   refine ret1 rfl hd6 (zA hN6 rfl) ⟨_, rfl, ?_⟩
   have e61 : decide (1 ≤ f.kind) = true := decide_eq_true zx
   have e65 : decide (f.kind ≤ 13) = true := decide_eq_true zx
   have e9 : listsOk f inner.length = true := by unfold listsOk; rw [if_neg c12, if_neg c41, if_neg c50, if_neg (fun g => g.elim c53 c54)]; (simp only [e61, e65]) <;> rfl
   rw [e9]; exact ⟨hb, rfl⟩
  refine zc (zA hN6 rfl) (zA hN6 rfl) ?_
  refine zD (zA hN6 rfl) ?_
  refine zB ?_
  refine hK28 _ _ (wp_ret ?_)
  refine ret1 rfl hd6 (zA hN6 rfl) ⟨_, rfl, ?_⟩
  have e61 : decide (1 ≤ f.kind) = true := decide_eq_true zx
  have e65 : decide (f.kind ≤ 13) = false := decide_eq_false zx
  have e9 : listsOk f inner.length = false := by unfold listsOk; rw [if_neg c12, if_neg c41, if_neg c50, if_neg (fun g => g.elim c53 c54)]; (simp only [e61, e65]) <;> rfl
  rw [e9]; exact ⟨hb, rfl⟩
 refine zG (zA hN6 rfl) ?_
 refine zR (j := 3) (dj := 62) (b := true) rfl rfl rfl (zA hN6 rfl) rfl rfl ?_
 refine zR (j := 3) (dj := 62) (b := true) rfl rfl rfl (zA hN6 rfl) rfl rfl ?_
 refine zR (j := 3) (dj := 62) (b := true) rfl rfl rfl (zA hN6 rfl) rfl rfl ?_
 refine zd (zA hN6 rfl) rfl ?_
 refine zD (zA hN6 rfl) ?_
 refine zB ?_
 refine hK28 _ _ (wp_ret ?_)
 refine ret1 rfl hd6 (zA hN6 rfl) ⟨_, rfl, ?_⟩
 have e61 : decide (1 ≤ f.kind) = false := decide_eq_false zx
 have e9 : listsOk f inner.length = false := by unfold listsOk; rw [if_neg c12, if_neg c41, if_neg c50, if_neg (fun g => g.elim c53 c54)]; (simp only [e61]) <;> rfl
 rw [e9]; exact ⟨hb, rfl⟩

theorem IdxV {L : List DVw} {v : Value} {p : DVw → Bool} {w : World} (hl : RdC w 0 w.heap.size 15 v L.length (L.flatMap cellsW)) {g : Nat} {fs cs : List Value} (hokg : callOk Try.prog g = true) (hf : ∀ i, i < L.length → ∀ w1, Below w.heap.size w w1 → Ret Try.prog g (fs ++ [(Value.agg #[(Value.string (bs (L.getD i default).nm)), (L.getD i default).sv, (Value.int .i64 (L.getD i default).act.f.kind), (Value.string (bs (L.getD i default).act.f.tb)), (Value.string (bs (L.getD i default).act.f.nm)), (L.getD i default).act.f.cv, (L.getD i default).act.f.gv, (L.getD i default).act.f.vv, (L.getD i default).act.f.iv, (Value.string (bs (L.getD i default).act.f.join)), (L.getD i default).act.f.ov, (L.getD i default).act.f.wv, (L.getD i default).act.f.rv, (Value.bool (L.getD i default).act.f.desc), (L.getD i default).act.nv])] ++ cs).toArray w1 (fun v' w' => Below w1.heap.size w1 w' ∧ v' = .bool (p (L.getD i default)))) : Ret Try.prog 100 #[v, (Value.func (.func g) fs.toArray cs.toArray)] w (fun v' w' => Below w.heap.size w w' ∧ v' = .int .i64 (ixOf p L)) := by
 have hlm := rd_len hl
 have hb := Below.refl w.heap.size w
 refine enter (N := 19) Try.func100 rfl rfl (by simp) fun a0 hN hd hA => ?_
 have s0 : a0.tmps.getD 0 undef = v := hA 0 (by simp)
 have s1 : a0.tmps.getD 1 undef = (.func (.func g) fs.toArray cs.toArray) := hA 1 (by simp)
 clear hA
 refine zF fun K29 hK29 => ?_
 refine zH ?_
 refine zD rfl ?_
 refine zB ?_
 refine hK29 _ _ (zF fun K30 hK30 => ?_)
 refine zF fun K31 hK31 => ?_
 refine zH ?_
 refine zG (zC hN rfl s0) ?_
 refine op_len_rd Try.underlying37 (zA hN rfl) hl ?_
 refine zG rfl ?_
 refine zB ?_
 refine hK31 _ _ (wp_block ?_)
 refine loop_m (fun mz_ az_ w' => ∃ (i : Nat), mz_ = L.length - i ∧ (az_.tmps.getD 0 undef = v) ∧ (az_.tmps.getD 1 undef = (.func (.func g) fs.toArray cs.toArray)) ∧ (az_.tmps.getD 7 undef = (.int .i64 ((L.length : Nat) : Int))) ∧ (az_.tmps.getD 8 undef = (.int .i64 ((i : Nat) : Int))) ∧ (i ≤ L.length) ∧ (∀ j, j < i → p (L.getD j default) = false) ∧ (Below w.heap.size w w') ∧ (w.heap.size ≤ w'.heap.size) ∧ (RdC w' 0 w.heap.size 15 v L.length (L.flatMap cellsW))) _ hN hd ⟨0, rfl, (zL hN rfl s0), (zL hN rfl s1), (zU hN rfl), (zU hN rfl), (Nat.zero_le _), (fun _ h => absurd h (Nat.not_lt_zero _)), hb, (Nat.le_refl _), hl⟩ ?_
 rintro _ a32 w32 hN32 hd32 ⟨i, rfl, s32_0, s32_1, s32_7, s32_8, hi, hall, hb, zl_w32, hl⟩
 have := hb.size
 refine zF fun K33 hK33 => ?_
 refine zH ?_
 refine op_lss (zC hN32 rfl s32_8) (zC hN32 rfl s32_7) (fun c9 => ?_) (fun c9 => ?_)
 ·
  refine zB ?_
  refine hK33 _ _ (zF fun K34 hK34 => ?_)
  refine wp_cond_true (zA hN32 rfl) (wp_skip (hK34 _ _ (zF fun K35 hK35 => ?_)))
  refine wp_block ?_
  refine zF fun K36 hK36 => ?_
  refine zH ?_
  refine zG (zC hN32 rfl s32_8) ?_
  refine zD (zA hN32 rfl) ?_
  refine zB ?_
  refine hK36 _ _ (zF fun K37 hK37 => ?_)
  refine zH ?_
  refine zG (zC hN32 rfl s32_1) ?_
  refine zG (zC hN32 rfl s32_0) ?_
  refine zG (zA hN32 rfl) ?_
  refine zh slt37 (zA hN32 rfl) hl (zA hN32 rfl) zx zx ?_
  intro b38 o39 h0b38 h1b38 hc40
  refine zX (cs := [(.string (bs (L.getD i default).nm)), (L.getD i default).sv, (.int .i64 (L.getD i default).act.f.kind), (.string (bs (L.getD i default).act.f.tb)), (.string (bs (L.getD i default).act.f.nm)), (L.getD i default).act.f.cv, (L.getD i default).act.f.gv, (L.getD i default).act.f.vv, (L.getD i default).act.f.iv, (.string (bs (L.getD i default).act.f.join)), (L.getD i default).act.f.ov, (L.getD i default).act.f.wv, (L.getD i default).act.f.rv, (.bool (L.getD i default).act.f.desc), (L.getD i default).act.nv]) agg98 rfl (zA hN32 rfl) (fun j u hu => hc40 j u (by have := (List.getElem?_eq_some_iff.1 hu).1; simpa using this) ((el_dv (i := i) zx zx) j u hu)) ?_
  refine op_fnv (fs := fs) (vs := [(.agg #[(.string (bs (L.getD i default).nm)), (L.getD i default).sv, (.int .i64 (L.getD i default).act.f.kind), (.string (bs (L.getD i default).act.f.tb)), (.string (bs (L.getD i default).act.f.nm)), (L.getD i default).act.f.cv, (L.getD i default).act.f.gv, (L.getD i default).act.f.vv, (L.getD i default).act.f.iv, (.string (bs (L.getD i default).act.f.join)), (L.getD i default).act.f.ov, (L.getD i default).act.f.wv, (L.getD i default).act.f.rv, (.bool (L.getD i default).act.f.desc), (L.getD i default).act.nv])]) (cs := cs) (zA hN32 rfl) hokg ⟨(zA hN32 rfl), trivial⟩ (hf i zx _ hb) ?_
  rintro _ w41 ⟨E42, rfl⟩
  have E42 := zQ E42
  have := E42.size
  have hl := hl.keep0 E42
  have hb := zP hb E42 hb.size
  rcases Bool.eq_false_or_eq_true ((p (L.getD i default))) with c16 | c16
  ·
   rw [c16]
   refine zB ?_
   refine hK37 _ _ (wp_cond_true (zA hN32 rfl) (zF fun K43 hK43 => ?_))
   refine zH ?_
   refine zG (zA hN32 rfl) ?_
   refine zD (zA hN32 rfl) ?_
   refine zB ?_
   refine hK43 _ _ (wp_ret (zb (zO (zO (zb (zO ( ?_)))))))
   refine ret1 rfl hd32 (zA hN32 rfl) ⟨_, rfl, ?_⟩
   exact ⟨hb, congrArg (Value.int .i64) (ixOf_hit zx hall c16).symm⟩
  rw [c16]
  refine zB ?_
  refine hK37 _ _ (wp_cond_false (zA hN32 rfl) (wp_skip (hK35 _ _ (zH ?_))))
  refine op_add (zC hN32 rfl s32_8) rfl (add64 zx) ?_
  refine zG (zA hN32 rfl) ?_
  refine zB ?_
  -- round 9T 16F
  exact zg _ hN32 hd32 ⟨(i + 1), rfl, (zL hN32 rfl s32_0), (zL hN32 rfl s32_1), (zL hN32 rfl s32_7), (zU hN32 rfl).trans (congrArg (Value.int .i64) zx), zx, (all_next hall c16), hb, zx, hl⟩ zx
 refine zB ?_
 refine hK33 _ _ (zF fun K44 hK44 => ?_)
 refine wp_cond_false (zA hN32 rfl) (wp_exit (then_exit (then_exit (blk_hit ?_))))
 refine hK30 _ _ (zF fun K45 hK45 => ?_)
 refine zH ?_
 refine zD rfl ?_
 refine zB ?_
 refine hK45 _ _ (wp_ret ?_)
 refine ret1 rfl hd32 (zA hN32 rfl) ⟨_, rfl, ?_⟩
 exact ⟨hb, congrArg (Value.int .i64) (ixOf_none zx hall).symm⟩

theorem ofView_ret (d : DVw) (w : World) : Ret Try.prog 78 #[(.agg #[(.string (bs d.nm)), d.sv, (.int .i64 d.act.f.kind), (.string (bs d.act.f.tb)), (.string (bs d.act.f.nm)), d.act.f.cv, d.act.f.gv, d.act.f.vv, d.act.f.iv, (.string (bs d.act.f.join)), d.act.f.ov, d.act.f.wv, d.act.f.rv, (.bool d.act.f.desc), d.act.nv])] w (fun v' w' => Below w.heap.size w w' ∧ v' = .string (bs d.nm)) := by
 have hb := Below.refl w.heap.size w
 refine enter (N := 5) Try.func78 rfl rfl (by simp) fun a0 hN hd hA => ?_
 have s0 : a0.tmps.getD 0 undef = (.agg #[(.string (bs d.nm)), d.sv, (.int .i64 d.act.f.kind), (.string (bs d.act.f.tb)), (.string (bs d.act.f.nm)), d.act.f.cv, d.act.f.gv, d.act.f.vv, d.act.f.iv, (.string (bs d.act.f.join)), d.act.f.ov, d.act.f.wv, d.act.f.rv, (.bool d.act.f.desc), d.act.nv]) := hA 0 (by simp)
 clear hA
 refine zF fun K46 hK46 => ?_
 refine zH ?_
 refine op_box (cs := [(.string (bs d.nm)), d.sv, (.int .i64 d.act.f.kind), (.string (bs d.act.f.tb)), (.string (bs d.act.f.nm)), d.act.f.cv, d.act.f.gv, d.act.f.vv, d.act.f.iv, (.string (bs d.act.f.join)), d.act.f.ov, d.act.f.wv, d.act.f.rv, (.bool d.act.f.desc), d.act.nv]) (zC hN rfl s0) rfl ?_
 intro w47 b48 lo_b48 hi_b48 hB50 E49
 have := E49.size
 have hb := zP hb E49 hb.size
 refine zD rfl ?_
 refine zB ?_
 refine hK46 _ _ (zF fun K51 hK51 => ?_)
 refine zH ?_
 refine zM fld98_0 (zA hN rfl) ?_
 refine zN (v := (Value.string (bs d.nm))) one9 (zA hN rfl) (hB50.cell rfl) ?_
 refine zD (zA hN rfl) ?_
 refine zB ?_
 refine hK51 _ _ (wp_ret ?_)
 refine ret1 rfl hd (zA hN rfl) ⟨_, rfl, ?_⟩
 exact ⟨hb, rfl⟩

theorem find1View (d : DVw) (x : List UInt8) {fb nb : Nat} {w : World} (hf9 : Bx w fb 125 [.func (.func 78) #[] #[]]) (hn9 : Bx w nb 9 [.string (bs x)]) : Ret Try.prog 101 #[(.agg #[(.string (bs d.nm)), d.sv, (.int .i64 d.act.f.kind), (.string (bs d.act.f.tb)), (.string (bs d.act.f.nm)), d.act.f.cv, d.act.f.gv, d.act.f.vv, d.act.f.iv, (.string (bs d.act.f.join)), d.act.f.ov, d.act.f.wv, d.act.f.rv, (.bool d.act.f.desc), d.act.nv]), (ptr fb 0), (ptr nb 0)] w (fun v' w' => Below w.heap.size w w' ∧ v' = .bool (decide (d.nm = x))) := by
 have hb := Below.refl w.heap.size w
 refine enter (N := 10) Try.func101 rfl rfl (by simp) fun a0 hN hd hA => ?_
 have s0 : a0.tmps.getD 0 undef = (.agg #[(.string (bs d.nm)), d.sv, (.int .i64 d.act.f.kind), (.string (bs d.act.f.tb)), (.string (bs d.act.f.nm)), d.act.f.cv, d.act.f.gv, d.act.f.vv, d.act.f.iv, (.string (bs d.act.f.join)), d.act.f.ov, d.act.f.wv, d.act.f.rv, (.bool d.act.f.desc), d.act.nv]) := hA 0 (by simp)
 have s1 : a0.tmps.getD 1 undef = (ptr fb 0) := hA 1 (by simp)
 have s2 : a0.tmps.getD 2 undef = (ptr nb 0) := hA 2 (by simp)
 clear hA
 refine zF fun K52 hK52 => ?_
 refine zH ?_
 refine op_box (cs := [(.string (bs d.nm)), d.sv, (.int .i64 d.act.f.kind), (.string (bs d.act.f.tb)), (.string (bs d.act.f.nm)), d.act.f.cv, d.act.f.gv, d.act.f.vv, d.act.f.iv, (.string (bs d.act.f.join)), d.act.f.ov, d.act.f.wv, d.act.f.rv, (.bool d.act.f.desc), d.act.nv]) (zC hN rfl s0) rfl ?_
 intro w53 b54 lo_b54 hi_b54 hB56 E55
 have := E55.size
 have hf9 := hf9.keep0 E55
 have hn9 := hn9.keep0 E55
 have hb := zP hb E55 hb.size
 refine zD rfl ?_
 refine zB ?_
 refine hK52 _ _ (zF fun K57 hK57 => ?_)
 refine reg_split (hd := [_, _, _, _]) (tl := _) 4 mixed zy rfl rfl ?_
 refine any_env (φ := phiV [(fun uz => uz = (.func (.func 78) #[] #[])), (fun uz => uz = (.agg #[(.string (bs d.nm)), d.sv, (.int .i64 d.act.f.kind), (.string (bs d.act.f.tb)), (.string (bs d.act.f.nm)), d.act.f.cv, d.act.f.gv, d.act.f.vv, d.act.f.iv, (.string (bs d.act.f.join)), d.act.f.ov, d.act.f.wv, d.act.f.rv, (.bool d.act.f.desc), d.act.nv])), (fun _ => True), (fun uz => uz = (.string (bs x)))]) (G := fun w' => Bx w' fb 125 [(.func (.func 78) #[] #[])] ∧ Bx w' b54 98 [(.string (bs d.nm)), d.sv, (.int .i64 d.act.f.kind), (.string (bs d.act.f.tb)), (.string (bs d.act.f.nm)), d.act.f.cv, d.act.f.gv, d.act.f.vv, d.act.f.iv, (.string (bs d.act.f.join)), d.act.f.ov, d.act.f.wv, d.act.f.rv, (.bool d.act.f.desc), d.act.nv] ∧ Bx w' nb 9 [(.string (bs x))]) [2] zy zy zy zy hN (fun w1 w2 E h => by obtain ⟨h0, h1, h2⟩ := h; exact ⟨h0.keep0 E, h1.keep0 E, h2.keep0 E⟩) ⟨hf9, hB56, hn9⟩ (ObEs.cons ?_ (ObEs.cons ?_ (ObEs.pass rfl (ObEs.cons ?_ (ObEs.nil))))) (by simp only [putsL_defers]) ?_
 ·
  intro eA aA wA hNA hGA hbsA hdpA
  have qA_1 := (hbsA 1 rfl).trans (zL hN rfl s1)
  obtain ⟨hf9, hB56, hn9⟩ := hGA
  refine zN (v := (Value.func (.func 78) #[] #[])) one125 (zC hNA rfl qA_1) (hf9.cell rfl) ?_
  exact obE_end rfl rfl rfl
 ·
  intro eA aA wA hNA hGA hbsA hdpA
  have qA_3 := (hbsA 3 rfl).trans (zU hN rfl)
  obtain ⟨hf9, hB56, hn9⟩ := hGA
  refine zY agg98 rfl (zC hNA rfl qA_3) hB56 ?_
  exact obE_end rfl rfl rfl
 ·
  intro eA aA wA hNA hGA hbsA hdpA
  have qA_2 := (hbsA 2 rfl).trans (zL hN rfl s2)
  obtain ⟨hf9, hB56, hn9⟩ := hGA
  refine zN (v := (Value.string (bs x))) one9 (zC hNA rfl qA_2) (hn9.cell rfl) ?_
  exact obE_end rfl rfl rfl
 intro w58 E58 _ a58 hN58 hbs58 hdp58 o_ ho_; obtain rfl := zE ho_
 have := E58.size
 have hf9 := hf9.keep0 E58
 have hn9 := hn9.keep0 E58
 have hB56 := hB56.keep0 E58
 have hb := zP hb E58 hb.size
 have q58_5 : Sl a58 5 (.func (.func 78) #[] #[]) := (hdp58 0 _ 5 zy rfl rfl).2 rfl
 have q58_6 : Sl a58 6 (.agg #[(.string (bs d.nm)), d.sv, (.int .i64 d.act.f.kind), (.string (bs d.act.f.tb)), (.string (bs d.act.f.nm)), d.act.f.cv, d.act.f.gv, d.act.f.vv, d.act.f.iv, (.string (bs d.act.f.join)), d.act.f.ov, d.act.f.wv, d.act.f.rv, (.bool d.act.f.desc), d.act.nv]) := (hdp58 1 _ 6 zy rfl rfl).2 rfl
 refine op_fnv (fs := []) (vs := [(.agg #[(.string (bs d.nm)), d.sv, (.int .i64 d.act.f.kind), (.string (bs d.act.f.tb)), (.string (bs d.act.f.nm)), d.act.f.cv, d.act.f.gv, d.act.f.vv, d.act.f.iv, (.string (bs d.act.f.join)), d.act.f.ov, d.act.f.wv, d.act.f.rv, (.bool d.act.f.desc), d.act.nv])]) (cs := []) (zC hN58 rfl q58_5) ok78 ⟨(zC hN58 rfl q58_6), trivial⟩ (ofView_ret d _) ?_
 rintro _ w59 ⟨E60, rfl⟩
 have E60 := zQ E60
 have := E60.size
 have hf9 := hf9.keep0 E60
 have hn9 := hn9.keep0 E60
 have hB56 := hB56.keep0 E60
 have hb := zP hb E60 hb.size
 refine ke_end rfl zz rfl ⟨hf9, hB56, hn9⟩ ?_
 intro w61 E61 a61 hN61 hd61 hbs61 hph61
 have hd61 := hd61.trans ((by simp only [putsL_defers] : _ = _).trans hd)
 have := E61.size
 have hn9 := hn9.keep0 E61
 have hb := zP hb E61 hb.size
 have s61_7 : Sl a61 7 (.string (bs d.nm)) := (zE ((hph61 2 _ 7 rfl rfl).1 0 rfl)).symm
 have s61_8 : Sl a61 8 (.string (bs x)) := (hph61 3 _ 8 rfl rfl).2 rfl
 refine split_end ?_
 refine from_seq (tl := [_, _]) zz zy rfl ?_
 refine op_seql (zC hN61 rfl s61_7) (zC hN61 rfl s61_8) (fun c9 => ?_) (fun c9 => ?_)
 ·
  refine zD (zA hN61 rfl) ?_
  refine zB ?_
  refine hK57 _ _ (wp_ret ?_)
  refine ret1 rfl hd61 (zA hN61 rfl) ⟨_, rfl, ?_⟩
  exact ⟨hb, congrArg Value.bool (decide_eq_true c9).symm⟩
 refine zD (zA hN61 rfl) ?_
 refine zB ?_
 refine hK57 _ _ (wp_ret ?_)
 refine ret1 rfl hd61 (zA hN61 rfl) ⟨_, rfl, ?_⟩
 exact ⟨hb, congrArg Value.bool (decide_eq_false c9).symm⟩

theorem findView {L : List DVw} {v : Value} (x : List UInt8) {w : World} (hl : RdC w 0 w.heap.size 15 v L.length (L.flatMap cellsW)) : Ret Try.prog 77 #[v, (.string (bs x)), (.func (.func 78) #[] #[])] w (fun v' w' => Below w.heap.size w w' ∧ v' = .int .i64 (ixOf (fun d => decide (d.nm = x)) L)) := by
 have hb := Below.refl w.heap.size w
 refine enter (N := 10) Try.func77 rfl rfl (by simp) fun a0 hN hd hA => ?_
 have s0 : a0.tmps.getD 0 undef = v := hA 0 (by simp)
 have s1 : a0.tmps.getD 1 undef = (.string (bs x)) := hA 1 (by simp)
 have s2 : a0.tmps.getD 2 undef = (.func (.func 78) #[] #[]) := hA 2 (by simp)
 clear hA
 refine zF fun K62 hK62 => ?_
 refine zH ?_
 refine op_box (cs := [(.string (bs x))]) (zC hN rfl s1) rfl ?_
 intro w63 b64 lo_b64 hi_b64 hB66 E65
 have := E65.size
 have hl := hl.keep0 E65
 have hb := zP hb E65 hb.size
 refine op_box (cs := [(.func (.func 78) #[] #[])]) (zC hN rfl s2) rfl ?_
 intro w67 b68 lo_b68 hi_b68 hB70 E69
 have := E69.size
 have hl := hl.keep0 E69
 have hB66 := hB66.keep0 E69
 have hb := zP hb E69 hb.size
 refine zD rfl ?_
 refine zB ?_
 refine hK62 _ _ (zF fun K71 hK71 => ?_)
 refine zH ?_
 refine zG (zC hN rfl s0) ?_
 refine op_mkfn (cv := [(ptr b68 0), (ptr b64 0)]) ⟨(zA hN rfl), ⟨(zA hN rfl), trivial⟩⟩ ?_
 refine zj ok100 (IdxV (g := 101) (fs := []) (cs := [(ptr b68 0), (ptr b64 0)]) (p := (fun d => decide (d.nm = x))) (hl.mono (Nat.zero_le _) zx) ok101 (fun i hi w1 E9 => find1View (L.getD i default) x (hB70.keep0 (zQ E9)) (hB66.keep0 (zQ E9)))) ⟨(zA hN rfl), ⟨(zA hN rfl), trivial⟩⟩ ?_
 rintro _ w72 ⟨E73, rfl⟩
 have E73 := zQ E73
 have := E73.size
 have hl := hl.keep0 E73
 have hb := zP hb E73 hb.size
 refine zD (zA hN rfl) ?_
 refine zB ?_
 refine hK71 _ _ (wp_ret ?_)
 refine ret1 rfl hd (zA hN rfl) ⟨_, rfl, ?_⟩
 exact ⟨hb, rfl⟩

theorem View0 (tv : Value) (x : List UInt8) (w : World) : Ret Try.prog 47 #[(.agg #[tv, (.slice none 0 0)]), (.string (bs x))] w (fun v' w' => Below w.heap.size w w' ∧ v' = .tuple #[(.agg #[(.string (bs [])), (.slice none 0 0), (.int .i64 0), (.string (bs [])), (.string (bs [])), (.slice none 0 0), (.slice none 0 0), (.slice none 0 0), (.slice none 0 0), (.string (bs [])), (.slice none 0 0), (.slice none 0 0), (.slice none 0 0), (.bool false), (.slice none 0 0)]), .bool false]) := by
 have hb := Below.refl w.heap.size w
 refine enter (N := 20) Try.func47 rfl rfl (by simp) fun a0 hN hd hA => ?_
 have s0 : a0.tmps.getD 0 undef = (.agg #[tv, (.slice none 0 0)]) := hA 0 (by simp)
 have s1 : a0.tmps.getD 1 undef = (.string (bs x)) := hA 1 (by simp)
 clear hA
 refine zF fun K74 hK74 => ?_
 refine zH ?_
 refine op_box (cs := [tv, (.slice none 0 0)]) (zC hN rfl s0) rfl ?_
 intro w75 b76 lo_b76 hi_b76 hB78 E77
 have := E77.size
 have hb := zP hb E77 hb.size
 refine op_alloc (cs := [(.string (bs [])), (.slice none 0 0), (.int .i64 0), (.string (bs [])), (.string (bs [])), (.slice none 0 0), (.slice none 0 0), (.slice none 0 0), (.slice none 0 0), (.string (bs [])), (.slice none 0 0), (.slice none 0 0), (.slice none 0 0), (.bool false), (.slice none 0 0)]) zero98 rfl ?_
 intro w79 b80 lo_b80 hi_b80 hB82 E81
 have := E81.size
 have hB78 := hB78.keep0 E81
 have hb := zP hb E81 hb.size
 refine zD rfl ?_
 refine zB ?_
 refine hK74 _ _ (zF fun K83 hK83 => ?_)
 refine zH ?_
 refine zM fld39_1 (zA hN rfl) ?_
 refine zN (v := (Value.slice none 0 0)) one37 (zA hN rfl) (hB78.cell rfl) ?_
 refine zG (zC hN rfl s1) ?_
 refine zj ok77 (findView (L := ([] : List DVw)) x ((RdC.nil _ 0 0 _).mono (Nat.zero_le _) zx)) ⟨(zA hN rfl), ⟨(zA hN rfl), ⟨rfl, trivial⟩⟩⟩ ?_
 rintro _ w84 ⟨E85, rfl⟩
 have E85 := zQ E85
 have := E85.size
 have hB82 := hB82.keep0 E85
 have hb := zP hb E85 hb.size
 refine zD (zA hN rfl) ?_
 refine zB ?_
 refine hK83 _ _ (zF fun K86 hK86 => ?_)
 refine zF fun K87 hK87 => ?_
 refine zH ?_
 refine zG (zA hN rfl) ?_
 refine op_lss (zA hN rfl) rfl (fun c12 => ?_) (fun c12 => ?_)
 ·
  refine zB ?_
  refine hK87 _ _ (wp_cond_true (zA hN rfl) (zF fun K88 hK88 => ?_))
  refine zH ?_
  refine zf (pv := []) (v := (Value.agg #[(.string (bs [])), (.slice none 0 0), (.int .i64 0), (.string (bs [])), (.string (bs [])), (.slice none 0 0), (.slice none 0 0), (.slice none 0 0), (.slice none 0 0), (.string (bs [])), (.slice none 0 0), (.slice none 0 0), (.slice none 0 0), (.bool false), (.slice none 0 0)])) trivial zy ?_
  refine zZ size98 (zA hN rfl) (zA hN rfl) rfl rfl hB82 rfl ?_
  intro w91 hB82 E92
  have := E92.size
  have hb := below_step1 hb E92 hb.size zx
  refine zD rfl ?_
  refine zB ?_
  refine hK88 _ _ (wp_ret (zO ( ?_)))
  refine retN (rs := [.cell 4 98, .tmp 5]) (vs := [(.agg #[(.string (bs [])), (.slice none 0 0), (.int .i64 0), (.string (bs [])), (.string (bs [])), (.slice none 0 0), (.slice none 0 0), (.slice none 0 0), (.slice none 0 0), (.string (bs [])), (.slice none 0 0), (.slice none 0 0), (.slice none 0 0), (.bool false), (.slice none 0 0)]), (.bool false)]) rfl hd ⟨⟨_, (zA hN rfl), run_loadA (cs := [(.string (bs [])), (.slice none 0 0), (.int .i64 0), (.string (bs [])), (.string (bs [])), (.slice none 0 0), (.slice none 0 0), (.slice none 0 0), (.slice none 0 0), (.string (bs [])), (.slice none 0 0), (.slice none 0 0), (.slice none 0 0), (.bool false), (.slice none 0 0)]) agg98 rfl (fun j u hu => by rw [Nat.zero_add]; exact hB82.cell hu)⟩, ⟨(zA hN rfl), trivial⟩⟩ rfl ⟨_, rfl, ?_⟩
  exact ⟨hb, rfl⟩
 exact absurd (show (-1 : Int) < 0 by decide) c12
def CheckP (s : XS) : Prop := ∀ ⦃tv : Value⦄ ⦃D : List DTab⦄ ⦃w : World⦄, TsRd w w.heap.size tv D → D.length ≤ 1000000 → (∀ d ∈ D, d.t.cols.length ≤ 1000000 ∧ d.t.idx.length ≤ 1000000) → SRd w w.heap.size s →
  Ret Try.prog 19 #[.agg #[tv, .slice none 0 0], (Value.agg #[(Value.int .i64 s.f.kind), (Value.string (bs s.f.tb)), (Value.string (bs s.f.nm)), s.f.cv, s.f.gv, s.f.vv, s.f.iv, (Value.string (bs s.f.join)), s.f.ov, s.f.wv, s.f.rv, (Value.bool s.f.desc), s.nv])] w (fun v' w' => Below w.heap.size w w' ∧ v' = .int .i64 (checkE (D.map DTab.t) [] s))

theorem Check_in {tv : Value} {D : List DTab} (s : XS) {w : World} (ih : ∀ a ∈ s.inner, CheckP a) (hT : TsRd w w.heap.size tv D) (hD : D.length ≤ 1000000) (hsz : ∀ d ∈ D, d.t.cols.length ≤ 1000000 ∧ d.t.idx.length ≤ 1000000) (he : SRd w w.heap.size s) : Ret Try.prog 19 #[(.agg #[tv, (.slice none 0 0)]), (.agg #[(.int .i64 s.f.kind), (.string (bs s.f.tb)), (.string (bs s.f.nm)), s.f.cv, s.f.gv, s.f.vv, s.f.iv, (.string (bs s.f.join)), s.f.ov, s.f.wv, s.f.rv, (.bool s.f.desc), s.nv])] w (fun v' w' => Below w.heap.size w w' ∧ v' = .int .i64 (checkE (D.map DTab.t) [] s)) := by
 have hR := hT.1
 have hs := he.ff
 obtain ⟨hfc, hfg, hfv, hfi, hfo, hfw, hfr⟩ := hs
 have hfn := he.rd
 have hfvR := hfv.1
 have hfoR := hfo.1
 have hfwR := hfw.1
 have hfrR := hfr.1
 have hnall : SsRd w w.heap.size s.inner := he.all
 have hsz9 : ∀ t ∈ D.map DTab.t, t.cols.length ≤ 1000000 ∧ t.idx.length ≤ 1000000 := fun t ht => by obtain ⟨d, hd, rfl⟩ := List.mem_map.1 ht; exact hsz d hd
 have hb := Below.refl w.heap.size w
 refine enter (N := 69) Try.func19 rfl rfl (by simp) fun a0 hN hd hA => ?_
 have s0 : a0.tmps.getD 0 undef = (.agg #[tv, (.slice none 0 0)]) := hA 0 (by simp)
 have s1 : a0.tmps.getD 1 undef = (.agg #[(.int .i64 s.f.kind), (.string (bs s.f.tb)), (.string (bs s.f.nm)), s.f.cv, s.f.gv, s.f.vv, s.f.iv, (.string (bs s.f.join)), s.f.ov, s.f.wv, s.f.rv, (.bool s.f.desc), s.nv]) := hA 1 (by simp)
 clear hA
 refine zF fun K1 hK1 => ?_
 refine zH ?_
 refine op_box (cs := [tv, (.slice none 0 0)]) (zC hN rfl s0) rfl ?_
 intro w2 b3 lo_b3 hi_b3 hB5 E4
 have := E4.size
 have hT := hT.keep0 E4
 have hR := hR.keep0 E4
 have hfv := hfv.keep0 E4
 have hfo := hfo.keep0 E4
 have hfw := hfw.keep0 E4
 have hfr := hfr.keep0 E4
 have hfi := hfi.keep0 E4
 have hfn := hfn.keep0 E4
 have hnall := hnall.keep0 E4
 have hb := zP hb E4 hb.size
 refine op_box (cs := [(.int .i64 s.f.kind), (.string (bs s.f.tb)), (.string (bs s.f.nm)), s.f.cv, s.f.gv, s.f.vv, s.f.iv, (.string (bs s.f.join)), s.f.ov, s.f.wv, s.f.rv, (.bool s.f.desc), s.nv]) (zC hN rfl s1) rfl ?_
 intro w6 b7 lo_b7 hi_b7 hB9 E8
 have := E8.size
 have hT := hT.keep0 E8
 have hR := hR.keep0 E8
 have hfv := hfv.keep0 E8
 have hfo := hfo.keep0 E8
 have hfw := hfw.keep0 E8
 have hfr := hfr.keep0 E8
 have hfi := hfi.keep0 E8
 have hfn := hfn.keep0 E8
 have hnall := hnall.keep0 E8
 have hB5 := hB5.keep0 E8
 have hb := zP hb E8 hb.size
 refine zD rfl ?_
 refine zB ?_
 refine hK1 _ _ (zF fun K10 hK10 => ?_)
 refine zF fun K11 hK11 => ?_
 refine zH ?_
 refine zY agg45 rfl (zA hN rfl) hB9 ?_
 refine zj ok41 (lists_ret hfv hfo hfw hfr hfn zx) ⟨(zA hN rfl), trivial⟩ ?_
 rintro _ w12 ⟨E13, rfl⟩
 have E13 := zQ E13
 have := E13.size
 have hT := hT.keep0 E13
 have hR := hR.keep0 E13
 have hfv := hfv.keep0 E13
 have hfo := hfo.keep0 E13
 have hfw := hfw.keep0 E13
 have hfr := hfr.keep0 E13
 have hfi := hfi.keep0 E13
 have hfn := hfn.keep0 E13
 have hnall := hnall.keep0 E13
 obtain ⟨hB5, hB9⟩ := kb2 E13 hB5 hB9
 have hb := zP hb E13 hb.size
 rcases Bool.eq_false_or_eq_true ((listsOk s.f s.inner.length)) with c11 | c11
 ·
  rw [c11]
  refine op_not (zA hN rfl) ?_
  refine zB ?_
  refine hK11 _ _ (wp_cond_false (zA hN rfl) (wp_skip (hK10 _ _ (zF fun K14 hK14 => ?_))))
  refine zH ?_
  refine zY agg39 rfl (zA hN rfl) hB5 ?_
  refine zf (pv := [(0, (.agg #[tv, (.slice none 0 0)]))]) (v := (Value.agg #[tv, (.slice none 0 0), (.slice none 0 0), (.slice none 0 0)])) ⟨rfl, (zA hN rfl), trivial⟩ (by obtain ⟨_, _, _, rfl⟩ := hR.sl; kernel_rfl) ?_
  refine op_box (cs := [tv, (.slice none 0 0), (.slice none 0 0), (.slice none 0 0)]) (zA hN rfl) rfl ?_
  intro w15 b16 lo_b16 hi_b16 hB18 E17
  have := E17.size
  have hT := hT.keep0 E17
  have hfv := hfv.keep0 E17
  have hfo := hfo.keep0 E17
  have hfw := hfw.keep0 E17
  have hfr := hfr.keep0 E17
  have hfi := hfi.keep0 E17
  have hfn := hfn.keep0 E17
  have hnall := hnall.keep0 E17
  obtain ⟨hB5, hB9⟩ := kb2 E17 hB5 hB9
  have hb := zP hb E17 hb.size
  refine zD (zA hN rfl) ?_
  refine zB ?_
  refine hK14 _ _ (zF fun K19 hK19 => ?_)
  refine zF fun K20 hK20 => ?_
  refine zH ?_
  have hL : LookR w15 w.heap.size b16 tv (.slice none 0 0) [] [] (fun y => y = b16 ∨ Bl (.slice none 0 0) y ∨ Bl (.slice none 0 0) y) := ⟨_, _, by omega, hB18, Own.nil _ _ _ _, Own.nil _ _ _ _, fun _ => Iff.rfl⟩
  generalize hFL : (fun y => y = b16 ∨ Bl (.slice none 0 0) y ∨ Bl (.slice none 0 0) y) = FL at hL
  have dj22 : ¬ FL b7 := fun h => by rw [← hFL] at h; exact h.elim (fun h => by omega) fun h => h.elim (fun h => (by cases h)) fun h => (by cases h)
  refine zM fld45_0 (zA hN rfl) ?_
  refine zN (v := (Value.int .i64 s.f.kind)) one3 (zA hN rfl) (hB9.cell rfl) ?_
  refine zB ?_
  refine hK20 _ _ (wp_block ?_)
  refine zF fun K23 hK23 => ?_
  refine zH ?_
  refine op_eql (zA hN rfl) rfl (fun c19 => ?_) (fun c19 => ?_)
  ·
   refine zD (zA hN rfl) ?_
   refine zB ?_
   refine hK23 _ _ (wp_cond_true (zA hN rfl) (zF fun K24 hK24 => ?_))
   refine zH ?_
   refine zG (zA hN rfl) ?_
   refine zY agg45 rfl (zA hN rfl) hB9 ?_
   refine zj ok42 (lkIns (f := s.f) (hT.mono zx) hD hsz zx hL (hfv.mono zx)) ⟨(zA hN rfl), ⟨(zA hN rfl), trivial⟩⟩ ?_
   rintro _ w25 ⟨E26, rfl⟩
   have hL_old := hL
   have := E26.size
   have hnall := hnall.keepG E26 (fun k hk => .inr (by have := hL_old.lt k hk; omega))
   have hb := below_stepG hb E26 hb.size (fun k hk => (hL_old.lt k hk).1)
   refine zD (zA hN rfl) ?_
   refine zB ?_
   refine hK24 _ _ (wp_ret (zb (zO ( ?_))))
   refine ret1 rfl hd (zA hN rfl) ⟨_, rfl, ?_⟩
   have e9 : checkE (D.map DTab.t) [] s = (match tabAt (D.map DTab.t) s.f.tb with | none => (9 : Int) | some t => insE t s.f) := (check_flat c11 zx).trans (flat_ins c19)
   rw [e9]; exact ⟨hb, rfl⟩
  refine zD (zA hN rfl) ?_
  refine zB ?_
  refine hK23 _ _ (wp_cond_false (zA hN rfl) (zF fun K27 hK27 => ?_))
  refine zH ?_
  refine op_eql (zA hN rfl) rfl (fun c24 => ?_) (fun c24 => ?_)
  ·
   refine zD (zA hN rfl) ?_
   refine zB ?_
   refine hK27 _ _ (wp_cond_true (zA hN rfl) (zF fun K28 hK28 => ?_))
   refine zH ?_
   refine zG (zA hN rfl) ?_
   refine zY agg45 rfl (zA hN rfl) hB9 ?_
   refine zj ok43 (lkSel (f := s.f) (hT.mono zx) hD hsz zx hL (hfo.mono zx) (hfw.mono zx) (hfr.mono zx) (hfi.mono (Nat.zero_le _) zx) (lists_on c11 c24)) ⟨(zA hN rfl), ⟨(zA hN rfl), trivial⟩⟩ ?_
   rintro _ w29 ⟨E30, rfl⟩
   have hL_old := hL
   have := E30.size
   have hnall := hnall.keepG E30 (fun k hk => .inr (by have := hL_old.lt k hk; omega))
   have hb := below_stepG hb E30 hb.size (fun k hk => (hL_old.lt k hk).1)
   refine zD (zA hN rfl) ?_
   refine zB ?_
   refine hK28 _ _ (wp_ret (zb (zO ( ?_))))
   refine ret1 rfl hd (zA hN rfl) ⟨_, rfl, ?_⟩
   have e9 : checkE (D.map DTab.t) [] s = (selsE (D.map DTab.t) s.f) := (check_flat c11 zx).trans (flat_sel c24)
   rw [e9]; exact ⟨hb, rfl⟩
  refine zD (zA hN rfl) ?_
  refine zB ?_
  refine hK27 _ _ (wp_cond_false (zA hN rfl) (zF fun K31 hK31 => ?_))
  refine zH ?_
  refine op_eql (zA hN rfl) rfl (fun c29 => ?_) (fun c29 => ?_)
  ·
   refine zD (zA hN rfl) ?_
   refine zB ?_
   refine hK31 _ _ (wp_cond_true (zA hN rfl) (zF fun K32 hK32 => ?_))
   refine zH ?_
   refine zG (zA hN rfl) ?_
   refine zY agg45 rfl (zA hN rfl) hB9 ?_
   refine zj ok44 (lkUpd (f := s.f) (hT.mono zx) hD hsz zx hL (hfv.mono zx) (hfw.mono zx) (lists_upd c11 c29)) ⟨(zA hN rfl), ⟨(zA hN rfl), trivial⟩⟩ ?_
   rintro _ w33 ⟨E34, rfl⟩
   have hL_old := hL
   have := E34.size
   have hnall := hnall.keepG E34 (fun k hk => .inr (by have := hL_old.lt k hk; omega))
   have hb := below_stepG hb E34 hb.size (fun k hk => (hL_old.lt k hk).1)
   refine zD (zA hN rfl) ?_
   refine zB ?_
   refine hK32 _ _ (wp_ret (zb (zO ( ?_))))
   refine ret1 rfl hd (zA hN rfl) ⟨_, rfl, ?_⟩
   have e9 : checkE (D.map DTab.t) [] s = (match tabAt (D.map DTab.t) s.f.tb with | none => (9 : Int) | some t => updE t s.f) := (check_flat c11 zx).trans (flat_upd c29)
   rw [e9]; exact ⟨hb, rfl⟩
  refine zD (zA hN rfl) ?_
  refine zB ?_
  refine hK31 _ _ (wp_cond_false (zA hN rfl) (zF fun K35 hK35 => ?_))
  refine zH ?_
  refine op_eql (zA hN rfl) rfl (fun c34 => ?_) (fun c34 => ?_)
  ·
   refine zD (zA hN rfl) ?_
   refine zB ?_
   refine hK35 _ _ (wp_cond_true (zA hN rfl) (zF fun K36 hK36 => ?_))
   refine zF fun K37 hK37 => ?_
   refine zH ?_
   refine zG (zA hN rfl) ?_
   refine zM fld45_1 (zA hN rfl) ?_
   refine zN (v := (Value.string (bs s.f.tb))) one9 (zA hN rfl) (hB9.cell rfl) ?_
   rcases Bool.eq_false_or_eq_true ((tabAt (D.map DTab.t) s.f.tb).isSome) with k39 | k39
   ·
    refine zj ok45 (lookTableT k39 (hT.mono zx) hD hsz zx hL (by simp) (by simp)) ⟨(zA hN rfl), ⟨(zA hN rfl), trivial⟩⟩ ?_
    rintro _ w39 ⟨E40, d38, rfl, ht38, hO38, hP38, F38, hL38, hN38⟩
    have bd43 := hB5.lt
    have bd44 := hB9.lt
    have hL_old := hL
    have := E40.size
    have hfw := hfw.keepG E40 (fun k hk => .inr (by have := hL_old.lt k hk; omega))
    have hnall := hnall.keepG E40 (fun k hk => .inr (by have := hL_old.lt k hk; omega))
    have hB9 := hB9.keepG E40 dj22
    have hb := below_stepG hb E40 hb.size (fun k hk => (hL_old.lt k hk).1)
    have hO38 := hO38.mono (base' := w.heap.size) zx
    have hP38 := hP38.mono (base' := w.heap.size) zx
    refine zG (zA hN rfl) ?_
    refine zW (zA hN rfl) rfl ?_
    refine zW (zA hN rfl) rfl ?_
    refine op_alloc (cs := [(.string (bs [])), (.slice none 0 0), (.slice none 0 0)]) zero55 rfl ?_
    intro w47 b48 lo_b48 hi_b48 hB50 E49
    have dj51 : ¬ F38 b48 := fun hf => by have := (hL38.lt _ hf).2; omega
    have := E49.size
    have hfw := hfw.keep0 E49
    have hnall := hnall.keep0 E49
    have hB9 := hB9.keep0 E49
    have hL38 := hL38.keepG (zi E49 NoB) (fun _ _ h => h)
    have hO38 := hO38.keep0 E49
    have hP38 := hP38.keep0 E49
    have hb := zP hb E49 hb.size
    have hB50_old := hB50
    refine zZ size55 (zA hN rfl) (zA hN rfl) rfl (by simp only [List.all_cons, List.all_nil, Bool.true_and, Bool.and_true, hO38.one, hP38.one]; try rfl) hB50 rfl ?_
    intro w54 hB50 E55
    have := E55.size
    have hfw := hfw.keep E55 sR
    have hnall := hnall.keep E55 sR
    have hB9 := hB9.keep E55 (sN hB9 hB50_old)
    have hL38 := hL38.keepG (Gr.of E55) (Dj.one dj51)
    have hb := below_step1 hb E55 hb.size zx
    refine zD (zA hN rfl) ?_
    refine zB ?_
    refine hK37 _ _ (zF fun K56 hK56 => ?_)
    refine zH ?_
    refine zG (zA hN rfl) ?_
    refine op_bin (v := .bool false) (zA hN rfl) rfl (by rw [binOp_neq]; rfl) (zB ?_)
    refine hK56 _ _ (wp_cond_false (zA hN rfl) (wp_skip (hK36 _ _ (zF fun K57 hK57 => ?_))))
    refine zH ?_
    have hdl := (hsz9 _ (tab_mem ht38)).1
    have hcl9 : ([] ++ colsOf s.f.tb d38.t.cols).length = d38.t.cols.length := by rw [List.nil_append, cols_len]
    have hkl9 : ([] ++ kindsOf d38.t.cols).length = d38.t.cols.length := by rw [List.nil_append, kinds_len]
    refine zG (zA hN rfl) ?_
    refine zM fld45_9 (zA hN rfl) ?_
    refine zN (v := s.f.wv) one26 (zA hN rfl) (hB9.cell rfl) ?_
    refine zj ok46 (lkWhere zx hL38 zx zx (hfw.mono zx)) ⟨(zA hN rfl), ⟨(zA hN rfl), trivial⟩⟩ ?_
    rintro _ w58 ⟨E59, rfl⟩
    have E59 := zQ E59
    have := E59.size
    have hnall := hnall.keep0 E59
    have hb := zP hb E59 hb.size
    refine zD (zA hN rfl) ?_
    refine zB ?_
    refine hK57 _ _ (wp_ret (zb (zO ( ?_))))
    refine ret1 rfl hd (zA hN rfl) ⟨_, rfl, ?_⟩
    have e9 : checkE (D.map DTab.t) [] s = (whereX (colsOf s.f.tb d38.t.cols) (kindsOf d38.t.cols) s.f.wh) := (check_flat c11 zx).trans (flat_del c34 ht38)
    rw [e9]; exact ⟨hb, rfl⟩
   refine zj ok45 (lookTableF k39 (hT.mono zx) hD hsz zx hL (by simp) (by simp)) ⟨(zA hN rfl), ⟨(zA hN rfl), trivial⟩⟩ ?_
   rintro _ w61 ⟨E62, rfl, F60, hL60, hN60⟩
   have bd63 := hB5.lt
   have bd64 := hB9.lt
   have hL_old := hL
   have := E62.size
   have hnall := hnall.keepG E62 (fun k hk => .inr (by have := hL_old.lt k hk; omega))
   have hb := below_stepG hb E62 hb.size (fun k hk => (hL_old.lt k hk).1)
   refine zG (zA hN rfl) ?_
   refine zW (zA hN rfl) rfl ?_
   refine zW (zA hN rfl) rfl ?_
   refine op_alloc (cs := [(.string (bs [])), (.slice none 0 0), (.slice none 0 0)]) zero55 rfl ?_
   intro w67 b68 lo_b68 hi_b68 hB70 E69
   have := E69.size
   have hnall := hnall.keep0 E69
   have hb := zP hb E69 hb.size
   refine zZ size55 (zA hN rfl) (zA hN rfl) rfl rfl hB70 rfl ?_
   intro w74 hB70 E75
   have := E75.size
   have hnall := hnall.keep E75 sR
   have hb := below_step1 hb E75 hb.size zx
   refine zD (zA hN rfl) ?_
   refine zB ?_
   refine hK37 _ _ (zF fun K76 hK76 => ?_)
   refine zH ?_
   refine zG (zA hN rfl) ?_
   refine op_bin (v := .bool true) (zA hN rfl) rfl (by rw [binOp_neq]; rfl) (zB ?_)
   refine hK76 _ _ (wp_cond_true (zA hN rfl) (zF fun K77 hK77 => ?_))
   refine zH ?_
   refine zG (zA hN rfl) ?_
   refine zD (zA hN rfl) ?_
   refine zB ?_
   refine hK77 _ _ (wp_ret (zO (zb (zO ( ?_)))))
   refine ret1 rfl hd (zA hN rfl) ⟨_, rfl, ?_⟩
   have e9 : checkE (D.map DTab.t) [] s = 9 := (check_flat c11 zx).trans (flat_del0 c34 k39)
   rw [e9]; exact ⟨hb, rfl⟩
  refine zD (zA hN rfl) ?_
  refine zB ?_
  refine hK35 _ _ (wp_cond_false (zA hN rfl) (zF fun K78 hK78 => ?_))
  refine zF fun K79 hK79 => ?_
  refine zH ?_
  refine op_eql (zA hN rfl) rfl (fun c50 => ?_) (fun c50 => ?_)
  ·
   refine zD (zA hN rfl) ?_
   refine zB ?_
   refine hK79 _ _ (wp_cond_true (zA hN rfl) (wp_skip (hK78 _ _ (wp_cond_true (zA hN rfl) (zF fun K80 hK80 => ?_)))))
   have hin := lists_in c11 zx
   refine reg_quiet (Φ := phiL [(fun uz _ => uz = (.agg #[tv, (.slice none 0 0)])), (fun uz _ => uz = (ptr b7 12)), (fun uz _ => uz = s.nv), (fun uz w' => ∃ (b81 : (Nat)) (o82 : (Nat)), uz = (ptr b81 o82) ∧ PtC w' 0 w.heap.size b81 o82 [(.int .i64 (s.inner.getD 0 default).f.kind), (.string (bs (s.inner.getD 0 default).f.tb)), (.string (bs (s.inner.getD 0 default).f.nm)), (s.inner.getD 0 default).f.cv, (s.inner.getD 0 default).f.gv, (s.inner.getD 0 default).f.vv, (s.inner.getD 0 default).f.iv, (.string (bs (s.inner.getD 0 default).f.join)), (s.inner.getD 0 default).f.ov, (s.inner.getD 0 default).f.wv, (s.inner.getD 0 default).f.rv, (.bool (s.inner.getD 0 default).f.desc), (s.inner.getD 0 default).nv]), (fun uz _ => uz = (.agg #[(.int .i64 (s.inner.getD 0 default).f.kind), (.string (bs (s.inner.getD 0 default).f.tb)), (.string (bs (s.inner.getD 0 default).f.nm)), (s.inner.getD 0 default).f.cv, (s.inner.getD 0 default).f.gv, (s.inner.getD 0 default).f.vv, (s.inner.getD 0 default).f.iv, (.string (bs (s.inner.getD 0 default).f.join)), (s.inner.getD 0 default).f.ov, (s.inner.getD 0 default).f.wv, (s.inner.getD 0 default).f.rv, (.bool (s.inner.getD 0 default).f.desc), (s.inner.getD 0 default).nv])), (fun uz _ => uz = (.int .i64 (checkE (D.map DTab.t) [] (s.inner.getD 0 default)))), (fun uz _ => uz = (.int .i64 (checkE (D.map DTab.t) [] (s.inner.getD 0 default))))]) mixed zy zy zy hN (StL.get (StL.eq (StL.eq (StL.eq (StL.cons (fun u w1 w2 E h => by obtain ⟨x0, x1, hv, f0⟩ := h; exact ⟨x0, x1, hv, f0.keep0 E⟩) (StL.eq (StL.eq (StL.eq (StL.nil _))))))))) (ObL.get (s := 7) (ObL.cons ?_ (ObL.cons ?_ (ObL.cons ?_ (ObL.cons ?_ (ObL.cons ?_ (ObL.cons ?_ (ObL.cons ?_ (ObL.nil)))))))) rfl) ?_
   ·
    intro aA wA hNA hRA hbsA hdpA
    have hRA : w15.grownBy wA none := hRA
    have := hRA.size
    have hnall := hnall.keep0 hRA
    have hB5 := hB5.keep0 hRA
    have qA_2 := (hbsA 2 rfl).trans (zU hN rfl)
    clear hbsA hdpA
    refine zY agg39 rfl (zC hNA rfl qA_2) hB5 ?_
    exact obN_end rfl rfl (grown_refl _ _)
   ·
    intro aA wA hNA hRA hbsA hdpA
    have qA_3 := (hbsA 3 rfl).trans (zU hN rfl)
    refine zM fld45_12 (zC hNA rfl qA_3) ?_
    exact obN_end rfl rfl (grown_refl _ _)
   ·
    intro aA wA hNA hRA hbsA hdpA
    have hRA : w15.grownBy wA none := hRA
    have := hRA.size
    have hnall := hnall.keep0 hRA
    have hB9 := hB9.keep0 hRA
    have qA_53 : Sl aA 53 (ptr b7 12) := hdpA 1 _ 53 zy rfl rfl
    clear hbsA hdpA
    refine zN (v := s.nv) one43 (zC hNA rfl qA_53) (hB9.cell rfl) ?_
    exact obN_end rfl rfl (grown_refl _ _)
   ·
    intro aA wA hNA hRA hbsA hdpA
    have hRA : w15.grownBy wA none := hRA
    have := hRA.size
    have hfn := hfn.keep0 hRA
    have hnall := hnall.keep0 hRA
    have qA_54 : Sl aA 54 s.nv := hdpA 2 _ 54 zy rfl rfl
    clear hbsA hdpA
    refine zh slt43 (zC hNA rfl qA_54) hfn rfl zx zx ?_
    intro b81 o82 h0b81 h1b81 hc83
    have hp84 : PtC wA 0 w.heap.size b81 o82 [(.int .i64 (s.inner.getD 0 default).f.kind), (.string (bs (s.inner.getD 0 default).f.tb)), (.string (bs (s.inner.getD 0 default).f.nm)), (s.inner.getD 0 default).f.cv, (s.inner.getD 0 default).f.gv, (s.inner.getD 0 default).f.vv, (s.inner.getD 0 default).f.iv, (.string (bs (s.inner.getD 0 default).f.join)), (s.inner.getD 0 default).f.ov, (s.inner.getD 0 default).f.wv, (s.inner.getD 0 default).f.rv, (.bool (s.inner.getD 0 default).f.desc), (s.inner.getD 0 default).nv] := ⟨by omega, by omega, fun j u hu => hc83 j u (by have := (List.getElem?_eq_some_iff.1 hu).1; simpa using this) ((el_xs (i := 0) zx zx) j u hu)⟩
    exact obN_end rfl ⟨b81, o82, rfl, hp84⟩ (grown_refl _ _)
   ·
    intro aA wA hNA hRA hbsA hdpA
    have hRA : w15.grownBy wA none := hRA
    have := hRA.size
    have hnall := hnall.keep0 hRA
    obtain ⟨b81, o82, qA_55, hp84⟩ := hdpA 3 _ 55 zy rfl rfl
    have hp84 : PtC wA 0 w.heap.size b81 o82 [(.int .i64 (s.inner.getD 0 default).f.kind), (.string (bs (s.inner.getD 0 default).f.tb)), (.string (bs (s.inner.getD 0 default).f.nm)), (s.inner.getD 0 default).f.cv, (s.inner.getD 0 default).f.gv, (s.inner.getD 0 default).f.vv, (s.inner.getD 0 default).f.iv, (.string (bs (s.inner.getD 0 default).f.join)), (s.inner.getD 0 default).f.ov, (s.inner.getD 0 default).f.wv, (s.inner.getD 0 default).f.rv, (.bool (s.inner.getD 0 default).f.desc), (s.inner.getD 0 default).nv] := hp84
    clear hbsA hdpA
    refine zX (cs := [(.int .i64 (s.inner.getD 0 default).f.kind), (.string (bs (s.inner.getD 0 default).f.tb)), (.string (bs (s.inner.getD 0 default).f.nm)), (s.inner.getD 0 default).f.cv, (s.inner.getD 0 default).f.gv, (s.inner.getD 0 default).f.vv, (s.inner.getD 0 default).f.iv, (.string (bs (s.inner.getD 0 default).f.join)), (s.inner.getD 0 default).f.ov, (s.inner.getD 0 default).f.wv, (s.inner.getD 0 default).f.rv, (.bool (s.inner.getD 0 default).f.desc), (s.inner.getD 0 default).nv]) agg45 rfl (zC hNA rfl qA_55) (fun j u hu => hp84.2.2 j u hu) ?_
    exact obN_end rfl rfl (grown_refl _ _)
   ·
    intro aA wA hNA hRA hbsA hdpA
    have hRA : w15.grownBy wA none := hRA
    have := hRA.size
    have hT := hT.keep0 hRA
    have hnall := hnall.keep0 hRA
    have qA_52 : Sl aA 52 (.agg #[tv, (.slice none 0 0)]) := hdpA 0 _ 52 zy rfl rfl
    have qA_56 : Sl aA 56 (.agg #[(.int .i64 (s.inner.getD 0 default).f.kind), (.string (bs (s.inner.getD 0 default).f.tb)), (.string (bs (s.inner.getD 0 default).f.nm)), (s.inner.getD 0 default).f.cv, (s.inner.getD 0 default).f.gv, (s.inner.getD 0 default).f.vv, (s.inner.getD 0 default).f.iv, (.string (bs (s.inner.getD 0 default).f.join)), (s.inner.getD 0 default).f.ov, (s.inner.getD 0 default).f.wv, (s.inner.getD 0 default).f.rv, (.bool (s.inner.getD 0 default).f.desc), (s.inner.getD 0 default).nv]) := hdpA 4 _ 56 zy rfl rfl
    clear hbsA hdpA
    refine zj ok19 (ih _ (getD_mem zx) (hT.mono zx) hD hsz ((hnall _ (getD_mem zx)).mono zx)) ⟨(zC hNA rfl qA_52), ⟨(zC hNA rfl qA_56), trivial⟩⟩ ?_
    rintro _ w85 ⟨E86, rfl⟩
    have E86 := zQ E86
    have := E86.size
    have hnall := hnall.keep0 E86
    exact obN_end rfl rfl (E86)
   ·
    intro aA wA hNA hRA hbsA hdpA
    have qA_57 : Sl aA 57 (.int .i64 (checkE (D.map DTab.t) [] (s.inner.getD 0 default))) := hdpA 5 _ 57 zy rfl rfl
    refine zD (zC hNA rfl qA_57) ?_
    exact obN_end rfl rfl (grown_refl _ _)
   intro a87 w87 hN87 hd87 hbs87 hph87 E87
   have hd87 := hd87.trans hd
   have s87_4 : Sl a87 4 (.int .i64 (checkE (D.map DTab.t) [] (s.inner.getD 0 default))) := hph87 6 _ 4 rfl rfl
   clear hbs87 hph87
   have E87 : w15.grownBy w87 none := E87
   have := E87.size
   have hnall := hnall.keep0 E87
   have hb := zP hb E87 hb.size
   refine hK80 _ _ (wp_ret (zb (zO ( ?_))))
   refine ret1 rfl hd87 (zC hN87 rfl s87_4) ⟨_, rfl, ?_⟩
   have e9 : checkE (D.map DTab.t) [] s = (checkE (D.map DTab.t) [] (s.inner.getD 0 default)) := check_in c11 zx
   rw [e9]; exact ⟨hb, rfl⟩
  refine zD (zA hN rfl) ?_
  refine zB ?_
  refine hK79 _ _ (wp_cond_false (zA hN rfl) (zH ?_))
  refine op_eql (zA hN rfl) rfl (fun c51 => ?_) (fun c51 => ?_)
  ·
   refine zD (zA hN rfl) ?_
   refine zB ?_
   refine hK78 _ _ (wp_cond_true (zA hN rfl) (zF fun K88 hK88 => ?_))
   have hin := lists_in c11 zx
   refine reg_quiet (Φ := phiL [(fun uz _ => uz = (.agg #[tv, (.slice none 0 0)])), (fun uz _ => uz = (ptr b7 12)), (fun uz _ => uz = s.nv), (fun uz w' => ∃ (b89 : (Nat)) (o90 : (Nat)), uz = (ptr b89 o90) ∧ PtC w' 0 w.heap.size b89 o90 [(.int .i64 (s.inner.getD 0 default).f.kind), (.string (bs (s.inner.getD 0 default).f.tb)), (.string (bs (s.inner.getD 0 default).f.nm)), (s.inner.getD 0 default).f.cv, (s.inner.getD 0 default).f.gv, (s.inner.getD 0 default).f.vv, (s.inner.getD 0 default).f.iv, (.string (bs (s.inner.getD 0 default).f.join)), (s.inner.getD 0 default).f.ov, (s.inner.getD 0 default).f.wv, (s.inner.getD 0 default).f.rv, (.bool (s.inner.getD 0 default).f.desc), (s.inner.getD 0 default).nv]), (fun uz _ => uz = (.agg #[(.int .i64 (s.inner.getD 0 default).f.kind), (.string (bs (s.inner.getD 0 default).f.tb)), (.string (bs (s.inner.getD 0 default).f.nm)), (s.inner.getD 0 default).f.cv, (s.inner.getD 0 default).f.gv, (s.inner.getD 0 default).f.vv, (s.inner.getD 0 default).f.iv, (.string (bs (s.inner.getD 0 default).f.join)), (s.inner.getD 0 default).f.ov, (s.inner.getD 0 default).f.wv, (s.inner.getD 0 default).f.rv, (.bool (s.inner.getD 0 default).f.desc), (s.inner.getD 0 default).nv])), (fun uz _ => uz = (.int .i64 (checkE (D.map DTab.t) [] (s.inner.getD 0 default)))), (fun uz _ => uz = (.int .i64 (checkE (D.map DTab.t) [] (s.inner.getD 0 default))))]) mixed zy zy zy hN (StL.get (StL.eq (StL.eq (StL.eq (StL.cons (fun u w1 w2 E h => by obtain ⟨x0, x1, hv, f0⟩ := h; exact ⟨x0, x1, hv, f0.keep0 E⟩) (StL.eq (StL.eq (StL.eq (StL.nil _))))))))) (ObL.get (s := 7) (ObL.cons ?_ (ObL.cons ?_ (ObL.cons ?_ (ObL.cons ?_ (ObL.cons ?_ (ObL.cons ?_ (ObL.cons ?_ (ObL.nil)))))))) rfl) ?_
   ·
    intro aA wA hNA hRA hbsA hdpA
    have hRA : w15.grownBy wA none := hRA
    have := hRA.size
    have hnall := hnall.keep0 hRA
    have hB5 := hB5.keep0 hRA
    have qA_2 := (hbsA 2 rfl).trans (zU hN rfl)
    clear hbsA hdpA
    refine zY agg39 rfl (zC hNA rfl qA_2) hB5 ?_
    exact obN_end rfl rfl (grown_refl _ _)
   ·
    intro aA wA hNA hRA hbsA hdpA
    have qA_3 := (hbsA 3 rfl).trans (zU hN rfl)
    refine zM fld45_12 (zC hNA rfl qA_3) ?_
    exact obN_end rfl rfl (grown_refl _ _)
   ·
    intro aA wA hNA hRA hbsA hdpA
    have hRA : w15.grownBy wA none := hRA
    have := hRA.size
    have hnall := hnall.keep0 hRA
    have hB9 := hB9.keep0 hRA
    have qA_53 : Sl aA 53 (ptr b7 12) := hdpA 1 _ 53 zy rfl rfl
    clear hbsA hdpA
    refine zN (v := s.nv) one43 (zC hNA rfl qA_53) (hB9.cell rfl) ?_
    exact obN_end rfl rfl (grown_refl _ _)
   ·
    intro aA wA hNA hRA hbsA hdpA
    have hRA : w15.grownBy wA none := hRA
    have := hRA.size
    have hfn := hfn.keep0 hRA
    have hnall := hnall.keep0 hRA
    have qA_54 : Sl aA 54 s.nv := hdpA 2 _ 54 zy rfl rfl
    clear hbsA hdpA
    refine zh slt43 (zC hNA rfl qA_54) hfn rfl zx zx ?_
    intro b89 o90 h0b89 h1b89 hc91
    have hp92 : PtC wA 0 w.heap.size b89 o90 [(.int .i64 (s.inner.getD 0 default).f.kind), (.string (bs (s.inner.getD 0 default).f.tb)), (.string (bs (s.inner.getD 0 default).f.nm)), (s.inner.getD 0 default).f.cv, (s.inner.getD 0 default).f.gv, (s.inner.getD 0 default).f.vv, (s.inner.getD 0 default).f.iv, (.string (bs (s.inner.getD 0 default).f.join)), (s.inner.getD 0 default).f.ov, (s.inner.getD 0 default).f.wv, (s.inner.getD 0 default).f.rv, (.bool (s.inner.getD 0 default).f.desc), (s.inner.getD 0 default).nv] := ⟨by omega, by omega, fun j u hu => hc91 j u (by have := (List.getElem?_eq_some_iff.1 hu).1; simpa using this) ((el_xs (i := 0) zx zx) j u hu)⟩
    exact obN_end rfl ⟨b89, o90, rfl, hp92⟩ (grown_refl _ _)
   ·
    intro aA wA hNA hRA hbsA hdpA
    have hRA : w15.grownBy wA none := hRA
    have := hRA.size
    have hnall := hnall.keep0 hRA
    obtain ⟨b89, o90, qA_55, hp92⟩ := hdpA 3 _ 55 zy rfl rfl
    have hp92 : PtC wA 0 w.heap.size b89 o90 [(.int .i64 (s.inner.getD 0 default).f.kind), (.string (bs (s.inner.getD 0 default).f.tb)), (.string (bs (s.inner.getD 0 default).f.nm)), (s.inner.getD 0 default).f.cv, (s.inner.getD 0 default).f.gv, (s.inner.getD 0 default).f.vv, (s.inner.getD 0 default).f.iv, (.string (bs (s.inner.getD 0 default).f.join)), (s.inner.getD 0 default).f.ov, (s.inner.getD 0 default).f.wv, (s.inner.getD 0 default).f.rv, (.bool (s.inner.getD 0 default).f.desc), (s.inner.getD 0 default).nv] := hp92
    clear hbsA hdpA
    refine zX (cs := [(.int .i64 (s.inner.getD 0 default).f.kind), (.string (bs (s.inner.getD 0 default).f.tb)), (.string (bs (s.inner.getD 0 default).f.nm)), (s.inner.getD 0 default).f.cv, (s.inner.getD 0 default).f.gv, (s.inner.getD 0 default).f.vv, (s.inner.getD 0 default).f.iv, (.string (bs (s.inner.getD 0 default).f.join)), (s.inner.getD 0 default).f.ov, (s.inner.getD 0 default).f.wv, (s.inner.getD 0 default).f.rv, (.bool (s.inner.getD 0 default).f.desc), (s.inner.getD 0 default).nv]) agg45 rfl (zC hNA rfl qA_55) (fun j u hu => hp92.2.2 j u hu) ?_
    exact obN_end rfl rfl (grown_refl _ _)
   ·
    intro aA wA hNA hRA hbsA hdpA
    have hRA : w15.grownBy wA none := hRA
    have := hRA.size
    have hT := hT.keep0 hRA
    have hnall := hnall.keep0 hRA
    have qA_52 : Sl aA 52 (.agg #[tv, (.slice none 0 0)]) := hdpA 0 _ 52 zy rfl rfl
    have qA_56 : Sl aA 56 (.agg #[(.int .i64 (s.inner.getD 0 default).f.kind), (.string (bs (s.inner.getD 0 default).f.tb)), (.string (bs (s.inner.getD 0 default).f.nm)), (s.inner.getD 0 default).f.cv, (s.inner.getD 0 default).f.gv, (s.inner.getD 0 default).f.vv, (s.inner.getD 0 default).f.iv, (.string (bs (s.inner.getD 0 default).f.join)), (s.inner.getD 0 default).f.ov, (s.inner.getD 0 default).f.wv, (s.inner.getD 0 default).f.rv, (.bool (s.inner.getD 0 default).f.desc), (s.inner.getD 0 default).nv]) := hdpA 4 _ 56 zy rfl rfl
    clear hbsA hdpA
    refine zj ok19 (ih _ (getD_mem zx) (hT.mono zx) hD hsz ((hnall _ (getD_mem zx)).mono zx)) ⟨(zC hNA rfl qA_52), ⟨(zC hNA rfl qA_56), trivial⟩⟩ ?_
    rintro _ w93 ⟨E94, rfl⟩
    have E94 := zQ E94
    have := E94.size
    have hnall := hnall.keep0 E94
    exact obN_end rfl rfl (E94)
   ·
    intro aA wA hNA hRA hbsA hdpA
    have qA_57 : Sl aA 57 (.int .i64 (checkE (D.map DTab.t) [] (s.inner.getD 0 default))) := hdpA 5 _ 57 zy rfl rfl
    refine zD (zC hNA rfl qA_57) ?_
    exact obN_end rfl rfl (grown_refl _ _)
   intro a95 w95 hN95 hd95 hbs95 hph95 E95
   have hd95 := hd95.trans hd
   have s95_4 : Sl a95 4 (.int .i64 (checkE (D.map DTab.t) [] (s.inner.getD 0 default))) := hph95 6 _ 4 rfl rfl
   clear hbs95 hph95
   have E95 : w15.grownBy w95 none := E95
   have := E95.size
   have hnall := hnall.keep0 E95
   have hb := zP hb E95 hb.size
   refine hK88 _ _ (wp_ret (zb (zO ( ?_))))
   refine ret1 rfl hd95 (zC hN95 rfl s95_4) ⟨_, rfl, ?_⟩
   have e9 : checkE (D.map DTab.t) [] s = (checkE (D.map DTab.t) [] (s.inner.getD 0 default)) := check_in c11 zx
   rw [e9]; exact ⟨hb, rfl⟩
  refine zD (zA hN rfl) ?_
  refine zB ?_
  refine hK78 _ _ (wp_cond_false (zA hN rfl) (zF fun K96 hK96 => ?_))
  refine zH ?_
  refine op_eql (zA hN rfl) rfl (fun c59 => ?_) (fun c59 => ?_)
  ·
   refine zD (zA hN rfl) ?_
   refine zB ?_
   refine hK96 _ _ (wp_cond_true (zA hN rfl) (zF fun K97 hK97 => ?_))
   refine zH ?_
   refine zY agg39 rfl (zA hN rfl) hB5 ?_
   refine zM fld45_2 (zA hN rfl) ?_
   refine zN (v := (Value.string (bs s.f.nm))) one9 (zA hN rfl) (hB9.cell rfl) ?_
   refine zj ok47 (View0 tv s.f.nm _) ⟨(zA hN rfl), ⟨(zA hN rfl), trivial⟩⟩ ?_
   rintro _ w98 ⟨E99, rfl⟩
   have E99 := zQ E99
   have := E99.size
   have hnall := hnall.keep0 E99
   have hb := zP hb E99 hb.size
   refine zG (zA hN rfl) ?_
   refine zW (zA hN rfl) rfl ?_
   refine zW (zA hN rfl) rfl ?_
   refine op_alloc (cs := [(.string (bs [])), (.slice none 0 0), (.int .i64 0), (.string (bs [])), (.string (bs [])), (.slice none 0 0), (.slice none 0 0), (.slice none 0 0), (.slice none 0 0), (.string (bs [])), (.slice none 0 0), (.slice none 0 0), (.slice none 0 0), (.bool false), (.slice none 0 0)]) zero98 rfl ?_
   intro w100 b101 lo_b101 hi_b101 hB103 E102
   have := E102.size
   have hnall := hnall.keep0 E102
   have hb := zP hb E102 hb.size
   refine zZ size98 (zA hN rfl) (zA hN rfl) rfl rfl hB103 rfl ?_
   intro w107 hB103 E108
   have := E108.size
   have hnall := hnall.keep E108 sR
   have hb := below_step1 hb E108 hb.size zx
   refine zD (zA hN rfl) ?_
   refine zB ?_
   refine hK97 _ _ (zF fun K109 hK109 => ?_)
   refine zH ?_
   refine zG (zA hN rfl) ?_
   refine op_not (zA hN rfl) ?_
   refine zB ?_
   refine hK109 _ _ (wp_cond_true (zA hN rfl) (zF fun K110 hK110 => ?_))
   refine zH ?_
   refine zD rfl ?_
   refine zB ?_
   refine hK110 _ _ (wp_ret (zb (zO ( ?_))))
   refine ret1 rfl hd (zA hN rfl) ⟨_, rfl, ?_⟩
   have e9 : checkE (D.map DTab.t) [] s = 22 := (check_flat c11 zx).trans (flat_call c59)
   rw [e9]; exact ⟨hb, rfl⟩
  refine zD (zA hN rfl) ?_
  refine zB ?_
  refine hK96 _ _ (wp_cond_false (zA hN rfl) (wp_skip (hK19 _ _ (zF fun K111 hK111 => ?_))))
  refine zH ?_
  refine zD rfl ?_
  refine zB ?_
  refine hK111 _ _ (wp_ret ?_)
  refine ret1 rfl hd (zA hN rfl) ⟨_, rfl, ?_⟩
  have e9 : checkE (D.map DTab.t) [] s = 0 := (check_flat c11 zx).trans (flat_else zx)
  rw [e9]; exact ⟨hb, rfl⟩
 rw [c11]
 refine op_not (zA hN rfl) ?_
 refine zB ?_
 refine hK11 _ _ (wp_cond_true (zA hN rfl) (zF fun K112 hK112 => ?_))
 refine zH ?_
 refine zD rfl ?_
 refine zB ?_
 refine hK112 _ _ (wp_ret (zO ( ?_)))
 refine ret1 rfl hd (zA hN rfl) ⟨_, rfl, ?_⟩
 have e9 : checkE (D.map DTab.t) [] s = 1 := check_bad c11
 rw [e9]; exact ⟨hb, rfl⟩

theorem Check_all : ∀ s, CheckP s := XS.ind fun s ih tv D w hT hD hsz he => Check_in s ih hT hD hsz he
end Go.Proofs.Ythflnkfghogaoaa

namespace Go.Gx
section
variable {w w' : World} {B b : Nat} {e e2 : XE} {v : Value}
theorem XRd.bare (hv : e.av = .slice none 0 0) (ha : e.args = []) : XRd w B e := .mk (by rw [hv, ha]; exact RdC.nil _ _ _ _) (by rw [ha]; exact fun _ h => (by cases h))
theorem XsRd.lit1 (hx : Bx w b 28 (cellsX e)) (hb : b < B) (he : XRd w B e) : XsRd w B (.slice (some ⟨b, 0, none⟩) 1 1) [e] :=
  ⟨((RdC.ofBx (sz := 7) (n := 1) hx rfl (by decide)).mono (Nat.zero_le _) hb).cast rfl (List.append_nil _).symm, fun a ha => by rw [List.mem_singleton] at ha; subst ha; exact he⟩
theorem XsRd.lit2 (hx : Bx w b 28 (cellsX e ++ cellsX e2)) (hb : b < B) (he : XRd w B e) (he2 : XRd w B e2) : XsRd w B (.slice (some ⟨b, 0, none⟩) 2 2) [e, e2] :=
  ⟨((RdC.ofBx (sz := 7) (n := 2) hx rfl (by decide)).mono (Nat.zero_le _) hb).cast rfl (by simp), fun a ha => by
    rcases List.mem_cons.1 ha with rfl | ha
    · exact he
    · rw [List.mem_singleton] at ha; subst ha; exact he2⟩
theorem rd_cols3 {c1 c2 c3 : PCol} (hx : Bx w b 68 (cellsC c1 ++ cellsC c2 ++ cellsC c3)) (hb : b < B) : RdC w 0 B 3 (.slice (some ⟨b, 0, none⟩) 3 3) [c1, c2, c3].length ([c1, c2, c3].flatMap cellsC) :=
  ((RdC.ofBx (sz := 3) (n := 3) hx rfl (by decide)).mono (Nat.zero_le _) hb).cast rfl (by simp)
theorem rd_str1 {x : List UInt8} (hx : Bx w b 9 [.string (bs x)]) (hb : b < B) : RdC w 0 B 1 (.slice (some ⟨b, 0, none⟩) 1 1) [x].length ([x].map sv) :=
  ((RdC.ofBx (sz := 1) (n := 1) hx rfl (by decide)).mono (Nat.zero_le _) hb).cast rfl rfl
end
def tabT : PTab := ⟨[116], [⟨[107], 1, []⟩, ⟨[118], 2, []⟩, ⟨[110], 1, []⟩], [[110]]⟩
def tabU : PTab := ⟨[117], [⟨[107], 2, []⟩, ⟨[114], 1, [116]⟩, ⟨[110], 1, []⟩], []⟩
def schT : List PTab := [tabT, tabU]
theorem sch_mk {w : World} {B b1 b2 b3 b4 : Nat} (h1 : Bx w b1 68 [.string (bs [107]), .int .i64 1, .string (bs []), .string (bs [118]), .int .i64 2, .string (bs []), .string (bs [110]), .int .i64 1, .string (bs [])]) (h2 : Bx w b2 9 [.string (bs [110])])
    (h3 : Bx w b3 68 [.string (bs [107]), .int .i64 2, .string (bs []), .string (bs [114]), .int .i64 1, .string (bs [116]), .string (bs [110]), .int .i64 1, .string (bs [])])
    (h4 : Bx w b4 55 [.string (bs [116]), .slice (some ⟨b1, 0, none⟩) 3 3, .slice (some ⟨b2, 0, none⟩) 1 1, .string (bs [117]), .slice (some ⟨b3, 0, none⟩) 3 3, .slice none 0 0]) (g1 : b1 < B) (g2 : b2 < B) (g3 : b3 < B) (g4 : b4 < B) :
    ∃ D : List DTab, D.map DTab.t = schT ∧ TsRd w B (.slice (some ⟨b4, 0, none⟩) 2 2) D :=
  ⟨[⟨tabT, .slice (some ⟨b1, 0, none⟩) 3 3, .slice (some ⟨b2, 0, none⟩) 1 1⟩, ⟨tabU, .slice (some ⟨b3, 0, none⟩) 3 3, .slice none 0 0⟩], rfl,
    ((RdC.ofBx (sz := 3) (n := 2) h4 rfl (by decide)).mono (Nat.zero_le _) g4).cast rfl (by simp [cellsT, tabT, tabU]), fun d hd => by
      rcases List.mem_cons.1 hd with rfl | hd
      · exact ⟨rd_cols3 (c1 := ⟨[107], 1, []⟩) (c2 := ⟨[118], 2, []⟩) (c3 := ⟨[110], 1, []⟩) h1 g1, rd_str1 h2 g2⟩
      · rw [List.mem_singleton] at hd; subst hd
        exact ⟨rd_cols3 (c1 := ⟨[107], 2, []⟩) (c2 := ⟨[114], 1, [116]⟩) (c3 := ⟨[110], 1, []⟩) h3 g3, RdC.nil _ _ _ _⟩⟩
theorem sch_sz {D : List DTab} (h : D.map DTab.t = schT) : D.length ≤ 1000000 ∧ ∀ d ∈ D, d.t.cols.length ≤ 1000000 ∧ d.t.idx.length ≤ 1000000 := by
  refine ⟨by have := congrArg List.length h; simp [schT] at this; omega, fun d hd => ?_⟩
  have : d.t ∈ schT := by rw [← h]; exact List.mem_map.2 ⟨d, hd, rfl⟩
  rcases List.mem_cons.1 this with h | h
  · rw [h]; decide
  · rw [List.mem_singleton] at h; rw [h]; decide
end Go.Gx

namespace Go.Proofs.Ythflnkfghogaoaa
open Go.Gx Go.RowKit
attribute [local irreducible] wpList wpStill Code.wp Calls

theorem Schema_ret (w : World) : Ret Try.prog 16 #[] w (fun v' w' => Below w.heap.size w w' ∧ ∃ (tv : Value) (D : List DTab), v' = .agg #[tv, .slice none 0 0] ∧ D.map DTab.t = schT ∧ TsRd w' w'.heap.size tv D) := by
 have hb := Below.refl w.heap.size w
 refine enter (N := 14) Try.func16 rfl rfl (by simp) fun a0 hN hd hA => ?_
 clear hA
 refine zF fun K1 hK1 => ?_
 refine zH ?_
 refine op_alloc (cs := [(.slice none 0 0), (.slice none 0 0)]) zero39 rfl ?_
 intro w2 b3 lo_b3 hi_b3 hB5 E4
 have := E4.size
 have hb := zP hb E4 hb.size
 refine zB ?_
 refine hK1 _ _ (zF fun K6 hK6 => ?_)
 refine zH ?_
 refine zf (pv := [(0, (.string (bs [107]))), (1, (.int .i64 1))]) (v := (Value.agg #[(.string (bs [107])), (.int .i64 1), (.string (bs []))])) ⟨rfl, rfl, ⟨rfl, rfl, trivial⟩⟩ zy ?_
 refine zf (pv := [(0, (.string (bs [118]))), (1, (.int .i64 2))]) (v := (Value.agg #[(.string (bs [118])), (.int .i64 2), (.string (bs []))])) ⟨rfl, rfl, ⟨rfl, rfl, trivial⟩⟩ zy ?_
 refine zf (pv := [(0, (.string (bs [110]))), (1, (.int .i64 1))]) (v := (Value.agg #[(.string (bs [110])), (.int .i64 1), (.string (bs []))])) ⟨rfl, rfl, ⟨rfl, rfl, trivial⟩⟩ zy ?_
 refine op_bslice (e := 68) (pv := [(0, (.agg #[(.string (bs [107])), (.int .i64 1), (.string (bs []))])), (1, (.agg #[(.string (bs [118])), (.int .i64 2), (.string (bs []))])), (2, (.agg #[(.string (bs [110])), (.int .i64 1), (.string (bs []))]))]) (cs := [(.string (bs [107])), (.int .i64 1), (.string (bs [])), (.string (bs [118])), (.int .i64 2), (.string (bs [])), (.string (bs [110])), (.int .i64 1), (.string (bs []))]) ⟨rfl, (zA hN rfl), ⟨rfl, (zA hN rfl), ⟨rfl, (zA hN rfl), trivial⟩⟩⟩ zy ?_
 intro w7 b8 lo_b8 hi_b8 hB10 E9
 have := E9.size
 have hB5 := hB5.keep0 E9
 have hb := zP hb E9 hb.size
 refine op_bslice (e := 9) (pv := [(0, (.string (bs [110])))]) (cs := [(.string (bs [110]))]) ⟨rfl, rfl, trivial⟩ zy ?_
 intro w11 b12 lo_b12 hi_b12 hB14 E13
 have := E13.size
 obtain ⟨hB5, hB10⟩ := kb2 E13 hB5 hB10
 have hb := zP hb E13 hb.size
 refine zf (pv := [(0, (.string (bs [116]))), (1, (.slice (some ⟨b8, 0, none⟩) 3 3)), (2, (.slice (some ⟨b12, 0, none⟩) 1 1))]) (v := (Value.agg #[(.string (bs [116])), (.slice (some ⟨b8, 0, none⟩) 3 3), (.slice (some ⟨b12, 0, none⟩) 1 1)])) ⟨rfl, rfl, ⟨rfl, (zA hN rfl), ⟨rfl, (zA hN rfl), trivial⟩⟩⟩ zy ?_
 refine zf (pv := [(0, (.string (bs [107]))), (1, (.int .i64 2))]) (v := (Value.agg #[(.string (bs [107])), (.int .i64 2), (.string (bs []))])) ⟨rfl, rfl, ⟨rfl, rfl, trivial⟩⟩ zy ?_
 refine zf (pv := [(0, (.string (bs [114]))), (1, (.int .i64 1)), (2, (.string (bs [116])))]) (v := (Value.agg #[(.string (bs [114])), (.int .i64 1), (.string (bs [116]))])) ⟨rfl, rfl, ⟨rfl, rfl, ⟨rfl, rfl, trivial⟩⟩⟩ zy ?_
 refine zf (pv := [(0, (.string (bs [110]))), (1, (.int .i64 1))]) (v := (Value.agg #[(.string (bs [110])), (.int .i64 1), (.string (bs []))])) ⟨rfl, rfl, ⟨rfl, rfl, trivial⟩⟩ zy ?_
 refine op_bslice (e := 68) (pv := [(0, (.agg #[(.string (bs [107])), (.int .i64 2), (.string (bs []))])), (1, (.agg #[(.string (bs [114])), (.int .i64 1), (.string (bs [116]))])), (2, (.agg #[(.string (bs [110])), (.int .i64 1), (.string (bs []))]))]) (cs := [(.string (bs [107])), (.int .i64 2), (.string (bs [])), (.string (bs [114])), (.int .i64 1), (.string (bs [116])), (.string (bs [110])), (.int .i64 1), (.string (bs []))]) ⟨rfl, (zA hN rfl), ⟨rfl, (zA hN rfl), ⟨rfl, (zA hN rfl), trivial⟩⟩⟩ zy ?_
 intro w15 b16 lo_b16 hi_b16 hB18 E17
 have := E17.size
 obtain ⟨hB5, hB10, hB14⟩ := kb3 E17 hB5 hB10 hB14
 have hb := zP hb E17 hb.size
 refine zf (pv := [(0, (.string (bs [117]))), (1, (.slice (some ⟨b16, 0, none⟩) 3 3))]) (v := (Value.agg #[(.string (bs [117])), (.slice (some ⟨b16, 0, none⟩) 3 3), (.slice none 0 0)])) ⟨rfl, rfl, ⟨rfl, (zA hN rfl), trivial⟩⟩ zy ?_
 refine op_bslice (e := 55) (pv := [(0, (.agg #[(.string (bs [116])), (.slice (some ⟨b8, 0, none⟩) 3 3), (.slice (some ⟨b12, 0, none⟩) 1 1)])), (1, (.agg #[(.string (bs [117])), (.slice (some ⟨b16, 0, none⟩) 3 3), (.slice none 0 0)]))]) (cs := [(.string (bs [116])), (.slice (some ⟨b8, 0, none⟩) 3 3), (.slice (some ⟨b12, 0, none⟩) 1 1), (.string (bs [117])), (.slice (some ⟨b16, 0, none⟩) 3 3), (.slice none 0 0)]) ⟨rfl, (zA hN rfl), ⟨rfl, (zA hN rfl), trivial⟩⟩ zy ?_
 intro w19 b20 lo_b20 hi_b20 hB22 E21
 have := E21.size
 obtain ⟨hB5, hB10, hB14, hB18⟩ := kb4 E21 hB5 hB10 hB14 hB18
 have hb := zP hb E21 hb.size
 refine zf (pv := [(0, (.slice (some ⟨b20, 0, none⟩) 2 2))]) (v := (Value.agg #[(.slice (some ⟨b20, 0, none⟩) 2 2), (.slice none 0 0)])) ⟨rfl, (zA hN rfl), trivial⟩ zy ?_
 have hB5_old := hB5
 refine zZ size39 (zA hN rfl) (zA hN rfl) rfl rfl hB5 rfl ?_
 intro w25 hB5 E26
 have := E26.size
 have hB10 := hB10.keep E26 (sN hB10 hB5_old)
 have hB14 := hB14.keep E26 (sN hB14 hB5_old)
 have hB18 := hB18.keep E26 (sN hB18 hB5_old)
 have hB22 := hB22.keep E26 (sN hB22 hB5_old)
 have hb := below_step1 hb E26 hb.size zx
 refine zB ?_
 refine hK6 _ _ (wp_ret ?_)
 refine retC rfl hd (zA hN rfl) agg39 rfl hB5 ⟨_, rfl, ?_⟩
 obtain ⟨D, hM, hT⟩ := sch_mk (B := w25.heap.size) hB10 hB14 hB18 hB22 zx zx zx zx
 exact ⟨hb, _, D, rfl, hM, hT⟩

theorem checkM {tv : Value} {D : List DTab} {w : World} (hM : D.map DTab.t = schT) (s : XS) (hT : TsRd w w.heap.size tv D) (hD : D.length ≤ 1000000) (hsz : ∀ d ∈ D, d.t.cols.length ≤ 1000000 ∧ d.t.idx.length ≤ 1000000) (he : SRd w w.heap.size s) : Ret Try.prog 19 #[.agg #[tv, .slice none 0 0], (.agg #[(.int .i64 s.f.kind), (.string (bs s.f.tb)), (.string (bs s.f.nm)), s.f.cv, s.f.gv, s.f.vv, s.f.iv, (.string (bs s.f.join)), s.f.ov, s.f.wv, s.f.rv, (.bool s.f.desc), s.nv])] w (fun v' w' => Below w.heap.size w w' ∧ v' = .int .i64 (checkE schT [] s)) := by
  have := Check_all s hT hD hsz he; rw [hM] at this; exact this
theorem Kind_nil {w : World} (e : XE) (he : XRd w w.heap.size e) : Ret Try.prog 14 #[.slice none 0 0, .slice none 0 0, (.agg #[(.int .i64 e.op), (.int .i64 e.vk), (.int .i64 e.vi), (.string (bs e.vt)), (.string (bs e.tb)), (.string (bs e.nm)), e.av])] w (fun v' w' => Below w.heap.size w w' ∧ v' = .tuple #[.int .i64 (kindX [] [] e).1, .int .i64 (kindX [] [] e).2]) := by
  have h : KindP e := Kind_all e
  unfold KindP at h
  exact h (C := []) (K := []) zz zz (RdC.nil _ _ _ _) (RdC.nil _ _ _ _) he
theorem tab_hit {D : List DTab} {x : List UInt8} {i : Nat} (hi : i < D.length) (h : ∀ j, j < i → decide ((D.getD j default).t.nm = x) = false) (hx : (D.getD i default).t.nm = x) : tabAt (D.map DTab.t) x = some (D.getD i default).t := by
  have h1 := ixOf_hit (p := fun d : DTab => decide (d.t.nm = x)) hi h (decide_eq_true hx)
  obtain ⟨k, h2, h3, h4, h5⟩ := tab_some (D := D) (nm := x) (by rw [h1]; omega)
  rw [h1] at h2
  have : i = k := by omega
  rw [h5, this]
theorem tab_end {D : List DTab} {x : List UInt8} {i : Nat} (hi : D.length ≤ i) (h : ∀ j, j < i → decide ((D.getD j default).t.nm = x) = false) : tabAt (D.map DTab.t) x = none :=
  tab_none (by rw [ixOf_none (p := fun d : DTab => decide (d.t.nm = x)) hi h]; decide)

theorem Table9_ret {tv : Value} {D : List DTab} {x : List UInt8} {B : Nat} {w : World} (hT : TsRd w B tv D) (hB : B ≤ w.heap.size) (hD : D.length ≤ 1000000) : Ret Try.prog 50 #[(.agg #[tv, (.slice none 0 0)]), (.string (bs x))] w (fun v' w' => Below w.heap.size w w' ∧ ((tabAt (D.map DTab.t) x = none ∧ v' = .tuple #[.agg #[.string (bs []), .slice none 0 0, .slice none 0 0], .bool false]) ∨ (∃ d ∈ D, tabAt (D.map DTab.t) x = some d.t ∧ v' = .tuple #[.agg #[.string (bs x), d.cv, d.iv], .bool true]))) := by
 have hR := hT.1
 have hb := Below.refl w.heap.size w
 refine enter (N := 28) Try.func50 rfl rfl (by simp) fun a0 hN hd hA => ?_
 have s0 : a0.tmps.getD 0 undef = (.agg #[tv, (.slice none 0 0)]) := hA 0 (by simp)
 have s1 : a0.tmps.getD 1 undef = (.string (bs x)) := hA 1 (by simp)
 clear hA
 refine zF fun K1 hK1 => ?_
 refine zH ?_
 refine op_box (cs := [tv, (.slice none 0 0)]) (zC hN rfl s0) rfl ?_
 intro w2 b3 lo_b3 hi_b3 hB5 E4
 have := E4.size
 have hR := hR.keep0 E4
 have hT := hT.keep0 E4
 have hb := zP hb E4 hb.size
 refine op_alloc (cs := [(.string (bs [])), (.slice none 0 0), (.slice none 0 0)]) zero55 rfl ?_
 intro w6 b7 lo_b7 hi_b7 hB9 E8
 have := E8.size
 have hR := hR.keep0 E8
 have hT := hT.keep0 E8
 have hB5 := hB5.keep0 E8
 have hb := zP hb E8 hb.size
 refine zD rfl ?_
 refine zB ?_
 refine hK1 _ _ (zF fun K10 hK10 => ?_)
 refine zF fun K11 hK11 => ?_
 refine zH ?_
 refine zD rfl ?_
 refine zB ?_
 refine hK11 _ _ (wp_block ?_)
 refine loop_m (fun mz_ az_ w' => ∃ (i : Nat), mz_ = D.length - i ∧ (az_.tmps.getD 1 undef = (.string (bs x))) ∧ (az_.tmps.getD 2 undef = (ptr b3 0)) ∧ (az_.tmps.getD 4 undef = (ptr b7 0)) ∧ (az_.tmps.getD 6 undef = (.int .i64 ((i : Nat) : Int))) ∧ (i ≤ D.length) ∧ (∀ j, j < i → decide ((D.getD j default).t.nm = x) = false) ∧ (Below w.heap.size w w') ∧ (w6.heap.size ≤ w'.heap.size) ∧ (RdC w' 0 B 3 tv D.length (D.flatMap cellsT)) ∧ (TsRd w' B tv D) ∧ (Bx w' b3 39 [tv, (.slice none 0 0)]) ∧ (Bx w' b7 55 [(.string (bs [])), (.slice none 0 0), (.slice none 0 0)])) _ hN hd ⟨0, rfl, (zL hN rfl s1), (zU hN rfl), (zU hN rfl), (zU hN rfl), (Nat.zero_le _), (fun _ h => absurd h (Nat.not_lt_zero _)), hb, (Nat.le_refl _), hR, hT, hB5, hB9⟩ ?_
 rintro _ a12 w12 hN12 hd12 ⟨i, rfl, s12_1, s12_2, s12_4, s12_6, hi, hall, hb, zl_w12, hR, hT, hB5, hB9⟩
 have := hb.size
 refine zF fun K13 hK13 => ?_
 refine zF fun K14 hK14 => ?_
 refine zH ?_
 refine zG (zC hN12 rfl s12_6) ?_
 refine zM fld39_0 (zC hN12 rfl s12_2) ?_
 refine zN (v := tv) one36 (zA hN12 rfl) (hB5.cell rfl) ?_
 refine op_len_rd Try.underlying36 (zA hN12 rfl) hR ?_
 refine op_lss (zA hN12 rfl) (zA hN12 rfl) (fun c11 => ?_) (fun c11 => ?_)
 ·
  refine zB ?_
  refine hK14 _ _ (wp_cond_true (zA hN12 rfl) (wp_skip (hK13 _ _ (zF fun K15 hK15 => ?_))))
  refine wp_block ?_
  refine zF fun K16 hK16 => ?_
  refine zH ?_
  refine zM fld39_0 (zC hN12 rfl s12_2) ?_
  refine zN (v := tv) one36 (zA hN12 rfl) (hB5.cell rfl) ?_
  refine zG (zC hN12 rfl s12_6) ?_
  refine zh slt36 (zA hN12 rfl) hR (zA hN12 rfl) zx zx ?_
  intro b17 o18 h0b17 h1b17 hc19
  refine zM fld55_0 (zA hN12 rfl) ?_
  refine zN (v := (Value.string (bs (D.getD i default).t.nm))) one9 (zA hN12 rfl) (hc19 0 ((.string (bs (D.getD i default).t.nm))) zz ((el_dt (i := i) zx zx) 0 ((.string (bs (D.getD i default).t.nm))) rfl)) ?_
  refine zG (zC hN12 rfl s12_1) ?_
  refine op_seql (zA hN12 rfl) (zA hN12 rfl) (fun c21 => ?_) (fun c21 => ?_)
  ·
   refine zB ?_
   refine hK16 _ _ (wp_cond_true (zA hN12 rfl) (zF fun K20 hK20 => ?_))
   refine zH ?_
   refine zM fld39_0 (zC hN12 rfl s12_2) ?_
   refine zN (v := tv) one36 (zA hN12 rfl) (hB5.cell rfl) ?_
   refine zG (zC hN12 rfl s12_6) ?_
   refine zh slt36 (zA hN12 rfl) hR (zA hN12 rfl) zx zx ?_
   intro b21 o22 h0b21 h1b21 hc23
   refine zX (cs := [(.string (bs (D.getD i default).t.nm)), (D.getD i default).cv, (D.getD i default).iv]) agg55 rfl (zA hN12 rfl) (fun j u hu => hc23 j u (by have := (List.getElem?_eq_some_iff.1 hu).1; simpa using this) ((el_dt (i := i) zx zx) j u hu)) ?_
   refine zZ size55 (zC hN12 rfl s12_4) (zA hN12 rfl) rfl (by simp only [List.all_cons, List.all_nil, Bool.true_and, Bool.and_true, (hT.2 (D.getD i default) (getD_mem zx)).1.one, (hT.2 (D.getD i default) (getD_mem zx)).2.one]; try rfl) hB9 rfl ?_
   intro w26 hB9 E27
   have := E27.size
   have hb := below_step1 hb E27 hb.size zx
   refine zD rfl ?_
   refine zB ?_
   refine hK20 _ _ (wp_ret (zb (zO (zO (zb (zO ( ?_)))))))
   refine retN (rs := [.cell 4 55, .tmp 5]) (vs := [(.agg #[(.string (bs (D.getD i default).t.nm)), (D.getD i default).cv, (D.getD i default).iv]), (.bool true)]) rfl hd12 ⟨⟨_, (zC hN12 rfl s12_4), run_loadA (cs := [(.string (bs (D.getD i default).t.nm)), (D.getD i default).cv, (D.getD i default).iv]) agg55 rfl (fun j u hu => by rw [Nat.zero_add]; exact hB9.cell hu)⟩, ⟨(zA hN12 rfl), trivial⟩⟩ rfl ⟨_, rfl, ?_⟩
   exact ⟨hb, .inr ⟨_, getD_mem zx, tab_hit zx hall c21, by rw [c21]; rfl⟩⟩
  refine zB ?_
  refine hK16 _ _ (wp_cond_false (zA hN12 rfl) (wp_skip (hK15 _ _ (zH ?_))))
  refine zG (zC hN12 rfl s12_6) ?_
  refine op_add (zA hN12 rfl) rfl (add64 zx) ?_
  refine zD (zA hN12 rfl) ?_
  refine zB ?_
  -- round 11T 21F
  exact zg _ hN12 hd12 ⟨(i + 1), rfl, (zL hN12 rfl s12_1), (zL hN12 rfl s12_2), (zL hN12 rfl s12_4), (zU hN12 rfl).trans (congrArg (Value.int .i64) zx), zx, (all_next hall (decide_eq_false c21)), hb, zx, hR, hT, hB5, hB9⟩ zx
 refine zB ?_
 refine hK14 _ _ (wp_cond_false (zA hN12 rfl) (wp_exit (then_exit (then_exit (blk_hit ?_)))))
 refine hK10 _ _ (zF fun K28 hK28 => ?_)
 refine zH ?_
 refine zf (pv := []) (v := (Value.agg #[(.string (bs [])), (.slice none 0 0), (.slice none 0 0)])) trivial zy ?_
 refine zZ size55 (zC hN12 rfl s12_4) (zA hN12 rfl) rfl rfl hB9 rfl ?_
 intro w31 hB9 E32
 have := E32.size
 have hb := below_step1 hb E32 hb.size zx
 refine zD rfl ?_
 refine zB ?_
 refine hK28 _ _ (wp_ret ?_)
 refine retN (rs := [.cell 4 55, .tmp 5]) (vs := [(.agg #[(.string (bs [])), (.slice none 0 0), (.slice none 0 0)]), (.bool false)]) rfl hd12 ⟨⟨_, (zC hN12 rfl s12_4), run_loadA (cs := [(.string (bs [])), (.slice none 0 0), (.slice none 0 0)]) agg55 rfl (fun j u hu => by rw [Nat.zero_add]; exact hB9.cell hu)⟩, ⟨(zA hN12 rfl), trivial⟩⟩ rfl ⟨_, rfl, ?_⟩
 exact ⟨hb, .inl ⟨tab_end zx hall, rfl⟩⟩

theorem View90 (tv : Value) (x : List UInt8) (w : World) : Ret Try.prog 49 #[(.agg #[tv, (.slice none 0 0)]), (.string (bs x))] w (fun v' w' => Below w.heap.size w w' ∧ v' = .tuple #[(.agg #[(.string (bs [])), (.slice none 0 0), (.int .i64 0), (.string (bs [])), (.string (bs [])), (.slice none 0 0), (.slice none 0 0), (.slice none 0 0), (.slice none 0 0), (.string (bs [])), (.slice none 0 0), (.slice none 0 0), (.slice none 0 0), (.bool false), (.slice none 0 0)]), .bool false]) := by
 have hb := Below.refl w.heap.size w
 refine enter (N := 28) Try.func49 rfl rfl (by simp) fun a0 hN hd hA => ?_
 have s0 : a0.tmps.getD 0 undef = (.agg #[tv, (.slice none 0 0)]) := hA 0 (by simp)
 clear hA
 refine zF fun K33 hK33 => ?_
 refine zH ?_
 refine op_box (cs := [tv, (.slice none 0 0)]) (zC hN rfl s0) rfl ?_
 intro w34 b35 lo_b35 hi_b35 hB37 E36
 have := E36.size
 have hb := zP hb E36 hb.size
 refine op_alloc (cs := [(.string (bs [])), (.slice none 0 0), (.int .i64 0), (.string (bs [])), (.string (bs [])), (.slice none 0 0), (.slice none 0 0), (.slice none 0 0), (.slice none 0 0), (.string (bs [])), (.slice none 0 0), (.slice none 0 0), (.slice none 0 0), (.bool false), (.slice none 0 0)]) zero98 rfl ?_
 intro w38 b39 lo_b39 hi_b39 hB41 E40
 have := E40.size
 have hB37 := hB37.keep0 E40
 have hb := zP hb E40 hb.size
 refine zD rfl ?_
 refine zB ?_
 refine hK33 _ _ (zF fun K42 hK42 => ?_)
 refine zF fun K43 hK43 => ?_
 refine zH ?_
 refine zD rfl ?_
 refine zB ?_
 refine hK43 _ _ (wp_block ?_)
 refine wp_loop_rounds 1 ?_
 refine rounds_any fun K44 hK44 => ?_
 refine zF fun K45 hK45 => ?_
 refine zF fun K46 hK46 => ?_
 refine zH ?_
 refine zG (zA hN rfl) ?_
 refine zM fld39_1 (zA hN rfl) ?_
 refine zN (v := (Value.slice none 0 0)) one37 (zA hN rfl) (hB37.cell rfl) ?_
 refine op_len_rd Try.underlying37 (zA hN rfl) (RdC.nil _ 0 0 1) ?_
 refine op_bin (v := .bool false) (zA hN rfl) (zA hN rfl) (by rw [binOp_lss]; rfl) (zB ?_)
 refine hK46 _ _ (wp_cond_false (zA hN rfl) (wp_exit (then_exit (then_exit (blk_hit ?_)))))
 refine hK42 _ _ (zF fun K47 hK47 => ?_)
 refine zH ?_
 refine zf (pv := []) (v := (Value.agg #[(.string (bs [])), (.slice none 0 0), (.int .i64 0), (.string (bs [])), (.string (bs [])), (.slice none 0 0), (.slice none 0 0), (.slice none 0 0), (.slice none 0 0), (.string (bs [])), (.slice none 0 0), (.slice none 0 0), (.slice none 0 0), (.bool false), (.slice none 0 0)])) trivial zy ?_
 refine zZ size98 (zA hN rfl) (zA hN rfl) rfl rfl hB41 rfl ?_
 intro w50 hB41 E51
 have := E51.size
 have hb := below_step1 hb E51 hb.size zx
 refine zD rfl ?_
 refine zB ?_
 refine hK47 _ _ (wp_ret ?_)
 refine retN (rs := [.cell 4 98, .tmp 5]) (vs := [(.agg #[(.string (bs [])), (.slice none 0 0), (.int .i64 0), (.string (bs [])), (.string (bs [])), (.slice none 0 0), (.slice none 0 0), (.slice none 0 0), (.slice none 0 0), (.string (bs [])), (.slice none 0 0), (.slice none 0 0), (.slice none 0 0), (.bool false), (.slice none 0 0)]), (.bool false)]) rfl hd ⟨⟨_, (zA hN rfl), run_loadA (cs := [(.string (bs [])), (.slice none 0 0), (.int .i64 0), (.string (bs [])), (.string (bs [])), (.slice none 0 0), (.slice none 0 0), (.slice none 0 0), (.slice none 0 0), (.string (bs [])), (.slice none 0 0), (.slice none 0 0), (.slice none 0 0), (.bool false), (.slice none 0 0)]) agg98 rfl (fun j u hu => by rw [Nat.zero_add]; exact hB41.cell hu)⟩, ⟨(zA hN rfl), trivial⟩⟩ rfl ⟨_, rfl, ?_⟩
 exact ⟨hb, rfl⟩

theorem Column9_ret (a : List UInt8) (l : List PCol) (cv iv : Value) (x : List UInt8) (w : World) (hl : RdC w 0 w.heap.size 3 cv l.length (l.flatMap cellsC)) : Ret Try.prog 82 #[(.agg #[(.string (bs a)), cv, iv]), (.string (bs x))] w (fun v' w' => Below w.heap.size w w' ∧ v' = .int .i64 (colIx l x)) := by
 have hlm := rd_len hl
 have hb := Below.refl w.heap.size w
 refine enter (N := 22) Try.func82 rfl rfl (by simp) fun a0 hN hd hA => ?_
 have s0 : a0.tmps.getD 0 undef = (.agg #[(.string (bs a)), cv, iv]) := hA 0 (by simp)
 have s1 : a0.tmps.getD 1 undef = (.string (bs x)) := hA 1 (by simp)
 clear hA
 refine zF fun K52 hK52 => ?_
 refine zH ?_
 refine op_box (cs := [(.string (bs a)), cv, iv]) (zC hN rfl s0) rfl ?_
 intro w53 b54 lo_b54 hi_b54 hB56 E55
 have := E55.size
 have hl := hl.keep0 E55
 have hb := zP hb E55 hb.size
 refine zD rfl ?_
 refine zB ?_
 refine hK52 _ _ (zF fun K57 hK57 => ?_)
 refine zF fun K58 hK58 => ?_
 refine zH ?_
 refine zD rfl ?_
 refine zB ?_
 refine hK58 _ _ (wp_block ?_)
 refine loop_m (fun mz_ az_ w' => ∃ (i : Nat), mz_ = l.length - i ∧ (az_.tmps.getD 1 undef = (.string (bs x))) ∧ (az_.tmps.getD 2 undef = (ptr b54 0)) ∧ (az_.tmps.getD 5 undef = (.int .i64 ((i : Nat) : Int))) ∧ (i ≤ l.length) ∧ (∀ j, j < i → decide ((l.getD j default).nm = x) = false) ∧ (Below w.heap.size w w') ∧ (w53.heap.size ≤ w'.heap.size) ∧ (RdC w' 0 w.heap.size 3 cv l.length (l.flatMap cellsC)) ∧ (Bx w' b54 55 [(.string (bs a)), cv, iv])) _ hN hd ⟨0, rfl, (zL hN rfl s1), (zU hN rfl), (zU hN rfl), (Nat.zero_le _), (fun _ h => absurd h (Nat.not_lt_zero _)), hb, (Nat.le_refl _), hl, hB56⟩ ?_
 rintro _ a59 w59 hN59 hd59 ⟨i, rfl, s59_1, s59_2, s59_5, hi, hall, hb, zl_w59, hl, hB56⟩
 have := hb.size
 refine zF fun K60 hK60 => ?_
 refine zF fun K61 hK61 => ?_
 refine zH ?_
 refine zG (zC hN59 rfl s59_5) ?_
 refine zM fld55_1 (zC hN59 rfl s59_2) ?_
 refine zN (v := cv) one41 (zA hN59 rfl) (hB56.cell rfl) ?_
 refine op_len_rd Try.underlying41 (zA hN59 rfl) hl ?_
 refine op_lss (zA hN59 rfl) (zA hN59 rfl) (fun c10 => ?_) (fun c10 => ?_)
 ·
  refine zB ?_
  refine hK61 _ _ (wp_cond_true (zA hN59 rfl) (wp_skip (hK60 _ _ (zF fun K62 hK62 => ?_))))
  refine wp_block ?_
  refine zF fun K63 hK63 => ?_
  refine zH ?_
  refine zM fld55_1 (zC hN59 rfl s59_2) ?_
  refine zN (v := cv) one41 (zA hN59 rfl) (hB56.cell rfl) ?_
  refine zG (zC hN59 rfl s59_5) ?_
  refine zh slt41 (zA hN59 rfl) hl (zA hN59 rfl) zx zx ?_
  intro b64 o65 h0b64 h1b64 hc66
  refine zM fld68_0 (zA hN59 rfl) ?_
  refine zN (v := (Value.string (bs (l.getD i default).nm))) one9 (zA hN59 rfl) (hc66 0 ((.string (bs (l.getD i default).nm))) zz ((el_pc (i := i) zx zx) 0 ((.string (bs (l.getD i default).nm))) rfl)) ?_
  refine zG (zC hN59 rfl s59_1) ?_
  refine op_seql (zA hN59 rfl) (zA hN59 rfl) (fun c20 => ?_) (fun c20 => ?_)
  ·
   refine zB ?_
   refine hK63 _ _ (wp_cond_true (zA hN59 rfl) (zF fun K67 hK67 => ?_))
   refine zH ?_
   refine zG (zC hN59 rfl s59_5) ?_
   refine zD (zA hN59 rfl) ?_
   refine zB ?_
   refine hK67 _ _ (wp_ret (zb (zO (zO (zb (zO ( ?_)))))))
   refine ret1 rfl hd59 (zA hN59 rfl) ⟨_, rfl, ?_⟩
   have e9 : colIx l x = (i : Int) := ixOf_hit (p := fun d : PCol => decide (d.nm = x)) zx hall (decide_eq_true c20)
   rw [e9]; exact ⟨hb, rfl⟩
  refine zB ?_
  refine hK63 _ _ (wp_cond_false (zA hN59 rfl) (wp_skip (hK62 _ _ (zH ?_))))
  refine zG (zC hN59 rfl s59_5) ?_
  refine op_add (zA hN59 rfl) rfl (add64 zx) ?_
  refine zD (zA hN59 rfl) ?_
  refine zB ?_
  -- round 10T 20F
  exact zg _ hN59 hd59 ⟨(i + 1), rfl, (zL hN59 rfl s59_1), (zL hN59 rfl s59_2), (zU hN59 rfl).trans (congrArg (Value.int .i64) zx), zx, (all_next hall (decide_eq_false c20)), hb, zx, hl, hB56⟩ zx
 refine zB ?_
 refine hK61 _ _ (wp_cond_false (zA hN59 rfl) (wp_exit (then_exit (then_exit (blk_hit ?_)))))
 refine hK57 _ _ (zF fun K68 hK68 => ?_)
 refine zH ?_
 refine zD rfl ?_
 refine zB ?_
 refine hK68 _ _ (wp_ret ?_)
 refine ret1 rfl hd59 (zA hN59 rfl) ⟨_, rfl, ?_⟩
 have e9 : colIx l x = -1 := ixOf_none (p := fun d : PCol => decide (d.nm = x)) zx hall
 rw [e9]; exact ⟨hb, rfl⟩

theorem Table9T {tv : Value} {D : List DTab} {x : List UInt8} {B : Nat} {w : World} (hk : (tabAt (D.map DTab.t) x).isSome = true) (hT : TsRd w B tv D) (hB : B ≤ w.heap.size) (hD : D.length ≤ 1000000) : Ret Try.prog 50 #[.agg #[tv, .slice none 0 0], .string (bs x)] w (fun v' w' => Below w.heap.size w w' ∧ ∃ d : DTab, v' = .tuple #[.agg #[.string (bs x), d.cv, d.iv], .bool true] ∧ tabAt (D.map DTab.t) x = some d.t ∧ RdC w' 0 B 3 d.cv d.t.cols.length (d.t.cols.flatMap cellsC) ∧ RdC w' 0 B 1 d.iv d.t.idx.length (d.t.idx.map sv)) :=
  (Table9_ret hT hB hD).mono fun v' w' h => ⟨h.1, h.2.elim (fun q => by rw [q.1] at hk; cases hk) fun ⟨d, hd, h1, h2⟩ => ⟨d, h2, h1, (hT.2 d hd).1.keep0 (zQ h.1), (hT.2 d hd).2.keep0 (zQ h.1)⟩⟩
theorem Table9F {tv : Value} {D : List DTab} {x : List UInt8} {B : Nat} {w : World} (hk : (tabAt (D.map DTab.t) x).isSome = false) (hT : TsRd w B tv D) (hB : B ≤ w.heap.size) (hD : D.length ≤ 1000000) : Ret Try.prog 50 #[.agg #[tv, .slice none 0 0], .string (bs x)] w (fun v' w' => Below w.heap.size w w' ∧ v' = .tuple #[.agg #[.string (bs []), .slice none 0 0, .slice none 0 0], .bool false]) :=
  (Table9_ret hT hB hD).mono fun v' w' h => ⟨h.1, h.2.elim (fun q => q.2) fun ⟨d, _, h1, _⟩ => by rw [h1] at hk; cases hk⟩

theorem begun10_ret (w : World) : Ret Try.prog 12 #[] w (fun v' w' => Below w.heap.size w w' ∧ v' = .bool true) := by
 have hb := Below.refl w.heap.size w
 refine enter (N := 39) Try.func12 rfl rfl (by simp) fun a0 hN hd hA => ?_
 clear hA
 refine zF fun K1 hK1 => ?_
 refine zH ?_
 refine zD rfl ?_
 refine zB ?_
 refine hK1 _ _ (zF fun K2 hK2 => ?_)
 refine zH ?_
 refine zf (pv := [(0, (.int .i64 1)), (1, (.int .i64 1))]) (v := (Value.agg #[(.int .i64 1), (.int .i64 1), (.string (bs []))])) ⟨rfl, rfl, ⟨rfl, rfl, trivial⟩⟩ zy ?_
 refine zf (pv := [(0, (.int .i64 1)), (1, (.agg #[(.int .i64 1), (.int .i64 1), (.string (bs []))]))]) (v := (Value.agg #[(.int .i64 1), (.int .i64 1), (.int .i64 1), (.string (bs [])), (.string (bs [])), (.string (bs [])), (.slice none 0 0)])) ⟨rfl, rfl, ⟨rfl, (zA hN rfl), trivial⟩⟩ zy ?_
 refine op_alloc (cs := [(.int .i64 0), (.int .i64 0), (.int .i64 0), (.string (bs [])), (.string (bs [])), (.string (bs [])), (.slice none 0 0)]) zero28 rfl ?_
 intro w3 b4 lo_b4 hi_b4 hB6 E5
 have := E5.size
 have hb := zP hb E5 hb.size
 refine zZ size28 (zA hN rfl) (zA hN rfl) rfl rfl hB6 rfl ?_
 intro w9 hB6 E10
 have := E10.size
 have hb := below_step1 hb E10 hb.size zx
 refine zB ?_
 refine hK2 _ _ (zF fun K11 hK11 => ?_)
 refine zH ?_
 refine zY agg28 rfl (zA hN rfl) hB6 ?_
 refine zY agg28 rfl (zA hN rfl) hB6 ?_
 refine op_bslice (e := 28) (pv := [(0, (.agg #[(.int .i64 1), (.int .i64 1), (.int .i64 1), (.string (bs [])), (.string (bs [])), (.string (bs [])), (.slice none 0 0)])), (1, (.agg #[(.int .i64 1), (.int .i64 1), (.int .i64 1), (.string (bs [])), (.string (bs [])), (.string (bs [])), (.slice none 0 0)]))]) (cs := [(.int .i64 1), (.int .i64 1), (.int .i64 1), (.string (bs [])), (.string (bs [])), (.string (bs [])), (.slice none 0 0), (.int .i64 1), (.int .i64 1), (.int .i64 1), (.string (bs [])), (.string (bs [])), (.string (bs [])), (.slice none 0 0)]) ⟨rfl, (zA hN rfl), ⟨rfl, (zA hN rfl), trivial⟩⟩ zy ?_
 intro w12 b13 lo_b13 hi_b13 hB15 E14
 have := E14.size
 have hB6 := hB6.keep0 E14
 have hb := zP hb E14 hb.size
 refine zf (pv := [(0, (.int .i64 8)), (4, (.slice (some ⟨b13, 0, none⟩) 2 2))]) (v := (Value.agg #[(.int .i64 8), (.int .i64 0), (.int .i64 0), (.string (bs [])), (.string (bs [])), (.string (bs [])), (.slice (some ⟨b13, 0, none⟩) 2 2)])) ⟨rfl, rfl, ⟨rfl, (zA hN rfl), trivial⟩⟩ zy ?_
 refine zj ok14 (Kind_nil (XE.mk 8 0 0 [] [] [] (.slice (some ⟨b13, 0, none⟩) 2 2) [(XE.mk 1 1 1 [] [] [] (.slice none 0 0) []), (XE.mk 1 1 1 [] [] [] (.slice none 0 0) [])]) (XsRd.node (e := (XE.mk 8 0 0 [] [] [] (.slice (some ⟨b13, 0, none⟩) 2 2) [(XE.mk 1 1 1 [] [] [] (.slice none 0 0) []), (XE.mk 1 1 1 [] [] [] (.slice none 0 0) [])])) (XsRd.lit2 (e := (XE.mk 1 1 1 [] [] [] (.slice none 0 0) [])) (e2 := (XE.mk 1 1 1 [] [] [] (.slice none 0 0) [])) hB15 zx (XRd.bare rfl rfl) (XRd.bare rfl rfl)))) ⟨rfl, ⟨rfl, ⟨(zA hN rfl), trivial⟩⟩⟩ ?_
 rintro _ w16 ⟨E17, rfl⟩
 have E17 := zQ E17
 have := E17.size
 have hB6 := hB6.keep0 E17
 have hb := zP hb E17 hb.size
 refine zG (zA hN rfl) ?_
 refine zW (zA hN rfl) rfl ?_
 refine zW (zA hN rfl) rfl ?_
 refine zD (zA hN rfl) ?_
 refine zD (zA hN rfl) ?_
 refine zB ?_
 refine hK11 _ _ (zF fun K18 hK18 => ?_)
 refine zH ?_
 refine zY agg28 rfl (zA hN rfl) hB6 ?_
 refine op_bslice (e := 28) (pv := [(0, (.agg #[(.int .i64 1), (.int .i64 1), (.int .i64 1), (.string (bs [])), (.string (bs [])), (.string (bs [])), (.slice none 0 0)]))]) (cs := [(.int .i64 1), (.int .i64 1), (.int .i64 1), (.string (bs [])), (.string (bs [])), (.string (bs [])), (.slice none 0 0)]) ⟨rfl, (zA hN rfl), trivial⟩ zy ?_
 intro w19 b20 lo_b20 hi_b20 hB22 E21
 have := E21.size
 have hb := zP hb E21 hb.size
 refine zf (pv := [(0, (.int .i64 4)), (4, (.slice (some ⟨b20, 0, none⟩) 1 1))]) (v := (Value.agg #[(.int .i64 4), (.int .i64 0), (.int .i64 0), (.string (bs [])), (.string (bs [])), (.string (bs [])), (.slice (some ⟨b20, 0, none⟩) 1 1)])) ⟨rfl, rfl, ⟨rfl, (zA hN rfl), trivial⟩⟩ zy ?_
 refine zj ok14 (Kind_nil (XE.mk 4 0 0 [] [] [] (.slice (some ⟨b20, 0, none⟩) 1 1) [(XE.mk 1 1 1 [] [] [] (.slice none 0 0) [])]) (XsRd.node (e := (XE.mk 4 0 0 [] [] [] (.slice (some ⟨b20, 0, none⟩) 1 1) [(XE.mk 1 1 1 [] [] [] (.slice none 0 0) [])])) (XsRd.lit1 (e := (XE.mk 1 1 1 [] [] [] (.slice none 0 0) [])) hB22 zx (XRd.bare rfl rfl)))) ⟨rfl, ⟨rfl, ⟨(zA hN rfl), trivial⟩⟩⟩ ?_
 rintro _ w23 ⟨E24, rfl⟩
 have E24 := zQ E24
 have := E24.size
 have hb := zP hb E24 hb.size
 refine zG (zA hN rfl) ?_
 refine zW (zA hN rfl) rfl ?_
 refine zW (zA hN rfl) rfl ?_
 refine zD (zA hN rfl) ?_
 refine zD (zA hN rfl) ?_
 refine zB ?_
 refine hK18 _ _ (zF fun K25 hK25 => ?_)
 refine zH ?_
 refine zG (zA hN rfl) ?_
 refine op_eql (zA hN rfl) rfl (fun c24 => ?_) (fun c24 => ?_)
 ·
  refine zG (zA hN rfl) ?_
  refine zS (j := 2) (dj := 25) (b := true) rfl rfl rfl (zA hN rfl) ?_
  refine zG (zA hN rfl) ?_
  refine zS (j := 2) (dj := 25) (b := true) rfl rfl rfl (zA hN rfl) ?_
  refine op_eql (zA hN rfl) rfl (fun c27 => ?_) (fun c27 => ?_)
  ·
   refine zc (zA hN rfl) (zA hN rfl) ?_
   refine zG (zA hN rfl) ?_
   refine zS (j := 6) (dj := 29) (b := true) rfl rfl rfl (zA hN rfl) ?_
   refine zG (zA hN rfl) ?_
   refine zS (j := 6) (dj := 29) (b := true) rfl rfl rfl (zA hN rfl) ?_
   refine op_eql (zA hN rfl) rfl (fun c31 => ?_) (fun c31 => ?_)
   ·
    refine zc (zA hN rfl) (zA hN rfl) ?_
    refine zG (zA hN rfl) ?_
    refine zS (j := 10) (dj := 33) (b := true) rfl rfl rfl (zA hN rfl) ?_
    refine zj ok16 (Schema_ret _) trivial ?_
    rintro _ w27 ⟨E28, tv26, D26, rfl, hM26, hT26⟩
    have E28 := zQ E28
    have := E28.size
    have hb := zP hb E28 hb.size
    have hR26 := hT26.1
    have hz26 := sch_sz hM26
    refine zS (j := 10) (dj := 33) (b := true) rfl rfl rfl (zA hN rfl) ?_
    refine zf (pv := [(0, (.int .i64 6)), (1, (.string (bs [113])))]) (v := (Value.agg #[(.int .i64 6), (.string (bs [113])), (.string (bs [])), (.slice none 0 0), (.slice none 0 0), (.slice none 0 0), (.slice none 0 0), (.string (bs [])), (.slice none 0 0), (.slice none 0 0), (.slice none 0 0), (.bool false), (.slice none 0 0)])) ⟨rfl, rfl, ⟨rfl, rfl, trivial⟩⟩ zy ?_
    refine zS (j := 10) (dj := 33) (b := true) rfl rfl rfl (zA hN rfl) ?_
    refine zj ok19 (checkM hM26 (XS.mk (StF.mk 6 ([113]) [] (.slice none 0 0) [] (.slice none 0 0) [] (.slice none 0 0) [] (.slice none 0 0) [] [] (.slice none 0 0) [] (.slice none 0 0) [] (.slice none 0 0) [] false) (.slice none 0 0) []) (hT26.mono zx) hz26.1 hz26.2 (SRd.mk (s := (XS.mk (StF.mk 6 ([113]) [] (.slice none 0 0) [] (.slice none 0 0) [] (.slice none 0 0) [] (.slice none 0 0) [] [] (.slice none 0 0) [] (.slice none 0 0) [] (.slice none 0 0) [] false) (.slice none 0 0) [])) ⟨(RdC.nil _ _ _ _), (RdC.nil _ _ _ _), (XsRd.nil _ _), (RdC.nil _ _ _ _), (XsRd.nil _ _), (XsRd.nil _ _), (XsRd.nil _ _)⟩ (RdC.nil _ _ _ _) (fun _ h => (by cases h)))) ⟨(zA hN rfl), ⟨(zA hN rfl), trivial⟩⟩ ?_
    rintro _ w29 ⟨E30, rfl⟩
    have E30 := zQ E30
    have := E30.size
    have hb := zP hb E30 hb.size
    refine zS (j := 10) (dj := 33) (b := true) rfl rfl rfl (zA hN rfl) ?_
    refine op_eql (zA hN rfl) rfl (fun c37 => ?_) (fun c37 => ?_)
    ·
     refine zc (zA hN rfl) (zA hN rfl) ?_
     refine zD (zA hN rfl) ?_
     refine zB ?_
     refine hK25 _ _ (wp_ret ?_)
     refine ret1 rfl hd (zA hN rfl) ⟨_, rfl, ?_⟩
     exact ⟨hb, rfl⟩
    exact absurd rfl c37
   exact absurd rfl c31
  exact absurd rfl c27
 exact absurd rfl c24
end Go.Proofs.Ythflnkfghogaoaa

namespace Go.Gx
def PickR (w : World) (base p : Nat) (lv : Value) (bl : List UInt8) (n : Nat) (F : Nat → Prop) : Prop :=
  F = (fun k => k = p) ∧ base ≤ p ∧ n ≤ bl.length ∧ bl.length ≤ 1000 ∧ Bx w p 85 [lv, .int .i64 ((n : Nat) : Int)]
inductive XFr (w : World) (L B : Nat) : XE → Prop
  | mk {e : XE} (h : RdC w L B 7 e.av e.args.length (e.args.flatMap cellsX)) (hs : ∀ a ∈ e.args, XFr w L B a) : XFr w L B e
def XsFr (w : World) (L B : Nat) (v : Value) (E : List XE) : Prop := RdC w L B 7 v E.length (E.flatMap cellsX) ∧ ∀ a ∈ E, XFr w L B a
section
variable {w w' : World} {base p b t e sz n L B L' B' : Nat} {lv v u : Value} {bl : List UInt8} {F G : Nat → Prop} {cs ws : List Value} {x x2 : XE} {E : List XE} {row : Option Nat}
theorem PickR.lt (h : PickR w base p lv bl n F) : ∀ k, F k → base ≤ k ∧ k < w.heap.size := fun k hk => by
  obtain ⟨rfl, h1, _, _, hx⟩ := h
  subst hk; exact ⟨h1, hx.lt⟩
theorem PickR.keepG (h : PickR w base p lv bl n F) (E : Gr w w' G) (hd : Dj F G) : PickR w' base p lv bl n F := by
  obtain ⟨rfl, h1, h2, h3, hx⟩ := h
  exact ⟨rfl, h1, h2, h3, hx.keepG E (hd p rfl)⟩
theorem PickR.kz (h : PickR w base p lv bl n F) (E : w.grownBy w' none) : PickR w' base p lv bl n F := h.keepG (Gr.of0 E NoB) (fun _ _ h => h)
theorem PickR.notBx (h : PickR w base p lv bl n F) (B2 : Bx w b t cs) (h1 : t ≠ 85) : ¬ F b := fun hf => by
  obtain ⟨rfl, _, _, _, hx⟩ := h
  subst hf; have := B2.symm.trans hx; simp at this; exact h1 this.2
theorem PickR.notOwn {base2 n' : Nat} (h : PickR w base p lv bl n F) (O : Own w base2 e sz v n' cs) (h1 : e ≠ 85) : Dj (Bl v) F := fun x hx hf => by
  obtain ⟨rfl, _, _, _, hp⟩ := h
  subst hf; exact O.neB hp (fun e => h1 e.symm) hx
theorem XFr.list (h : XFr w L B x) : XsFr w L B x.av x.args := by cases h with | mk h hs => exact ⟨h, hs⟩
theorem XFr.rd (h : XFr w L B x) : XRd w B x := by induction h with | mk h _ ih => exact .mk (h.mono (Nat.zero_le _) (Nat.le_refl _)) ih
theorem XsFr.rd (h : XsFr w L B v E) : XsRd w B v E := ⟨h.1.mono (Nat.zero_le _) (Nat.le_refl _), fun a ha => (h.2 a ha).rd⟩
theorem XFr.keep (h : XFr w L B x) (E : w.grownBy w' row) (hne : ∀ k, row = some k → k < L ∨ B ≤ k) : XFr w' L B x := by induction h with | mk h _ ih => exact .mk (h.keep E hne) ih
theorem XFr.keepG (h : XFr w L B x) (E : Gr w w' F) (hn : ∀ k, F k → k < L ∨ B ≤ k) : XFr w' L B x := by induction h with | mk h _ ih => exact .mk (h.keepG E hn) ih
theorem XFr.keep0 (h : XFr w L B x) (E : w.grownBy w' none) : XFr w' L B x := h.keep E (by simp)
theorem XFr.mono (h : XFr w L B x) (hL : L' ≤ L) (hB : B ≤ B') : XFr w L' B' x := by induction h with | mk h _ ih => exact .mk (h.mono hL hB) ih
theorem XsFr.keep (h : XsFr w L B v E) (E2 : w.grownBy w' row) (hne : ∀ k, row = some k → k < L ∨ B ≤ k) : XsFr w' L B v E := ⟨h.1.keep E2 hne, fun a ha => (h.2 a ha).keep E2 hne⟩
theorem XsFr.keep0 (h : XsFr w L B v E) (E2 : w.grownBy w' none) : XsFr w' L B v E := h.keep E2 (by simp)
theorem XsFr.keepG (h : XsFr w L B v E) (E2 : Gr w w' F) (hn : ∀ k, F k → k < L ∨ B ≤ k) : XsFr w' L B v E := ⟨h.1.keepG E2 hn, fun a ha => (h.2 a ha).keepG E2 hn⟩
theorem XsFr.keepO {ws : List Value} (h : XsFr w L B v E) (O : Own w base e sz u n ws) (E2 : w.grownBy w' u.ownBlock) (hne : B ≤ base) : XsFr w' L B v E := h.keep E2 fun k hk => .inr (Nat.le_trans hne (O.lt k hk).1)
theorem XsFr.mono (h : XsFr w L B v E) (hL : L' ≤ L) (hB : B ≤ B') : XsFr w L' B' v E := ⟨h.1.mono hL hB, fun a ha => (h.2 a ha).mono hL hB⟩
theorem XsFr.nil (w : World) (L B : Nat) : XsFr w L B (.slice none 0 0) [] := ⟨RdC.nil _ _ _ _, fun _ h => (by cases h)⟩
theorem XFr.leaf (hv : x.av = .slice none 0 0) (ha : x.args = []) : XFr w L B x := .mk (by rw [hv, ha]; exact RdC.nil _ _ _ _) (by rw [ha]; exact fun _ h => (by cases h))
theorem XsFr.node (h : XsFr w L B x.av x.args) : XFr w L B x := .mk h.1 h.2
theorem XsFr.lit1 (hx : Bx w b 28 (cellsX x)) (h1 : L ≤ b) (h2 : b < B) (he : XFr w L B x) : XsFr w L B (.slice (some ⟨b, 0, none⟩) 1 1) [x] :=
  ⟨((RdC.ofBx (sz := 7) (n := 1) hx rfl (by decide)).mono h1 h2).cast rfl (List.append_nil _).symm, fun a ha => by rw [List.mem_singleton] at ha; subst ha; exact he⟩
theorem XsFr.lit2 (hx : Bx w b 28 (cellsX x ++ cellsX x2)) (h1 : L ≤ b) (h2 : b < B) (he : XFr w L B x) (he2 : XFr w L B x2) : XsFr w L B (.slice (some ⟨b, 0, none⟩) 2 2) [x, x2] :=
  ⟨((RdC.ofBx (sz := 7) (n := 2) hx rfl (by decide)).mono h1 h2).cast rfl (by simp), fun a ha => by
    rcases List.mem_cons.1 ha with rfl | ha
    · exact he
    · rw [List.mem_singleton] at ha; subst ha; exact he2⟩
end
/-! columns that may be named, and the kinds of what is made -/
def onceN (C : List PItm) (nm : List UInt8) : Bool := decide (C.countP (fun x => decide (x.nm = nm)) = 1)
def GoodC (C : List PItm) (K : List Int) : Prop := C.length = K.length ∧ ∀ i, i < C.length → colAt C K (C.getD i default).tb (C.getD i default).nm = (K.getD i 0, 0) ∧ (onceN C (C.getD i default).nm = true → colAt C K [] (C.getD i default).nm = (K.getD i 0, 0))
theorem kind_lit {C : List PItm} {K : List Int} {e : XE} (h1 : e.op = 1) (h2 : e.args = []) : kindX C K e = (e.vk, 0) := by
  rw [kindX_eq, h1, h2, if_neg (by simp [argsN]), if_neg (by simp [firstE])]; rfl
theorem kind_col {C : List PItm} {K : List Int} {e : XE} {k : Int} (h1 : e.op = 2) (h2 : e.args = []) (h : colAt C K e.tb e.nm = (k, 0)) : kindX C K e = (k, 0) := by
  rw [kindX_eq, h1, h2, if_neg (by simp [argsN]), if_neg (by simp [firstE])]
  unfold ofX; rw [if_neg (by decide), if_pos rfl, h]
theorem kind_one {C : List PItm} {K : List Int} {e a : XE} {k : Int} (h2 : e.args = [a]) (ha : kindX C K a = (k, 0)) (h : (e.op = 3 ∧ k = 1) ∨ (e.op = 4 ∧ k = 3)) : kindX C K e = (k, 0) := by
  rw [kindX_eq, h2]
  have hf : firstE ([a].map fun a => (kindX C K a).2) = 0 := by simp [ha, firstE]
  rcases h with ⟨h1, rfl⟩ | ⟨h1, rfl⟩
  · rw [h1, if_neg (by simp [argsN]), if_neg (fun g => g hf)]; simp only [List.map_cons, List.map_nil, ha]; rfl
  · rw [h1, if_neg (by simp [argsN]), if_neg (fun g => g hf)]; simp only [List.map_cons, List.map_nil, ha]; rfl
theorem kind_two {C : List PItm} {K : List Int} {e a b : XE} {k : Int} (h2 : e.args = [a, b]) (ha : kindX C K a = (k, 0)) (hb : kindX C K b = (k, 0)) (h : (5 ≤ e.op ∧ e.op ≤ 7 ∧ k = 1) ∨ (8 ≤ e.op ∧ e.op ≤ 13 ∧ (k = 1 ∨ k = 2)) ∨ ((e.op = 14 ∨ e.op = 15) ∧ k = 3)) :
    kindX C K e = (if 5 ≤ e.op ∧ e.op ≤ 7 then 1 else 3, 0) := by
  rw [kindX_eq, h2]
  have hf : firstE ([a, b].map fun a => (kindX C K a).2) = 0 := by simp [ha, hb, firstE]
  have hn : argsN e.op = 2 := by unfold argsN; rw [if_neg (by omega), if_neg (by omega), if_pos (by omega)]
  rw [hn, if_neg (by simp), if_neg (fun g => g hf)]
  simp only [List.map_cons, List.map_nil, ha, hb]
  have ho : ofX C K e.op e.vk e.tb e.nm [k, k] = (givesX e.op, 0) := by
    apply ofX_ok (by omega) (by omega)
    · simp only [List.getD_cons_zero]; omega
    · intro j hj
      have : j = 0 ∨ j = 1 := by simp at hj; omega
      have hk : [k, k].getD j 0 = k := by rcases this with rfl | rfl <;> rfl
      rw [hk]; unfold takesX; simp only [List.getD_cons_zero]; (repeat' split) <;> omega
  rw [ho]; unfold givesX; congr 1; (repeat' split) <;> omega
end Go.Gx
namespace Go.Gx
theorem cnt_t {C : List PItm} {y : List UInt8} {i : Nat} (h : i < C.length) (h2 : (C.getD i default).nm = y) : (C.take (i + 1)).countP (fun x => decide (x.nm = y)) = (C.take i).countP (fun x => decide (x.nm = y)) + 1 := by
  have : C.take (i + 1) = C.take i ++ [C.getD i default] := by simp [List.getD_eq_getElem?_getD, h]
  rw [this, List.countP_append]; simp only [List.countP_cons, List.countP_nil, decide_eq_true h2, if_true]
theorem cnt_f {C : List PItm} {y : List UInt8} {i : Nat} (h : i < C.length) (h2 : ¬ (C.getD i default).nm = y) : (C.take (i + 1)).countP (fun x => decide (x.nm = y)) = (C.take i).countP (fun x => decide (x.nm = y)) := by
  have : C.take (i + 1) = C.take i ++ [C.getD i default] := by simp [List.getD_eq_getElem?_getD, h]
  rw [this, List.countP_append]; simp only [List.countP_cons, List.countP_nil, decide_eq_false h2]; simp
theorem cnt_le (C : List PItm) (y : List UInt8) (i : Nat) : (C.take i).countP (fun x => decide (x.nm = y)) ≤ i := Nat.le_trans List.countP_le_length (by simp; omega)
end Go.Gx
namespace Go.Gx
def ofK (C : List PItm) (K : List Int) (k : Int) (i : Nat) : List PItm := (List.range i).filterMap fun j => if K.getD j 0 = k then some (C.getD j default) else none
theorem ofK_t {C : List PItm} {K : List Int} {k : Int} {i : Nat} (h : K.getD i 0 = k) : ofK C K k (i + 1) = ofK C K k i ++ [C.getD i default] := by
  unfold ofK; rw [List.range_succ, List.filterMap_append]; simp only [List.filterMap_cons, List.filterMap_nil, if_pos h]
theorem ofK_f {C : List PItm} {K : List Int} {k : Int} {i : Nat} (h : ¬ K.getD i 0 = k) : ofK C K k (i + 1) = ofK C K k i := by
  unfold ofK; rw [List.range_succ, List.filterMap_append]; simp only [List.filterMap_cons, List.filterMap_nil, if_neg h, List.append_nil]
theorem ofK_le (C : List PItm) (K : List Int) (k : Int) (i : Nat) : (ofK C K k i).length ≤ i := by
  unfold ofK; exact Nat.le_trans (List.length_filterMap_le _ _) (by simp)
theorem ofK_mem {C : List PItm} {K : List Int} {k : Int} {i : Nat} {x : PItm} (h : x ∈ ofK C K k i) : ∃ j, j < i ∧ K.getD j 0 = k ∧ x = C.getD j default := by
  unfold ofK at h; obtain ⟨j, hj, hx⟩ := List.mem_filterMap.1 h
  refine ⟨j, List.mem_range.1 hj, ?_⟩
  split at hx
  · rename_i h9; exact ⟨h9, (Option.some.inj hx).symm⟩
  · exact absurd hx (by simp)
theorem ofK_good {C : List PItm} {K : List Int} {k : Int} {i r : Nat} (hr : r < (ofK C K k i).length) (hi : i ≤ C.length) (hg : GoodC C K) :
    colAt C K ((ofK C K k i).getD r default).tb ((ofK C K k i).getD r default).nm = (k, 0) ∧ (onceN C ((ofK C K k i).getD r default).nm = true → colAt C K [] ((ofK C K k i).getD r default).nm = (k, 0)) := by
  have hm : (ofK C K k i).getD r default ∈ ofK C K k i := by rw [List.getD_eq_getElem?_getD, List.getElem?_eq_getElem hr]; exact List.getElem_mem hr
  obtain ⟨j, hj, hk, hx⟩ := ofK_mem hm
  have := hg.2 j (by omega)
  rw [hx, ← hk]; exact this
end Go.Gx

namespace Go.Proofs.Ythflnkfghogaoaa
open Go.Gx Go.RowKit
attribute [local irreducible] wpList wpStill Code.wp Calls

theorem Num_ret {base p n Bp : Nat} {lv : Value} {bl : List UInt8} {m : Nat} {w : World} (hpk : PickR w base p lv bl n (fun k => k = p)) (hBp : Bp ≤ p) (hbl : RdC w 0 Bp 1 lv bl.length (bl.map u8v)) (hm : 0 < m) (hm2 : m ≤ 1000000) : Ret Try.prog 35 #[(ptr p 0), (.int .i64 ((m : Nat) : Int))] w (fun v' w' => Gr w w' (fun k => k = p) ∧ ∃ r : Nat, v' = .int .i64 ((r : Nat) : Int) ∧ r < m ∧ ∃ n' : Nat, PickR w' base p lv bl n' (fun k => k = p) ∧ n ≤ n' ∧ (n < bl.length → n < n')) := by
 have hi_p : p < w.heap.size := (hpk.lt p rfl).2
 obtain ⟨_, h1, h2, h3, hx⟩ := hpk
 have hb := Gr.refl w (fun k => k = p)
 refine enter (N := 36) Try.func35 rfl rfl (by simp) fun a0 hN hd hA => ?_
 have s0 : a0.tmps.getD 0 undef = (ptr p 0) := hA 0 (by simp)
 have s1 : a0.tmps.getD 1 undef = (.int .i64 ((m : Nat) : Int)) := hA 1 (by simp)
 clear hA
 refine zF fun K1 hK1 => ?_
 refine zH ?_
 refine zD rfl ?_
 refine zB ?_
 refine hK1 _ _ (zF fun K2 hK2 => ?_)
 refine zF fun K3 hK3 => ?_
 refine reg_still mixed zy ?_
 intro w5 E4
 have := E4.size
 have hx := hx.keep0 E4
 have hbl := hbl.keep0 E4
 have hb := hb.step0 E4
 refine st_step rfl (fun _ h9 => zG (zC hN rfl s0) h9) ?_
 refine st_step rfl (fun _ h9 => op_nil (zA hN rfl) h9) ?_
 refine st_step rfl (fun _ h9 => zM fld85_1 (zA hN rfl) h9) ?_
 refine st_step rfl (fun _ h9 => zN (v := (Value.int .i64 ((n : Nat) : Int))) one3 (zA hN rfl) (hx.cell rfl) h9) ?_
 refine st_step rfl (fun _ h9 => zG (zC hN rfl s0) h9) ?_
 refine st_step rfl (fun _ h9 => op_nil (zA hN rfl) h9) ?_
 refine st_step rfl (fun _ h9 => zM fld85_0 (zA hN rfl) h9) ?_
 refine st_step rfl (fun _ h9 => zN (v := lv) one35 (zA hN rfl) (hx.cell rfl) h9) ?_
 refine st_step rfl (fun _ h9 => op_len_rd Try.underlying35 (zA hN rfl) hbl h9) ?_
 refine st_step rfl (fun _ h9 => op_cmp (b := (decide (((bl.length : Nat) : Int) ≤ ((n : Nat) : Int)))) (zA hN rfl) (zA hN rfl) (b_geq rfl) h9) ?_
 refine st_nil ?_
 refine hK3 _ _ (wp_cond_split (zA hN rfl) (fun c14 => ?_) (fun c14 => ?_))
 ·
  have c14 := of_decide_eq_true c14
  refine zF fun K6 hK6 => ?_
  refine zH ?_
  refine zD rfl ?_
  refine zB ?_
  refine hK6 _ _ (wp_ret (zO ( ?_)))
  refine ret1 rfl hd (zA hN rfl) ⟨_, rfl, ?_⟩
  exact ⟨hb, 0, rfl, hm, n, ⟨rfl, h1, h2, h3, hx⟩, Nat.le_refl _, fun h => absurd h zx⟩
 have c14 := of_decide_eq_false c14
 refine wp_skip (hK2 _ _ (zF fun K7 hK7 => ?_))
 refine zH ?_
 refine zG (zC hN rfl s0) ?_
 refine op_nil (zA hN rfl) (zM fld85_1 (zA hN rfl) ?_)
 refine zN (v := (Value.int .i64 ((n : Nat) : Int))) one3 (zA hN rfl) (hx.cell rfl) ?_
 refine op_add (r := ((n + 1 : Nat) : Int)) (zA hN rfl) rfl ((add64 zx).trans zx) ?_
 refine op_nil (zA hN rfl) (zM fld85_1 (zA hN rfl) ?_)
 refine za (vs := [(.int .i64 ((n + 1 : Nat) : Int))]) (cs' := [lv, (.int .i64 ((n + 1 : Nat) : Int))]) size3 (zA hN rfl) (zA hN rfl) rfl rfl rfl hx (zI rfl) rfl ?_
 intro w10 hx E11
 have := E11.size
 have hbl := hbl.keep E11 sR
 have hb := hb.stepB E11 rfl
 refine zB ?_
 refine hK7 _ _ (zF fun K12 hK12 => ?_)
 refine reg_still mixed zy ?_
 intro w14 E13
 have := E13.size
 have hbl := hbl.keep0 E13
 have hx := hx.keep0 E13
 have hb := hb.step0 E13
 refine st_step rfl (fun _ h9 => zG (zC hN rfl s0) h9) ?_
 refine st_step rfl (fun _ h9 => op_nil (zA hN rfl) h9) ?_
 refine st_step rfl (fun _ h9 => zM fld85_0 (zA hN rfl) h9) ?_
 refine st_step rfl (fun _ h9 => zN (v := lv) one35 (zA hN rfl) (hx.cell rfl) h9) ?_
 refine st_step rfl (fun _ h9 => zG (zC hN rfl s0) h9) ?_
 refine st_step rfl (fun _ h9 => op_nil (zA hN rfl) h9) ?_
 refine st_step rfl (fun _ h9 => zM fld85_1 (zA hN rfl) h9) ?_
 refine st_step rfl (fun _ h9 => zN (v := (Value.int .i64 ((n + 1 : Nat) : Int))) one3 (zA hN rfl) (hx.cell rfl) h9) ?_
 refine st_step rfl (fun _ h9 => op_sub (r := ((n : Nat) : Int)) (zA hN rfl) rfl ((sub64 zx).trans zx) h9) ?_
 refine st_index_rd slt35 (zA hN rfl) hbl (zA hN rfl) zx zx ?_
 intro b15 o16 h0b15 h1b15 hc17
 refine st_step rfl (fun _ h9 => zN (v := (Value.int .u8 ((bl.getD n 0).toNat : Int))) one5 (zA hN rfl) (by have := hc17 0 (.int .u8 ((bl.getD n 0).toNat : Int)) zz (el_u8 (i := n) zx zx); simpa using this) h9) ?_
 refine st_step rfl (fun _ h9 => op_conv (r := ((bl.getD n 0).toNat : Int)) (zA hN rfl) us5 Try.underlying3 (wrap_i64 (by have := ((bl.getD n 0)).toNat_lt; omega)) h9) ?_
 refine st_step rfl (fun _ h9 => zG (zC hN rfl s1) h9) ?_
 refine st_step rfl (fun _ h9 => op_rem (r := (((bl.getD n 0).toNat % m : Nat) : Int)) (zA hN rfl) (zA hN rfl) zx (by rw [Int.tmod_eq_emod_of_nonneg zx]; omega) h9) ?_
 refine st_step rfl (fun _ h9 => zD (zA hN rfl) h9) ?_
 refine st_nil ?_
 refine hK12 _ _ (wp_ret ?_)
 refine ret1 rfl hd (zA hN rfl) ⟨_, rfl, ?_⟩
 exact ⟨hb, _, rfl, Nat.mod_lt _ zx, n + 1, ⟨rfl, h1, by omega, h3, hx⟩, by omega, fun _ => by omega⟩

theorem Over_ret {base p n Bp : Nat} {lv : Value} {bl : List UInt8} {w : World} (hpk : PickR w base p lv bl n (fun k => k = p)) (hBp : Bp ≤ p) (hbl : RdC w 0 Bp 1 lv bl.length (bl.map u8v)) : Ret Try.prog 40 #[(ptr p 0)] w (fun v' w' => Gr w w' (fun k => k = p) ∧ v' = .bool (decide (bl.length ≤ n)) ∧ PickR w' base p lv bl n (fun k => k = p)) := by
 have hi_p : p < w.heap.size := (hpk.lt p rfl).2
 obtain ⟨_, h1, h2, h3, hx⟩ := hpk
 have hb := Gr.refl w (fun k => k = p)
 refine enter (N := 13) Try.func40 rfl rfl (by simp) fun a0 hN hd hA => ?_
 have s0 : a0.tmps.getD 0 undef = (ptr p 0) := hA 0 (by simp)
 clear hA
 refine zF fun K18 hK18 => ?_
 refine zH ?_
 refine zD rfl ?_
 refine zB ?_
 refine hK18 _ _ (zF fun K19 hK19 => ?_)
 refine reg_still mixed zy ?_
 intro w21 E20
 have := E20.size
 have hx := hx.keep0 E20
 have hbl := hbl.keep0 E20
 have hb := hb.step0 E20
 refine st_step rfl (fun _ h9 => zG (zC hN rfl s0) h9) ?_
 refine st_step rfl (fun _ h9 => op_nil (zA hN rfl) h9) ?_
 refine st_step rfl (fun _ h9 => zM fld85_1 (zA hN rfl) h9) ?_
 refine st_step rfl (fun _ h9 => zN (v := (Value.int .i64 ((n : Nat) : Int))) one3 (zA hN rfl) (hx.cell rfl) h9) ?_
 refine st_step rfl (fun _ h9 => zG (zC hN rfl s0) h9) ?_
 refine st_step rfl (fun _ h9 => op_nil (zA hN rfl) h9) ?_
 refine st_step rfl (fun _ h9 => zM fld85_0 (zA hN rfl) h9) ?_
 refine st_step rfl (fun _ h9 => zN (v := lv) one35 (zA hN rfl) (hx.cell rfl) h9) ?_
 refine st_step rfl (fun _ h9 => op_len_rd Try.underlying35 (zA hN rfl) hbl h9) ?_
 refine st_step rfl (fun _ h9 => op_cmp (b := (decide (((bl.length : Nat) : Int) ≤ ((n : Nat) : Int)))) (zA hN rfl) (zA hN rfl) (b_geq rfl) h9) ?_
 refine st_step rfl (fun _ h9 => zD (zA hN rfl) h9) ?_
 refine st_nil ?_
 refine hK19 _ _ (wp_ret ?_)
 refine ret1 rfl hd (zA hN rfl) ⟨_, rfl, ?_⟩
 exact ⟨hb, congrArg Value.bool (decide_eq_decide.2 zx), rfl, h1, h2, h3, hx⟩

theorem Value_ret {base p n Bp : Nat} {lv : Value} {bl : List UInt8} {kd : Int} {w : World} (hpk : PickR w base p lv bl n (fun k => k = p)) (hBp : Bp ≤ p) (hbl : RdC w 0 Bp 1 lv bl.length (bl.map u8v)) : Ret Try.prog 56 #[(ptr p 0), (.int .i64 kd)] w (fun v' w' => Gr w w' (fun k => k = p) ∧ ∃ (i : Int) (s : List UInt8), v' = .agg #[.int .i64 (if kd = 2 then (2 : Int) else 1), .int .i64 i, .string (bs s)] ∧ ∃ n' : Nat, PickR w' base p lv bl n' (fun k => k = p) ∧ n ≤ n') := by
 have hi_p : p < w.heap.size := (hpk.lt p rfl).2
 have hb := Gr.refl w (fun k => k = p)
 refine enter (N := 21) Try.func56 rfl rfl (by simp) fun a0 hN hd hA => ?_
 have s0 : a0.tmps.getD 0 undef = (ptr p 0) := hA 0 (by simp)
 have s1 : a0.tmps.getD 1 undef = (.int .i64 kd) := hA 1 (by simp)
 clear hA
 refine zF fun K1 hK1 => ?_
 refine zH ?_
 refine op_alloc (cs := [(.int .i64 0), (.int .i64 0), (.string (bs []))]) zero25 rfl ?_
 intro w2 b3 lo_b3 hi_b3 hB5 E4
 have dj6 : ¬ (fun k => k = p) b3 := fun hf => by have := (hpk.lt _ hf).2; omega
 have := E4.size
 have hpk := hpk.keepG (zi E4 NoB) (fun _ _ h => h)
 have hbl := hbl.keep0 E4
 have hb := hb.step0 E4
 refine zB ?_
 refine hK1 _ _ (zF fun K7 hK7 => ?_)
 refine zF fun K8 hK8 => ?_
 refine zH ?_
 refine zG (zC hN rfl s1) ?_
 refine op_eql (zA hN rfl) rfl (fun c7 => ?_) (fun c7 => ?_)
 ·
  refine zB ?_
  refine hK8 _ _ (wp_cond_true (zA hN rfl) (zF fun K9 hK9 => ?_))
  refine zH ?_
  refine op_bslice (e := 9) (pv := [(0, (.string (bs [97]))), (1, (.string (bs [98]))), (2, (.string (bs []))), (3, (.string (bs [105, 116, 39, 115]))), (4, (.string (bs [122, 122])))]) (cs := [(.string (bs [97])), (.string (bs [98])), (.string (bs [])), (.string (bs [105, 116, 39, 115])), (.string (bs [122, 122]))]) ⟨rfl, rfl, ⟨rfl, rfl, ⟨rfl, rfl, ⟨rfl, rfl, ⟨rfl, rfl, trivial⟩⟩⟩⟩⟩ zy ?_
  intro w10 b11 lo_b11 hi_b11 hB13 E12
  have dj14 : ¬ (fun k => k = p) b11 := fun hf => by have := (hpk.lt _ hf).2; omega
  have := E12.size
  have hpk := hpk.keepG (zi E12 NoB) (fun _ _ h => h)
  have hbl := hbl.keep0 E12
  have hB5 := hB5.keep0 E12
  have hb := hb.step0 E12
  refine zG (zC hN rfl s0) ?_
  refine zj ok35 (Num_ret (m := 5) hpk zx hbl zx zx) ⟨(zA hN rfl), ⟨rfl, trivial⟩⟩ ?_
  rintro _ w16 ⟨E17, r15, rfl, hr15, n15, hk15, hn15, hn15x⟩
  have := E17.size
  have hB5 := hB5.keepG E17 dj6
  have hB13 := hB13.keepG E17 dj14
  have hb := hb.stepF E17 (fun _ _ h => h)
  refine zh slt53 (zA hN rfl) (RdC.ofBx (sz := 1) (n := 5) hB13 rfl zz) (zA hN rfl) zx zx ?_
  intro b18 o19 h0b18 h1b18 hc20
  refine zN (v := (Value.string (bs (([[97], [98], [], [105, 116, 39, 115], [122, 122]] : List (List UInt8)).getD r15 [])))) one9 (zA hN rfl) (by have := hc20 0 (.string (bs (([[97], [98], [], [105, 116, 39, 115], [122, 122]] : List (List UInt8)).getD r15 []))) zz (el_sv (l := ([[97], [98], [], [105, 116, 39, 115], [122, 122]] : List (List UInt8))) (i := r15) rfl (show _ < 5 by omega)); simpa using this) ?_
  refine zf (pv := [(0, (.int .i64 2)), (2, (.string (bs (([[97], [98], [], [105, 116, 39, 115], [122, 122]] : List (List UInt8)).getD r15 []))))]) (v := (Value.agg #[(.int .i64 2), (.int .i64 0), (.string (bs (([[97], [98], [], [105, 116, 39, 115], [122, 122]] : List (List UInt8)).getD r15 [])))])) ⟨rfl, rfl, ⟨rfl, (zA hN rfl), trivial⟩⟩ zy ?_
  refine zZ size25 (zA hN rfl) (zA hN rfl) rfl rfl hB5 rfl ?_
  intro w23 hB5 E24
  have := E24.size
  have hk15 := hk15.keepG (Gr.of E24) (Dj.one dj6)
  have hb := hb.step1 E24 zx
  refine zB ?_
  refine hK9 _ _ (wp_ret (zO ( ?_)))
  refine retC rfl hd (zA hN rfl) agg25 rfl hB5 ⟨_, rfl, ?_⟩
  exact ⟨hb, 0, (([[97], [98], [], [105, 116, 39, 115], [122, 122]] : List (List UInt8)).getD r15 []), congrArg (fun x : Int => Value.agg #[.int .i64 x, .int .i64 0, .string (bs (([[97], [98], [], [105, 116, 39, 115], [122, 122]] : List (List UInt8)).getD r15 []))]) ((if_pos zx).symm : (2 : Int) = if kd = 2 then 2 else 1), n15, hk15, by omega⟩
 refine zB ?_
 refine hK8 _ _ (wp_cond_false (zA hN rfl) (wp_skip (hK7 _ _ (zF fun K25 hK25 => ?_))))
 refine zH ?_
 refine zG (zC hN rfl s0) ?_
 refine zj ok35 (Num_ret (m := 12) hpk zx hbl zx zx) ⟨(zA hN rfl), ⟨rfl, trivial⟩⟩ ?_
 rintro _ w27 ⟨E28, r26, rfl, hr26, n26, hk26, hn26, hn26x⟩
 have := E28.size
 have hB5 := hB5.keepG E28 dj6
 have hb := hb.stepF E28 (fun _ _ h => h)
 refine zD (zA hN rfl) ?_
 refine zB ?_
 refine hK25 _ _ (zF fun K29 hK29 => ?_)
 refine zF fun K30 hK30 => ?_
 refine zH ?_
 refine zG (zA hN rfl) ?_
 refine op_eql (zA hN rfl) rfl (fun c17 => ?_) (fun c17 => ?_)
 ·
  refine zB ?_
  refine hK30 _ _ (wp_cond_true (zA hN rfl) (zF fun K31 hK31 => ?_))
  refine zH ?_
  refine zf (pv := [(0, (.int .i64 1)), (1, (.int .i64 9223372036854775807))]) (v := (Value.agg #[(.int .i64 1), (.int .i64 9223372036854775807), (.string (bs []))])) ⟨rfl, rfl, ⟨rfl, rfl, trivial⟩⟩ zy ?_
  refine zZ size25 (zA hN rfl) (zA hN rfl) rfl rfl hB5 rfl ?_
  intro w34 hB5 E35
  have := E35.size
  have hk26 := hk26.keepG (Gr.of E35) (Dj.one dj6)
  have hb := hb.step1 E35 zx
  refine zB ?_
  refine hK31 _ _ (wp_ret (zO ( ?_)))
  refine retC rfl hd (zA hN rfl) agg25 rfl hB5 ⟨_, rfl, ?_⟩
  exact ⟨hb, 9223372036854775807, [], congrArg (fun x : Int => Value.agg #[.int .i64 x, .int .i64 9223372036854775807, .string (bs [])]) ((if_neg zx).symm : (1 : Int) = if kd = 2 then 2 else 1), n26, hk26, by omega⟩
 refine zB ?_
 refine hK30 _ _ (wp_cond_false (zA hN rfl) (wp_skip (hK29 _ _ (zF fun K36 hK36 => ?_))))
 refine zH ?_
 refine zG (zA hN rfl) ?_
 refine zf (pv := [(0, (.int .i64 1)), (1, (.int .i64 ((r26 : Nat) : Int)))]) (v := (Value.agg #[(.int .i64 1), (.int .i64 ((r26 : Nat) : Int)), (.string (bs []))])) ⟨rfl, rfl, ⟨rfl, (zA hN rfl), trivial⟩⟩ zy ?_
 refine zZ size25 (zA hN rfl) (zA hN rfl) rfl rfl hB5 rfl ?_
 intro w39 hB5 E40
 have := E40.size
 have hk26 := hk26.keepG (Gr.of E40) (Dj.one dj6)
 have hb := hb.step1 E40 zx
 refine zB ?_
 refine hK36 _ _ (wp_ret ?_)
 refine retC rfl hd (zA hN rfl) agg25 rfl hB5 ⟨_, rfl, ?_⟩
 exact ⟨hb, ((r26 : Nat) : Int), [], congrArg (fun x : Int => Value.agg #[.int .i64 x, .int .i64 ((r26 : Nat) : Int), .string (bs [])]) ((if_neg zx).symm : (1 : Int) = if kd = 2 then 2 else 1), n26, hk26, by omega⟩

theorem lit_ret (k i : Int) (s : List UInt8) (w : World) : Ret Try.prog 55 #[(.agg #[(.int .i64 k), (.int .i64 i), (.string (bs s))])] w (fun v' w' => Below w.heap.size w w' ∧ v' = .agg #[.int .i64 1, .int .i64 k, .int .i64 i, .string (bs s), .string (bs []), .string (bs []), .slice none 0 0]) := by
 have hb := Below.refl w.heap.size w
 refine enter (N := 5) Try.func55 rfl rfl (by simp) fun a0 hN hd hA => ?_
 have s0 : a0.tmps.getD 0 undef = (.agg #[(.int .i64 k), (.int .i64 i), (.string (bs s))]) := hA 0 (by simp)
 clear hA
 refine zF fun K41 hK41 => ?_
 refine zH ?_
 refine op_box (cs := [(.int .i64 k), (.int .i64 i), (.string (bs s))]) (zC hN rfl s0) rfl ?_
 intro w42 b43 lo_b43 hi_b43 hB45 E44
 have := E44.size
 have hb := zP hb E44 hb.size
 refine op_alloc (cs := [(.int .i64 0), (.int .i64 0), (.int .i64 0), (.string (bs [])), (.string (bs [])), (.string (bs [])), (.slice none 0 0)]) zero28 rfl ?_
 intro w46 b47 lo_b47 hi_b47 hB49 E48
 have := E48.size
 have hB45 := hB45.keep0 E48
 have hb := zP hb E48 hb.size
 refine zB ?_
 refine hK41 _ _ (zF fun K50 hK50 => ?_)
 refine zH ?_
 refine zY agg25 rfl (zA hN rfl) hB45 ?_
 refine zf (pv := [(0, (.int .i64 1)), (1, (.agg #[(.int .i64 k), (.int .i64 i), (.string (bs s))]))]) (v := (Value.agg #[(.int .i64 1), (.int .i64 k), (.int .i64 i), (.string (bs s)), (.string (bs [])), (.string (bs [])), (.slice none 0 0)])) ⟨rfl, rfl, ⟨rfl, (zA hN rfl), trivial⟩⟩ zy ?_
 refine zZ size28 (zA hN rfl) (zA hN rfl) rfl rfl hB49 rfl ?_
 intro w53 hB49 E54
 have := E54.size
 have hb := below_step1 hb E54 hb.size zx
 refine zB ?_
 refine hK50 _ _ (wp_ret ?_)
 refine retC rfl hd (zA hN rfl) agg28 rfl hB49 ⟨_, rfl, ?_⟩
 exact ⟨hb, rfl⟩

theorem two_ret {L : Nat} (op : Int) (a b : XE) (w : World) (hL : L ≤ w.heap.size) (ha : XFr w L w.heap.size a) (hb9 : XFr w L w.heap.size b) : Ret Try.prog 53 #[(.int .i64 op), (.agg #[(.int .i64 a.op), (.int .i64 a.vk), (.int .i64 a.vi), (.string (bs a.vt)), (.string (bs a.tb)), (.string (bs a.nm)), a.av]), (.agg #[(.int .i64 b.op), (.int .i64 b.vk), (.int .i64 b.vi), (.string (bs b.vt)), (.string (bs b.tb)), (.string (bs b.nm)), b.av])] w (fun v' w' => Below w.heap.size w w' ∧ ∃ av : Value, v' = .agg #[.int .i64 op, .int .i64 0, .int .i64 0, .string (bs []), .string (bs []), .string (bs []), av] ∧ XsFr w' L w'.heap.size av [a, b]) := by
 have hb := Below.refl w.heap.size w
 refine enter (N := 12) Try.func53 rfl rfl (by simp) fun a0 hN hd hA => ?_
 have s0 : a0.tmps.getD 0 undef = (.int .i64 op) := hA 0 (by simp)
 have s1 : a0.tmps.getD 1 undef = (.agg #[(.int .i64 a.op), (.int .i64 a.vk), (.int .i64 a.vi), (.string (bs a.vt)), (.string (bs a.tb)), (.string (bs a.nm)), a.av]) := hA 1 (by simp)
 have s2 : a0.tmps.getD 2 undef = (.agg #[(.int .i64 b.op), (.int .i64 b.vk), (.int .i64 b.vi), (.string (bs b.vt)), (.string (bs b.tb)), (.string (bs b.nm)), b.av]) := hA 2 (by simp)
 clear hA
 refine zF fun K55 hK55 => ?_
 refine zH ?_
 refine op_box (cs := [(.int .i64 a.op), (.int .i64 a.vk), (.int .i64 a.vi), (.string (bs a.vt)), (.string (bs a.tb)), (.string (bs a.nm)), a.av]) (zC hN rfl s1) rfl ?_
 intro w56 b57 lo_b57 hi_b57 hB59 E58
 have := E58.size
 have ha := ha.keep0 E58
 have hb9 := hb9.keep0 E58
 have hb := zP hb E58 hb.size
 refine op_box (cs := [(.int .i64 b.op), (.int .i64 b.vk), (.int .i64 b.vi), (.string (bs b.vt)), (.string (bs b.tb)), (.string (bs b.nm)), b.av]) (zC hN rfl s2) rfl ?_
 intro w60 b61 lo_b61 hi_b61 hB63 E62
 have := E62.size
 have ha := ha.keep0 E62
 have hb9 := hb9.keep0 E62
 have hB59 := hB59.keep0 E62
 have hb := zP hb E62 hb.size
 refine op_alloc (cs := [(.int .i64 0), (.int .i64 0), (.int .i64 0), (.string (bs [])), (.string (bs [])), (.string (bs [])), (.slice none 0 0)]) zero28 rfl ?_
 intro w64 b65 lo_b65 hi_b65 hB67 E66
 have := E66.size
 have ha := ha.keep0 E66
 have hb9 := hb9.keep0 E66
 obtain ⟨hB59, hB63⟩ := kb2 E66 hB59 hB63
 have hb := zP hb E66 hb.size
 refine zB ?_
 refine hK55 _ _ (zF fun K68 hK68 => ?_)
 refine zH ?_
 refine zG (zC hN rfl s0) ?_
 refine zY agg28 rfl (zA hN rfl) hB59 ?_
 refine zY agg28 rfl (zA hN rfl) hB63 ?_
 refine op_bslice (e := 28) (pv := [(0, (.agg #[(.int .i64 a.op), (.int .i64 a.vk), (.int .i64 a.vi), (.string (bs a.vt)), (.string (bs a.tb)), (.string (bs a.nm)), a.av])), (1, (.agg #[(.int .i64 b.op), (.int .i64 b.vk), (.int .i64 b.vi), (.string (bs b.vt)), (.string (bs b.tb)), (.string (bs b.nm)), b.av]))]) (cs := [(.int .i64 a.op), (.int .i64 a.vk), (.int .i64 a.vi), (.string (bs a.vt)), (.string (bs a.tb)), (.string (bs a.nm)), a.av, (.int .i64 b.op), (.int .i64 b.vk), (.int .i64 b.vi), (.string (bs b.vt)), (.string (bs b.tb)), (.string (bs b.nm)), b.av]) ⟨rfl, (zA hN rfl), ⟨rfl, (zA hN rfl), trivial⟩⟩ zy ?_
 intro w69 b70 lo_b70 hi_b70 hB72 E71
 have := E71.size
 have ha := ha.keep0 E71
 have hb9 := hb9.keep0 E71
 have hB67 := hB67.keep0 E71
 have hb := zP hb E71 hb.size
 refine zf (pv := [(0, (.int .i64 op)), (4, (.slice (some ⟨b70, 0, none⟩) 2 2))]) (v := (Value.agg #[(.int .i64 op), (.int .i64 0), (.int .i64 0), (.string (bs [])), (.string (bs [])), (.string (bs [])), (.slice (some ⟨b70, 0, none⟩) 2 2)])) ⟨rfl, (zA hN rfl), ⟨rfl, (zA hN rfl), trivial⟩⟩ zy ?_
 refine zZ size28 (zA hN rfl) (zA hN rfl) rfl rfl hB67 rfl ?_
 intro w75 hB67 E76
 have := E76.size
 have ha := ha.keep E76 sR
 have hb9 := hb9.keep E76 sR
 have hB72 := hB72.keep E76 sB
 have hb := below_step1 hb E76 hb.size zx
 refine zB ?_
 refine hK68 _ _ (wp_ret ?_)
 refine retC rfl hd (zA hN rfl) agg28 rfl hB67 ⟨_, rfl, ?_⟩
 exact ⟨hb, _, rfl, XsFr.lit2 (x := a) (x2 := b) hB72 zx hB72.lt (ha.mono (Nat.le_refl _) zx) (hb9.mono (Nat.le_refl _) zx)⟩

theorem once_ret (C : List PItm) (y : List UInt8) (vc : Value) (w : World) (hC : RdC w 0 w.heap.size 3 vc C.length (C.flatMap cellsI)) : Ret Try.prog 83 #[vc, (.string (bs y))] w (fun v' w' => Below w.heap.size w w' ∧ v' = .bool (onceN C y)) := by
 have hlm := rd_len hC
 have hb := Below.refl w.heap.size w
 refine enter (N := 24) Try.func83 rfl rfl (by simp) fun a0 hN hd hA => ?_
 have s0 : a0.tmps.getD 0 undef = vc := hA 0 (by simp)
 have s1 : a0.tmps.getD 1 undef = (.string (bs y)) := hA 1 (by simp)
 clear hA
 refine zF fun K1 hK1 => ?_
 refine zH ?_
 refine zD rfl ?_
 refine zB ?_
 refine hK1 _ _ (zF fun K2 hK2 => ?_)
 refine zH ?_
 refine zD rfl ?_
 refine zB ?_
 refine hK2 _ _ (zF fun K3 hK3 => ?_)
 refine zF fun K4 hK4 => ?_
 refine zH ?_
 refine zD rfl ?_
 refine zB ?_
 refine hK4 _ _ (wp_block ?_)
 refine loop_m (fun mz_ az_ w' => ∃ (i : Nat), mz_ = C.length - i ∧ (az_.tmps.getD 0 undef = vc) ∧ (az_.tmps.getD 1 undef = (.string (bs y))) ∧ (az_.tmps.getD 4 undef = (.bool false)) ∧ (az_.tmps.getD 6 undef = (.int .i64 ((i : Nat) : Int))) ∧ (az_.tmps.getD 5 undef = (.int .i64 (((C.take i).countP (fun x => decide (x.nm = y)) : Nat) : Int))) ∧ (i ≤ C.length) ∧ (Below w.heap.size w w') ∧ (w.heap.size ≤ w'.heap.size) ∧ (RdC w' 0 w.heap.size 3 vc C.length (C.flatMap cellsI))) _ hN hd ⟨0, rfl, (zL hN rfl s0), (zL hN rfl s1), (zU hN rfl), (zU hN rfl), (zU hN rfl).trans rfl, (Nat.zero_le _), hb, (Nat.le_refl _), hC⟩ ?_
 rintro _ a5 w5 hN5 hd5 ⟨i, rfl, s5_0, s5_1, s5_4, s5_6, s5_5, hi, hb, zl_w5, hC⟩
 have := hb.size
 refine zF fun K6 hK6 => ?_
 refine zF fun K7 hK7 => ?_
 refine zH ?_
 refine zG (zC hN5 rfl s5_6) ?_
 refine zG (zC hN5 rfl s5_0) ?_
 refine op_len_rd Try.underlying22 (zA hN5 rfl) hC ?_
 refine op_lss (zA hN5 rfl) (zA hN5 rfl) (fun c10 => ?_) (fun c10 => ?_)
 ·
  refine zB ?_
  refine hK7 _ _ (wp_cond_true (zA hN5 rfl) (wp_skip (hK6 _ _ (zF fun K8 hK8 => ?_))))
  refine wp_block ?_
  refine zF fun K9 hK9 => ?_
  refine zH ?_
  refine zG (zC hN5 rfl s5_0) ?_
  refine zG (zC hN5 rfl s5_6) ?_
  refine zh slt22 (zA hN5 rfl) hC (zA hN5 rfl) zx zx ?_
  intro b10 o11 h0b10 h1b10 hc12
  refine zM fld63_2 (zA hN5 rfl) ?_
  refine zN (v := (Value.string (bs (C.getD i default).nm))) one9 (zA hN5 rfl) (hc12 2 ((.string (bs (C.getD i default).nm))) zz ((el_pi (i := i) zx zx) 2 ((.string (bs (C.getD i default).nm))) rfl)) ?_
  refine zG (zC hN5 rfl s5_1) ?_
  refine op_seql (zA hN5 rfl) (zA hN5 rfl) (fun c19 => ?_) (fun c19 => ?_)
  ·
   refine zB ?_
   refine hK9 _ _ (wp_cond_true (zA hN5 rfl) (zH ?_))
   have hle9 := cnt_le C y i
   refine zG (zC hN5 rfl s5_5) ?_
   refine op_add (zA hN5 rfl) rfl (add64 zx) ?_
   refine zD (zA hN5 rfl) ?_
   refine zB ?_
   refine hK8 _ _ (zH ?_)
   refine zG (zC hN5 rfl s5_6) ?_
   refine op_add (zA hN5 rfl) rfl (add64 zx) ?_
   refine zD (zA hN5 rfl) ?_
   refine zB ?_
   -- round 10T 19T
   exact zg _ hN5 hd5 ⟨(i + 1), rfl, (zL hN5 rfl s5_0), (zL hN5 rfl s5_1), (zL hN5 rfl s5_4), (zU hN5 rfl).trans (congrArg (Value.int .i64) zx), (zU hN5 rfl).trans (congrArg (Value.int .i64) (by rw [cnt_t zx c19]; omega)), zx, hb, zx, hC⟩ zx
  refine zB ?_
  refine hK9 _ _ (wp_cond_false (zA hN5 rfl) (wp_skip (hK8 _ _ (zH ?_))))
  refine zG (zC hN5 rfl s5_6) ?_
  refine op_add (zA hN5 rfl) rfl (add64 zx) ?_
  refine zD (zA hN5 rfl) ?_
  refine zB ?_
  -- round 10T 19F
  exact zg _ hN5 hd5 ⟨(i + 1), rfl, (zL hN5 rfl s5_0), (zL hN5 rfl s5_1), (zL hN5 rfl s5_4), (zU hN5 rfl).trans (congrArg (Value.int .i64) zx), (zL hN5 rfl s5_5).trans (congrArg (Value.int .i64) (by rw [cnt_f zx c19])), zx, hb, zx, hC⟩ zx
 refine zB ?_
 refine hK7 _ _ (wp_cond_false (zA hN5 rfl) (wp_exit (then_exit (then_exit (blk_hit ?_)))))
 refine hK3 _ _ (zF fun K13 hK13 => ?_)
 refine zH ?_
 refine zG (zC hN5 rfl s5_5) ?_
 refine op_eql (zA hN5 rfl) rfl (fun c23 => ?_) (fun c23 => ?_)
 ·
  refine zD (zA hN5 rfl) ?_
  refine zB ?_
  refine hK13 _ _ (wp_ret ?_)
  refine ret1 rfl hd5 (zA hN5 rfl) ⟨_, rfl, ?_⟩
  exact ⟨hb, congrArg Value.bool (by unfold onceN; rw [List.take_of_length_le zx] at c23; exact (decide_eq_true zx).symm)⟩
 refine zD (zA hN5 rfl) ?_
 refine zB ?_
 refine hK13 _ _ (wp_ret ?_)
 refine ret1 rfl hd5 (zA hN5 rfl) ⟨_, rfl, ?_⟩
 exact ⟨hb, congrArg Value.bool (by unfold onceN; rw [List.take_of_length_le zx] at c23; exact (decide_eq_false zx).symm)⟩

theorem pcol_ret {base p n Bp : Nat} {lv : Value} {bl : List UInt8} {C : List PItm} {K : List Int} {vc vk : Value} {Lc Bc : Nat} {k : Int} {w : World} (hpk : PickR w base p lv bl n (fun k => k = p)) (hBp : Bp ≤ p) (hbl : RdC w 0 Bp 1 lv bl.length (bl.map u8v)) (hC : RdC w Lc Bc 3 vc C.length (C.flatMap cellsI)) (hK : RdC w Lc Bc 1 vk K.length (K.map (Value.int .i64))) (hBc : Bc ≤ w.heap.size) (hcp : p < Lc ∨ Bc ≤ p) (hcl : C.length ≤ 1000) : Ret Try.prog 54 #[(ptr p 0), vc, vk, (.int .i64 k)] w (fun v' w' => Gr w w' (fun k => k = p) ∧ ∃ (e : XE) (b : Bool), v' = .tuple #[(.agg #[(.int .i64 e.op), (.int .i64 e.vk), (.int .i64 e.vi), (.string (bs e.vt)), (.string (bs e.tb)), (.string (bs e.nm)), e.av]), .bool b] ∧ XFr w' w.heap.size w'.heap.size e ∧ (b = true → GoodC C K → kindX C K e = (k, 0)) ∧ ∃ n' : Nat, PickR w' base p lv bl n' (fun k => k = p) ∧ n ≤ n') := by
 have hi_p : p < w.heap.size := (hpk.lt p rfl).2
 have hlm := rd_len hC
 have hlk := rd_len hK
 have hb := Gr.refl w (fun k => k = p)
 refine enter (N := 66) Try.func54 rfl rfl (by simp) fun a0 hN hd hA => ?_
 have s0 : a0.tmps.getD 0 undef = (ptr p 0) := hA 0 (by simp)
 have s1 : a0.tmps.getD 1 undef = vc := hA 1 (by simp)
 have s2 : a0.tmps.getD 2 undef = vk := hA 2 (by simp)
 have s3 : a0.tmps.getD 3 undef = (.int .i64 k) := hA 3 (by simp)
 clear hA
 refine zF fun K1 hK1 => ?_
 refine zH ?_
 refine op_alloc (cs := [(.int .i64 0), (.int .i64 0), (.int .i64 0), (.string (bs [])), (.string (bs [])), (.string (bs [])), (.slice none 0 0)]) zero28 rfl ?_
 intro w2 b3 lo_b3 hi_b3 hB5 E4
 have dj6 : ¬ (fun k => k = p) b3 := fun hf => by have := (hpk.lt _ hf).2; omega
 have := E4.size
 have hpk := hpk.keepG (zi E4 NoB) (fun _ _ h => h)
 have hbl := hbl.keep0 E4
 have hC := hC.keep0 E4
 have hK := hK.keep0 E4
 have hb := hb.step0 E4
 refine zD rfl ?_
 refine zB ?_
 refine hK1 _ _ (zF fun K7 hK7 => ?_)
 refine zH ?_
 refine zD rfl ?_
 refine zB ?_
 refine hK7 _ _ (zF fun K8 hK8 => ?_)
 refine zF fun K9 hK9 => ?_
 refine zH ?_
 refine zD rfl ?_
 refine zB ?_
 refine hK9 _ _ (wp_block ?_)
 refine loop_m (fun mz_ az_ w' => ∃ (i : Nat) (lv2 : Value), mz_ = C.length - i ∧ (az_.tmps.getD 0 undef = (ptr p 0)) ∧ (az_.tmps.getD 1 undef = vc) ∧ (az_.tmps.getD 2 undef = vk) ∧ (az_.tmps.getD 3 undef = (.int .i64 k)) ∧ (az_.tmps.getD 8 undef = (ptr b3 0)) ∧ (az_.tmps.getD 9 undef = (.bool false)) ∧ (az_.tmps.getD 11 undef = (.int .i64 ((i : Nat) : Int))) ∧ (az_.tmps.getD 10 undef = lv2) ∧ (i ≤ C.length ∧ i ≤ K.length) ∧ ((ofK C K k i).length ≤ i) ∧ (Gr w w' (fun k => k = p)) ∧ (w2.heap.size ≤ w'.heap.size) ∧ (PickR w' base p lv bl n (fun k => k = p)) ∧ (RdC w' 0 Bp 1 lv bl.length (bl.map u8v)) ∧ (RdC w' Lc Bc 3 vc C.length (C.flatMap cellsI)) ∧ (RdC w' Lc Bc 1 vk K.length (K.map (Value.int .i64))) ∧ (Bx w' b3 28 [(.int .i64 0), (.int .i64 0), (.int .i64 0), (.string (bs [])), (.string (bs [])), (.string (bs [])), (.slice none 0 0)]) ∧ (Own w' w.heap.size 63 3 lv2 (ofK C K k i).length ((ofK C K k i).flatMap cellsI))) _ hN hd ⟨0, (.slice none 0 0), rfl, (zL hN rfl s0), (zL hN rfl s1), (zL hN rfl s2), (zL hN rfl s3), (zU hN rfl), (zU hN rfl), (zU hN rfl), (zU hN rfl), ⟨Nat.zero_le _, Nat.zero_le _⟩, (Nat.zero_le _), hb, (Nat.le_refl _), hpk, hbl, hC, hK, hB5, (Own.nil _ _ _ _)⟩ ?_
 rintro _ a10 w10 hN10 hd10 ⟨i, lv2, rfl, s10_0, s10_1, s10_2, s10_3, s10_8, s10_9, s10_11, s10_10, hi, hko, hb, zl_w10, hpk, hbl, hC, hK, hB5, hO11⟩
 have := hb.size
 refine zF fun K12 hK12 => ?_
 refine zF fun K13 hK13 => ?_
 refine zH ?_
 refine zG (zC hN10 rfl s10_11) ?_
 refine zG (zC hN10 rfl s10_1) ?_
 refine op_len_rd Try.underlying22 (zA hN10 rfl) hC ?_
 refine op_lss (zA hN10 rfl) (zA hN10 rfl) (fun c17 => ?_) (fun c17 => ?_)
 ·
  refine zG (zA hN10 rfl) ?_
  refine zS (j := 4) (dj := 18) (b := true) rfl rfl rfl (zA hN10 rfl) ?_
  refine zG (zC hN10 rfl s10_11) ?_
  refine zS (j := 4) (dj := 18) (b := true) rfl rfl rfl (zA hN10 rfl) ?_
  refine zG (zC hN10 rfl s10_2) ?_
  refine zS (j := 4) (dj := 18) (b := true) rfl rfl rfl (zA hN10 rfl) ?_
  refine op_len_rd Try.underlying23 (zA hN10 rfl) hK ?_
  refine zS (j := 4) (dj := 18) (b := true) rfl rfl rfl (zA hN10 rfl) ?_
  refine op_lss (zA hN10 rfl) (zA hN10 rfl) (fun c22 => ?_) (fun c22 => ?_)
  ·
   refine zc (zA hN10 rfl) (zA hN10 rfl) ?_
   refine zB ?_
   refine hK13 _ _ (wp_cond_true (zA hN10 rfl) (wp_skip (hK12 _ _ (zF fun K14 hK14 => ?_))))
   refine wp_block ?_
   refine zF fun K15 hK15 => ?_
   refine zH ?_
   refine zG (zC hN10 rfl s10_2) ?_
   refine zG (zC hN10 rfl s10_11) ?_
   refine zh slt23 (zA hN10 rfl) hK (zA hN10 rfl) zx zx ?_
   intro b16 o17 h0b16 h1b16 hc18
   refine zN (v := (Value.int .i64 (K.getD i 0))) one3 (zA hN10 rfl) (by have := hc18 0 (.int .i64 (K.getD i 0)) zz (el_i64 (i := i) zx zx); simpa using this) ?_
   refine zG (zC hN10 rfl s10_3) ?_
   refine op_eql (zA hN10 rfl) (zA hN10 rfl) (fun c31 => ?_) (fun c31 => ?_)
   ·
    refine zB ?_
    refine hK15 _ _ (wp_cond_true (zA hN10 rfl) (zH ?_))
    refine zG (zC hN10 rfl s10_10) ?_
    refine zG (zC hN10 rfl s10_1) ?_
    refine zG (zC hN10 rfl s10_11) ?_
    refine zh slt22 (zA hN10 rfl) hC (zA hN10 rfl) zx zx ?_
    intro b19 o20 h0b19 h1b19 hc21
    refine zX (cs := [(.int .i64 (C.getD i default).agg), (.string (bs (C.getD i default).tb)), (.string (bs (C.getD i default).nm))]) agg63 rfl (zA hN10 rfl) (fun j u hu => hc21 j u (by have := (List.getElem?_eq_some_iff.1 hu).1; simpa using this) ((el_pi (i := i) zx zx) j u hu)) ?_
    refine op_bslice (e := 63) (pv := [(0, (.agg #[(.int .i64 (C.getD i default).agg), (.string (bs (C.getD i default).tb)), (.string (bs (C.getD i default).nm))]))]) (cs := [(.int .i64 (C.getD i default).agg), (.string (bs (C.getD i default).tb)), (.string (bs (C.getD i default).nm))]) ⟨rfl, (zA hN10 rfl), trivial⟩ zy ?_
    intro w22 b23 lo_b23 hi_b23 hB25 E24
    have dj26 : ¬ (fun k => k = p) b23 := fun hf => by have := (hpk.lt _ hf).2; omega
    have := E24.size
    have hpk := hpk.keepG (zi E24 NoB) (fun _ _ h => h)
    have hbl := hbl.keep0 E24
    have hC := hC.keep0 E24
    have hK := hK.keep0 E24
    have hB5 := hB5.keep0 E24
    have hO11 := hO11.keep0 E24
    have hb := hb.step0 E24
    have hP32 := hO11
    refine op_append slt22 (zA hN10 rfl) hP32 (zA hN10 rfl) (Src.ofRd Try.underlying22 zz (RdC.ofBx (sz := 3) (n := 1) hB25 rfl zz) (by simp [Value.oneCell', u8v])) (by unfold maxLen; omega) zx hb.size ?_
    intro v27 w28 hO30 E29 hm31
    have := E29.size
    have hpk := hpk.keepG (Gr.of E29) (hpk.notOwn hP32 zz).symm
    have hbl := hbl.keepO hP32 E29 zx
    have hC := hC.keepO hP32 E29 zx
    have hK := hK.keepO hP32 E29 zx
    have hB5 := hB5.keepO hP32 E29 zz
    have hb := hb.stepO hP32 E29 zx
    have hO30 : Own w28 w.heap.size 63 3 v27 ((ofK C K k i).length + 1) ((((ofK C K k i) ++ [(PItm.mk ((C.getD i default).agg) ((C.getD i default).tb) ((C.getD i default).nm))])).flatMap cellsI) := by simpa [u8v, u16v, sv, cellsI] using hO30
    refine zD (zA hN10 rfl) ?_
    refine zB ?_
    refine hK14 _ _ (zH ?_)
    refine zG (zC hN10 rfl s10_11) ?_
    refine op_add (zA hN10 rfl) rfl (add64 zx) ?_
    refine zD (zA hN10 rfl) ?_
    refine zB ?_
    -- round 17T 22T 31T
    exact zg _ hN10 hd10 ⟨(i + 1), v27, rfl, (zL hN10 rfl s10_0), (zL hN10 rfl s10_1), (zL hN10 rfl s10_2), (zL hN10 rfl s10_3), (zL hN10 rfl s10_8), (zL hN10 rfl s10_9), (zU hN10 rfl).trans (congrArg (Value.int .i64) zx), (zU hN10 rfl), zx, (ofK_le _ _ _ _), hb, zx, hpk, hbl, hC, hK, hB5, (hO30.cast (by rw [ofK_t c31] <;> simp) (by rw [ofK_t c31] <;> simp [cellsI]))⟩ zx
   refine zB ?_
   refine hK15 _ _ (wp_cond_false (zA hN10 rfl) (wp_skip (hK14 _ _ (zH ?_))))
   refine zG (zC hN10 rfl s10_11) ?_
   refine op_add (zA hN10 rfl) rfl (add64 zx) ?_
   refine zD (zA hN10 rfl) ?_
   refine zB ?_
   -- round 17T 22T 31F
   exact zg _ hN10 hd10 ⟨(i + 1), lv2, rfl, (zL hN10 rfl s10_0), (zL hN10 rfl s10_1), (zL hN10 rfl s10_2), (zL hN10 rfl s10_3), (zL hN10 rfl s10_8), (zL hN10 rfl s10_9), (zU hN10 rfl).trans (congrArg (Value.int .i64) zx), (zL hN10 rfl s10_10), zx, (ofK_le _ _ _ _), hb, zx, hpk, hbl, hC, hK, hB5, (hO11.cast (by rw [ofK_f c31]) (by rw [ofK_f c31]))⟩ zx
  refine zc (zA hN10 rfl) (zA hN10 rfl) ?_
  refine zB ?_
  refine hK13 _ _ (wp_cond_false (zA hN10 rfl) (wp_exit (then_exit (then_exit (blk_hit ?_)))))
  refine hK8 _ _ (zF fun K34 hK34 => ?_)
  refine zF fun K35 hK35 => ?_
  refine zH ?_
  refine zG (zC hN10 rfl s10_10) ?_
  refine op_len_rd Try.underlying22 (zA hN10 rfl) hO11.rdw ?_
  refine op_eql (zA hN10 rfl) rfl (fun c41 => ?_) (fun c41 => ?_)
  ·
   refine zB ?_
   refine hK35 _ _ (wp_cond_true (zA hN10 rfl) (zF fun K36 hK36 => ?_))
   refine zH ?_
   refine zf (pv := []) (v := (Value.agg #[(.int .i64 0), (.int .i64 0), (.int .i64 0), (.string (bs [])), (.string (bs [])), (.string (bs [])), (.slice none 0 0)])) trivial zy ?_
   refine zZ size28 (zC hN10 rfl s10_8) (zA hN10 rfl) rfl rfl hB5 rfl ?_
   intro w39 hB5 E40
   have := E40.size
   have hpk := hpk.keepG (Gr.of E40) (Dj.one dj6)
   have hb := hb.step1 E40 zx
   refine zD rfl ?_
   refine zB ?_
   refine hK36 _ _ (wp_ret (zO ( ?_)))
   refine retN (rs := [.cell 8 28, .tmp 9]) (vs := [(.agg #[(.int .i64 0), (.int .i64 0), (.int .i64 0), (.string (bs [])), (.string (bs [])), (.string (bs [])), (.slice none 0 0)]), (.bool false)]) rfl hd10 ⟨⟨_, (zC hN10 rfl s10_8), run_loadA (cs := [(.int .i64 0), (.int .i64 0), (.int .i64 0), (.string (bs [])), (.string (bs [])), (.string (bs [])), (.slice none 0 0)]) agg28 rfl (fun j u hu => by rw [Nat.zero_add]; exact hB5.cell hu)⟩, ⟨(zA hN10 rfl), trivial⟩⟩ rfl ⟨_, rfl, ?_⟩
   exact ⟨hb, (XE.mk 0 0 0 [] [] [] (.slice none 0 0) []), false, rfl, .leaf rfl rfl, (fun h9 => (by cases h9)), n, hpk, by omega⟩
  refine zB ?_
  refine hK35 _ _ (wp_cond_false (zA hN10 rfl) (wp_skip (hK34 _ _ (zF fun K41 hK41 => ?_))))
  refine zH ?_
  refine zG (zC hN10 rfl s10_10) ?_
  refine zG (zC hN10 rfl s10_0) ?_
  refine zG (zC hN10 rfl s10_10) ?_
  refine op_len_rd Try.underlying22 (zA hN10 rfl) hO11.rdw ?_
  refine zj ok35 (Num_ret (m := ((ofK C K k i).length)) hpk zx hbl zx zx) ⟨(zA hN10 rfl), ⟨(zA hN10 rfl), trivial⟩⟩ ?_
  rintro _ w43 ⟨E44, r42, rfl, hr42, n42, hk42, hn42, hn42x⟩
  have hpk_old := hpk
  have := E44.size
  have hbl := hbl.keepG E44 (fun k hk => .inr (by have := hpk_old.lt k hk; omega))
  have hC := hC.keepG E44 sP
  have hB5 := hB5.keepG E44 dj6
  have hO11 := hO11.keepG E44 (hpk_old.notOwn hO11 zz)
  have hb := hb.stepF E44 (fun _ _ h => h)
  refine zh slt22 (zA hN10 rfl) hO11.rdw (zA hN10 rfl) zx zx ?_
  intro b45 o46 h0b45 h1b45 hc47
  refine zX (cs := [(.int .i64 ((ofK C K k i).getD r42 default).agg), (.string (bs ((ofK C K k i).getD r42 default).tb)), (.string (bs ((ofK C K k i).getD r42 default).nm))]) agg63 rfl (zA hN10 rfl) (fun j u hu => hc47 j u (by have := (List.getElem?_eq_some_iff.1 hu).1; simpa using this) ((el_pi (i := r42) zx zx) j u hu)) ?_
  refine op_alloc (cs := [(.int .i64 0), (.string (bs [])), (.string (bs []))]) zero63 rfl ?_
  intro w48 b49 lo_b49 hi_b49 hB51 E50
  have dj52 : ¬ (fun k => k = p) b49 := fun hf => by have := (hk42.lt _ hf).2; omega
  have := E50.size
  have hbl := hbl.keep0 E50
  have hC := hC.keep0 E50
  have hB5 := hB5.keep0 E50
  have hk42 := hk42.keepG (zi E50 NoB) (fun _ _ h => h)
  have hb := hb.step0 E50
  have hB51_old := hB51
  refine zZ size63 (zA hN10 rfl) (zA hN10 rfl) rfl rfl hB51 rfl ?_
  intro w55 hB51 E56
  have := E56.size
  have hbl := hbl.keep E56 sR
  have hC := hC.keep E56 sO
  have hB5 := hB5.keep E56 (sN hB5 hB51_old)
  have hk42 := hk42.keepG (Gr.of E56) (Dj.one dj52)
  have hb := hb.step1 E56 zx
  refine zB ?_
  refine hK41 _ _ (zF fun K57 hK57 => ?_)
  refine zH ?_
  refine zM fld63_2 (zA hN10 rfl) ?_
  refine zN (v := (Value.string (bs ((ofK C K k i).getD r42 default).nm))) one9 (zA hN10 rfl) (hB51.cell rfl) ?_
  refine zM fld63_1 (zA hN10 rfl) ?_
  refine zN (v := (Value.string (bs ((ofK C K k i).getD r42 default).tb))) one9 (zA hN10 rfl) (hB51.cell rfl) ?_
  refine zf (pv := [(0, (.int .i64 2)), (3, (.string (bs ((ofK C K k i).getD r42 default).nm))), (2, (.string (bs ((ofK C K k i).getD r42 default).tb)))]) (v := (Value.agg #[(.int .i64 2), (.int .i64 0), (.int .i64 0), (.string (bs [])), (.string (bs ((ofK C K k i).getD r42 default).tb)), (.string (bs ((ofK C K k i).getD r42 default).nm)), (.slice none 0 0)])) ⟨rfl, rfl, ⟨rfl, (zA hN10 rfl), ⟨rfl, (zA hN10 rfl), trivial⟩⟩⟩ zy ?_
  refine op_alloc (cs := [(.int .i64 0), (.int .i64 0), (.int .i64 0), (.string (bs [])), (.string (bs [])), (.string (bs [])), (.slice none 0 0)]) zero28 rfl ?_
  intro w58 b59 lo_b59 hi_b59 hB61 E60
  have dj62 : ¬ (fun k => k = p) b59 := fun hf => by have := (hk42.lt _ hf).2; omega
  have := E60.size
  have hbl := hbl.keep0 E60
  have hC := hC.keep0 E60
  have hB5 := hB5.keep0 E60
  have hk42 := hk42.keepG (zi E60 NoB) (fun _ _ h => h)
  have hB51 := hB51.keep0 E60
  have hb := hb.step0 E60
  have hB61_old := hB61
  refine zZ size28 (zA hN10 rfl) (zA hN10 rfl) rfl rfl hB61 rfl ?_
  intro w65 hB61 E66
  have := E66.size
  have hbl := hbl.keep E66 sR
  have hC := hC.keep E66 sO
  have hB5 := hB5.keep E66 sB
  have hk42 := hk42.keepG (Gr.of E66) (Dj.one dj62)
  have hB51 := hB51.keep E66 (sN hB51 hB61_old)
  have hb := hb.step1 E66 zx
  refine zB ?_
  refine hK57 _ _ (zF fun K67 hK67 => ?_)
  refine zF fun K68 hK68 => ?_
  refine zH ?_
  refine zG (zC hN10 rfl s10_0) ?_
  refine zj ok35 (Num_ret (m := 3) hk42 zx hbl zx zx) ⟨(zA hN10 rfl), ⟨rfl, trivial⟩⟩ ?_
  rintro _ w70 ⟨E71, r69, rfl, hr69, n69, hk69, hn69, hn69x⟩
  have := E71.size
  have hC := hC.keepG E71 sP
  have hB5 := hB5.keepG E71 dj6
  have hB51 := hB51.keepG E71 dj52
  have hB61 := hB61.keepG E71 dj62
  have hb := hb.stepF E71 (fun _ _ h => h)
  refine op_gtr (zA hN10 rfl) rfl (fun c57 => ?_) (fun c57 => ?_)
  ·
   refine zG (zA hN10 rfl) ?_
   refine zS (j := 3) (dj := 58) (b := true) rfl rfl rfl (zA hN10 rfl) ?_
   refine zG (zC hN10 rfl s10_1) ?_
   refine zS (j := 3) (dj := 58) (b := true) rfl rfl rfl (zA hN10 rfl) ?_
   refine zM fld63_2 (zA hN10 rfl) ?_
   refine zS (j := 3) (dj := 58) (b := true) rfl rfl rfl (zA hN10 rfl) ?_
   refine zN (v := (Value.string (bs ((ofK C K k i).getD r42 default).nm))) one9 (zA hN10 rfl) (hB51.cell rfl) ?_
   refine zS (j := 3) (dj := 58) (b := true) rfl rfl rfl (zA hN10 rfl) ?_
   refine zj ok83 (once_ret C (((ofK C K k i).getD r42 default).nm) _ _ (hC.mono (Nat.zero_le _) zx)) ⟨(zA hN10 rfl), ⟨(zA hN10 rfl), trivial⟩⟩ ?_
   rintro _ w72 ⟨E73, rfl⟩
   have E73 := zQ E73
   have := E73.size
   obtain ⟨hB5, hB61⟩ := kb2 E73 hB5 hB61
   have hk69 := hk69.keepG (zi E73 NoB) (fun _ _ h => h)
   have hb := hb.step0 E73
   rcases Bool.eq_false_or_eq_true ((onceN C (((ofK C K k i).getD r42 default).nm))) with c62 | c62
   ·
    rw [c62]
    refine zc (zA hN10 rfl) (zA hN10 rfl) ?_
    refine zB ?_
    refine hK68 _ _ (wp_cond_true (zA hN10 rfl) (zH ?_))
    refine zM fld28_2 (zA hN10 rfl) ?_
    refine za (vs := [(.string (bs []))]) (cs' := [(.int .i64 2), (.int .i64 0), (.int .i64 0), (.string (bs [])), (.string (bs [])), (.string (bs ((ofK C K k i).getD r42 default).nm)), (.slice none 0 0)]) size9 (zA hN10 rfl) rfl rfl rfl rfl hB61 (zI rfl) rfl ?_
    intro w76 hB61 E77
    have := E77.size
    have hB5 := hB5.keep E77 sB
    have hk69 := hk69.keepG (Gr.of E77) (Dj.one dj62)
    have hb := hb.step1 E77 zx
    refine zB ?_
    refine hK67 _ _ (zF fun K78 hK78 => ?_)
    refine zH ?_
    refine zY agg28 rfl (zA hN10 rfl) hB61 ?_
    refine zZ size28 (zC hN10 rfl s10_8) (zA hN10 rfl) rfl rfl hB5 rfl ?_
    intro w81 hB5 E82
    have := E82.size
    have hk69 := hk69.keepG (Gr.of E82) (Dj.one dj6)
    have hb := hb.step1 E82 zx
    refine zD rfl ?_
    refine zB ?_
    refine hK78 _ _ (wp_ret ?_)
    refine retN (rs := [.cell 8 28, .tmp 9]) (vs := [(.agg #[(.int .i64 2), (.int .i64 0), (.int .i64 0), (.string (bs [])), (.string (bs [])), (.string (bs ((ofK C K k i).getD r42 default).nm)), (.slice none 0 0)]), (.bool true)]) rfl hd10 ⟨⟨_, (zC hN10 rfl s10_8), run_loadA (cs := [(.int .i64 2), (.int .i64 0), (.int .i64 0), (.string (bs [])), (.string (bs [])), (.string (bs ((ofK C K k i).getD r42 default).nm)), (.slice none 0 0)]) agg28 rfl (fun j u hu => by rw [Nat.zero_add]; exact hB5.cell hu)⟩, ⟨(zA hN10 rfl), trivial⟩⟩ rfl ⟨_, rfl, ?_⟩
    exact ⟨hb, (XE.mk 2 0 0 [] [] (((ofK C K k i).getD r42 default).nm) (.slice none 0 0) []), true, rfl, .leaf rfl rfl, (fun _ hg => kind_col rfl rfl ((ofK_good hr42 zx hg).2 (by assumption))), n69, hk69, by omega⟩
   rw [c62]
   refine zc (zA hN10 rfl) (zA hN10 rfl) ?_
   refine zB ?_
   refine hK68 _ _ (wp_cond_false (zA hN10 rfl) (wp_skip (hK67 _ _ (zF fun K83 hK83 => ?_))))
   refine zH ?_
   refine zY agg28 rfl (zA hN10 rfl) hB61 ?_
   refine zZ size28 (zC hN10 rfl s10_8) (zA hN10 rfl) rfl rfl hB5 rfl ?_
   intro w86 hB5 E87
   have := E87.size
   have hk69 := hk69.keepG (Gr.of E87) (Dj.one dj6)
   have hb := hb.step1 E87 zx
   refine zD rfl ?_
   refine zB ?_
   refine hK83 _ _ (wp_ret ?_)
   refine retN (rs := [.cell 8 28, .tmp 9]) (vs := [(.agg #[(.int .i64 2), (.int .i64 0), (.int .i64 0), (.string (bs [])), (.string (bs ((ofK C K k i).getD r42 default).tb)), (.string (bs ((ofK C K k i).getD r42 default).nm)), (.slice none 0 0)]), (.bool true)]) rfl hd10 ⟨⟨_, (zC hN10 rfl s10_8), run_loadA (cs := [(.int .i64 2), (.int .i64 0), (.int .i64 0), (.string (bs [])), (.string (bs ((ofK C K k i).getD r42 default).tb)), (.string (bs ((ofK C K k i).getD r42 default).nm)), (.slice none 0 0)]) agg28 rfl (fun j u hu => by rw [Nat.zero_add]; exact hB5.cell hu)⟩, ⟨(zA hN10 rfl), trivial⟩⟩ rfl ⟨_, rfl, ?_⟩
   exact ⟨hb, (XE.mk 2 0 0 [] (((ofK C K k i).getD r42 default).tb) (((ofK C K k i).getD r42 default).nm) (.slice none 0 0) []), true, rfl, .leaf rfl rfl, (fun _ hg => kind_col rfl rfl ((ofK_good hr42 zx hg).1)), n69, hk69, by omega⟩
  refine zG (zA hN10 rfl) ?_
  refine zR (j := 3) (dj := 58) (b := true) rfl rfl rfl (zA hN10 rfl) rfl rfl ?_
  refine zR (j := 3) (dj := 58) (b := true) rfl rfl rfl (zA hN10 rfl) rfl rfl ?_
  refine zR (j := 3) (dj := 58) (b := true) rfl rfl rfl (zA hN10 rfl) rfl rfl ?_
  refine zR (j := 3) (dj := 58) (b := true) rfl rfl rfl (zA hN10 rfl) rfl rfl ?_
  refine zd (zA hN10 rfl) rfl ?_
  refine zB ?_
  refine hK68 _ _ (wp_cond_false (zA hN10 rfl) (wp_skip (hK67 _ _ (zF fun K88 hK88 => ?_))))
  refine zH ?_
  refine zY agg28 rfl (zA hN10 rfl) hB61 ?_
  refine zZ size28 (zC hN10 rfl s10_8) (zA hN10 rfl) rfl rfl hB5 rfl ?_
  intro w91 hB5 E92
  have := E92.size
  have hk69 := hk69.keepG (Gr.of E92) (Dj.one dj6)
  have hb := hb.step1 E92 zx
  refine zD rfl ?_
  refine zB ?_
  refine hK88 _ _ (wp_ret ?_)
  refine retN (rs := [.cell 8 28, .tmp 9]) (vs := [(.agg #[(.int .i64 2), (.int .i64 0), (.int .i64 0), (.string (bs [])), (.string (bs ((ofK C K k i).getD r42 default).tb)), (.string (bs ((ofK C K k i).getD r42 default).nm)), (.slice none 0 0)]), (.bool true)]) rfl hd10 ⟨⟨_, (zC hN10 rfl s10_8), run_loadA (cs := [(.int .i64 2), (.int .i64 0), (.int .i64 0), (.string (bs [])), (.string (bs ((ofK C K k i).getD r42 default).tb)), (.string (bs ((ofK C K k i).getD r42 default).nm)), (.slice none 0 0)]) agg28 rfl (fun j u hu => by rw [Nat.zero_add]; exact hB5.cell hu)⟩, ⟨(zA hN10 rfl), trivial⟩⟩ rfl ⟨_, rfl, ?_⟩
  exact ⟨hb, (XE.mk 2 0 0 [] (((ofK C K k i).getD r42 default).tb) (((ofK C K k i).getD r42 default).nm) (.slice none 0 0) []), true, rfl, .leaf rfl rfl, (fun _ hg => kind_col rfl rfl ((ofK_good hr42 zx hg).1)), n69, hk69, by omega⟩
 refine zG (zA hN10 rfl) ?_
 refine zR (j := 4) (dj := 18) (b := true) rfl rfl rfl (zA hN10 rfl) rfl rfl ?_
 refine zR (j := 4) (dj := 18) (b := true) rfl rfl rfl (zA hN10 rfl) rfl rfl ?_
 refine zR (j := 4) (dj := 18) (b := true) rfl rfl rfl (zA hN10 rfl) rfl rfl ?_
 refine zR (j := 4) (dj := 18) (b := true) rfl rfl rfl (zA hN10 rfl) rfl rfl ?_
 refine zd (zA hN10 rfl) rfl ?_
 refine zB ?_
 refine hK13 _ _ (wp_cond_false (zA hN10 rfl) (wp_exit (then_exit (then_exit (blk_hit ?_)))))
 refine hK8 _ _ (zF fun K93 hK93 => ?_)
 refine zF fun K94 hK94 => ?_
 refine zH ?_
 refine zG (zC hN10 rfl s10_10) ?_
 refine op_len_rd Try.underlying22 (zA hN10 rfl) hO11.rdw ?_
 refine op_eql (zA hN10 rfl) rfl (fun c41 => ?_) (fun c41 => ?_)
 ·
  refine zB ?_
  refine hK94 _ _ (wp_cond_true (zA hN10 rfl) (zF fun K95 hK95 => ?_))
  refine zH ?_
  refine zf (pv := []) (v := (Value.agg #[(.int .i64 0), (.int .i64 0), (.int .i64 0), (.string (bs [])), (.string (bs [])), (.string (bs [])), (.slice none 0 0)])) trivial zy ?_
  refine zZ size28 (zC hN10 rfl s10_8) (zA hN10 rfl) rfl rfl hB5 rfl ?_
  intro w98 hB5 E99
  have := E99.size
  have hpk := hpk.keepG (Gr.of E99) (Dj.one dj6)
  have hb := hb.step1 E99 zx
  refine zD rfl ?_
  refine zB ?_
  refine hK95 _ _ (wp_ret (zO ( ?_)))
  refine retN (rs := [.cell 8 28, .tmp 9]) (vs := [(.agg #[(.int .i64 0), (.int .i64 0), (.int .i64 0), (.string (bs [])), (.string (bs [])), (.string (bs [])), (.slice none 0 0)]), (.bool false)]) rfl hd10 ⟨⟨_, (zC hN10 rfl s10_8), run_loadA (cs := [(.int .i64 0), (.int .i64 0), (.int .i64 0), (.string (bs [])), (.string (bs [])), (.string (bs [])), (.slice none 0 0)]) agg28 rfl (fun j u hu => by rw [Nat.zero_add]; exact hB5.cell hu)⟩, ⟨(zA hN10 rfl), trivial⟩⟩ rfl ⟨_, rfl, ?_⟩
  exact ⟨hb, (XE.mk 0 0 0 [] [] [] (.slice none 0 0) []), false, rfl, .leaf rfl rfl, (fun h9 => (by cases h9)), n, hpk, by omega⟩
 refine zB ?_
 refine hK94 _ _ (wp_cond_false (zA hN10 rfl) (wp_skip (hK93 _ _ (zF fun K100 hK100 => ?_))))
 refine zH ?_
 refine zG (zC hN10 rfl s10_10) ?_
 refine zG (zC hN10 rfl s10_0) ?_
 refine zG (zC hN10 rfl s10_10) ?_
 refine op_len_rd Try.underlying22 (zA hN10 rfl) hO11.rdw ?_
 refine zj ok35 (Num_ret (m := ((ofK C K k i).length)) hpk zx hbl zx zx) ⟨(zA hN10 rfl), ⟨(zA hN10 rfl), trivial⟩⟩ ?_
 rintro _ w102 ⟨E103, r101, rfl, hr101, n101, hk101, hn101, hn101x⟩
 have hpk_old := hpk
 have := E103.size
 have hbl := hbl.keepG E103 (fun k hk => .inr (by have := hpk_old.lt k hk; omega))
 have hC := hC.keepG E103 sP
 have hB5 := hB5.keepG E103 dj6
 have hO11 := hO11.keepG E103 (hpk_old.notOwn hO11 zz)
 have hb := hb.stepF E103 (fun _ _ h => h)
 refine zh slt22 (zA hN10 rfl) hO11.rdw (zA hN10 rfl) zx zx ?_
 intro b104 o105 h0b104 h1b104 hc106
 refine zX (cs := [(.int .i64 ((ofK C K k i).getD r101 default).agg), (.string (bs ((ofK C K k i).getD r101 default).tb)), (.string (bs ((ofK C K k i).getD r101 default).nm))]) agg63 rfl (zA hN10 rfl) (fun j u hu => hc106 j u (by have := (List.getElem?_eq_some_iff.1 hu).1; simpa using this) ((el_pi (i := r101) zx zx) j u hu)) ?_
 refine op_alloc (cs := [(.int .i64 0), (.string (bs [])), (.string (bs []))]) zero63 rfl ?_
 intro w107 b108 lo_b108 hi_b108 hB110 E109
 have dj111 : ¬ (fun k => k = p) b108 := fun hf => by have := (hk101.lt _ hf).2; omega
 have := E109.size
 have hbl := hbl.keep0 E109
 have hC := hC.keep0 E109
 have hB5 := hB5.keep0 E109
 have hk101 := hk101.keepG (zi E109 NoB) (fun _ _ h => h)
 have hb := hb.step0 E109
 have hB110_old := hB110
 refine zZ size63 (zA hN10 rfl) (zA hN10 rfl) rfl rfl hB110 rfl ?_
 intro w114 hB110 E115
 have := E115.size
 have hbl := hbl.keep E115 sR
 have hC := hC.keep E115 sO
 have hB5 := hB5.keep E115 (sN hB5 hB110_old)
 have hk101 := hk101.keepG (Gr.of E115) (Dj.one dj111)
 have hb := hb.step1 E115 zx
 refine zB ?_
 refine hK100 _ _ (zF fun K116 hK116 => ?_)
 refine zH ?_
 refine zM fld63_2 (zA hN10 rfl) ?_
 refine zN (v := (Value.string (bs ((ofK C K k i).getD r101 default).nm))) one9 (zA hN10 rfl) (hB110.cell rfl) ?_
 refine zM fld63_1 (zA hN10 rfl) ?_
 refine zN (v := (Value.string (bs ((ofK C K k i).getD r101 default).tb))) one9 (zA hN10 rfl) (hB110.cell rfl) ?_
 refine zf (pv := [(0, (.int .i64 2)), (3, (.string (bs ((ofK C K k i).getD r101 default).nm))), (2, (.string (bs ((ofK C K k i).getD r101 default).tb)))]) (v := (Value.agg #[(.int .i64 2), (.int .i64 0), (.int .i64 0), (.string (bs [])), (.string (bs ((ofK C K k i).getD r101 default).tb)), (.string (bs ((ofK C K k i).getD r101 default).nm)), (.slice none 0 0)])) ⟨rfl, rfl, ⟨rfl, (zA hN10 rfl), ⟨rfl, (zA hN10 rfl), trivial⟩⟩⟩ zy ?_
 refine op_alloc (cs := [(.int .i64 0), (.int .i64 0), (.int .i64 0), (.string (bs [])), (.string (bs [])), (.string (bs [])), (.slice none 0 0)]) zero28 rfl ?_
 intro w117 b118 lo_b118 hi_b118 hB120 E119
 have dj121 : ¬ (fun k => k = p) b118 := fun hf => by have := (hk101.lt _ hf).2; omega
 have := E119.size
 have hbl := hbl.keep0 E119
 have hC := hC.keep0 E119
 have hB5 := hB5.keep0 E119
 have hk101 := hk101.keepG (zi E119 NoB) (fun _ _ h => h)
 have hB110 := hB110.keep0 E119
 have hb := hb.step0 E119
 have hB120_old := hB120
 refine zZ size28 (zA hN10 rfl) (zA hN10 rfl) rfl rfl hB120 rfl ?_
 intro w124 hB120 E125
 have := E125.size
 have hbl := hbl.keep E125 sR
 have hC := hC.keep E125 sO
 have hB5 := hB5.keep E125 sB
 have hk101 := hk101.keepG (Gr.of E125) (Dj.one dj121)
 have hB110 := hB110.keep E125 (sN hB110 hB120_old)
 have hb := hb.step1 E125 zx
 refine zB ?_
 refine hK116 _ _ (zF fun K126 hK126 => ?_)
 refine zF fun K127 hK127 => ?_
 refine zH ?_
 refine zG (zC hN10 rfl s10_0) ?_
 refine zj ok35 (Num_ret (m := 3) hk101 zx hbl zx zx) ⟨(zA hN10 rfl), ⟨rfl, trivial⟩⟩ ?_
 rintro _ w129 ⟨E130, r128, rfl, hr128, n128, hk128, hn128, hn128x⟩
 have := E130.size
 have hC := hC.keepG E130 sP
 have hB5 := hB5.keepG E130 dj6
 have hB110 := hB110.keepG E130 dj111
 have hB120 := hB120.keepG E130 dj121
 have hb := hb.stepF E130 (fun _ _ h => h)
 refine op_gtr (zA hN10 rfl) rfl (fun c57 => ?_) (fun c57 => ?_)
 ·
  refine zG (zA hN10 rfl) ?_
  refine zS (j := 3) (dj := 58) (b := true) rfl rfl rfl (zA hN10 rfl) ?_
  refine zG (zC hN10 rfl s10_1) ?_
  refine zS (j := 3) (dj := 58) (b := true) rfl rfl rfl (zA hN10 rfl) ?_
  refine zM fld63_2 (zA hN10 rfl) ?_
  refine zS (j := 3) (dj := 58) (b := true) rfl rfl rfl (zA hN10 rfl) ?_
  refine zN (v := (Value.string (bs ((ofK C K k i).getD r101 default).nm))) one9 (zA hN10 rfl) (hB110.cell rfl) ?_
  refine zS (j := 3) (dj := 58) (b := true) rfl rfl rfl (zA hN10 rfl) ?_
  refine zj ok83 (once_ret C (((ofK C K k i).getD r101 default).nm) _ _ (hC.mono (Nat.zero_le _) zx)) ⟨(zA hN10 rfl), ⟨(zA hN10 rfl), trivial⟩⟩ ?_
  rintro _ w131 ⟨E132, rfl⟩
  have E132 := zQ E132
  have := E132.size
  obtain ⟨hB5, hB120⟩ := kb2 E132 hB5 hB120
  have hk128 := hk128.keepG (zi E132 NoB) (fun _ _ h => h)
  have hb := hb.step0 E132
  rcases Bool.eq_false_or_eq_true ((onceN C (((ofK C K k i).getD r101 default).nm))) with c62 | c62
  ·
   rw [c62]
   refine zc (zA hN10 rfl) (zA hN10 rfl) ?_
   refine zB ?_
   refine hK127 _ _ (wp_cond_true (zA hN10 rfl) (zH ?_))
   refine zM fld28_2 (zA hN10 rfl) ?_
   refine za (vs := [(.string (bs []))]) (cs' := [(.int .i64 2), (.int .i64 0), (.int .i64 0), (.string (bs [])), (.string (bs [])), (.string (bs ((ofK C K k i).getD r101 default).nm)), (.slice none 0 0)]) size9 (zA hN10 rfl) rfl rfl rfl rfl hB120 (zI rfl) rfl ?_
   intro w135 hB120 E136
   have := E136.size
   have hB5 := hB5.keep E136 sB
   have hk128 := hk128.keepG (Gr.of E136) (Dj.one dj121)
   have hb := hb.step1 E136 zx
   refine zB ?_
   refine hK126 _ _ (zF fun K137 hK137 => ?_)
   refine zH ?_
   refine zY agg28 rfl (zA hN10 rfl) hB120 ?_
   refine zZ size28 (zC hN10 rfl s10_8) (zA hN10 rfl) rfl rfl hB5 rfl ?_
   intro w140 hB5 E141
   have := E141.size
   have hk128 := hk128.keepG (Gr.of E141) (Dj.one dj6)
   have hb := hb.step1 E141 zx
   refine zD rfl ?_
   refine zB ?_
   refine hK137 _ _ (wp_ret ?_)
   refine retN (rs := [.cell 8 28, .tmp 9]) (vs := [(.agg #[(.int .i64 2), (.int .i64 0), (.int .i64 0), (.string (bs [])), (.string (bs [])), (.string (bs ((ofK C K k i).getD r101 default).nm)), (.slice none 0 0)]), (.bool true)]) rfl hd10 ⟨⟨_, (zC hN10 rfl s10_8), run_loadA (cs := [(.int .i64 2), (.int .i64 0), (.int .i64 0), (.string (bs [])), (.string (bs [])), (.string (bs ((ofK C K k i).getD r101 default).nm)), (.slice none 0 0)]) agg28 rfl (fun j u hu => by rw [Nat.zero_add]; exact hB5.cell hu)⟩, ⟨(zA hN10 rfl), trivial⟩⟩ rfl ⟨_, rfl, ?_⟩
   exact ⟨hb, (XE.mk 2 0 0 [] [] (((ofK C K k i).getD r101 default).nm) (.slice none 0 0) []), true, rfl, .leaf rfl rfl, (fun _ hg => kind_col rfl rfl ((ofK_good hr101 zx hg).2 (by assumption))), n128, hk128, by omega⟩
  rw [c62]
  refine zc (zA hN10 rfl) (zA hN10 rfl) ?_
  refine zB ?_
  refine hK127 _ _ (wp_cond_false (zA hN10 rfl) (wp_skip (hK126 _ _ (zF fun K142 hK142 => ?_))))
  refine zH ?_
  refine zY agg28 rfl (zA hN10 rfl) hB120 ?_
  refine zZ size28 (zC hN10 rfl s10_8) (zA hN10 rfl) rfl rfl hB5 rfl ?_
  intro w145 hB5 E146
  have := E146.size
  have hk128 := hk128.keepG (Gr.of E146) (Dj.one dj6)
  have hb := hb.step1 E146 zx
  refine zD rfl ?_
  refine zB ?_
  refine hK142 _ _ (wp_ret ?_)
  refine retN (rs := [.cell 8 28, .tmp 9]) (vs := [(.agg #[(.int .i64 2), (.int .i64 0), (.int .i64 0), (.string (bs [])), (.string (bs ((ofK C K k i).getD r101 default).tb)), (.string (bs ((ofK C K k i).getD r101 default).nm)), (.slice none 0 0)]), (.bool true)]) rfl hd10 ⟨⟨_, (zC hN10 rfl s10_8), run_loadA (cs := [(.int .i64 2), (.int .i64 0), (.int .i64 0), (.string (bs [])), (.string (bs ((ofK C K k i).getD r101 default).tb)), (.string (bs ((ofK C K k i).getD r101 default).nm)), (.slice none 0 0)]) agg28 rfl (fun j u hu => by rw [Nat.zero_add]; exact hB5.cell hu)⟩, ⟨(zA hN10 rfl), trivial⟩⟩ rfl ⟨_, rfl, ?_⟩
  exact ⟨hb, (XE.mk 2 0 0 [] (((ofK C K k i).getD r101 default).tb) (((ofK C K k i).getD r101 default).nm) (.slice none 0 0) []), true, rfl, .leaf rfl rfl, (fun _ hg => kind_col rfl rfl ((ofK_good hr101 zx hg).1)), n128, hk128, by omega⟩
 refine zG (zA hN10 rfl) ?_
 refine zR (j := 3) (dj := 58) (b := true) rfl rfl rfl (zA hN10 rfl) rfl rfl ?_
 refine zR (j := 3) (dj := 58) (b := true) rfl rfl rfl (zA hN10 rfl) rfl rfl ?_
 refine zR (j := 3) (dj := 58) (b := true) rfl rfl rfl (zA hN10 rfl) rfl rfl ?_
 refine zR (j := 3) (dj := 58) (b := true) rfl rfl rfl (zA hN10 rfl) rfl rfl ?_
 refine zd (zA hN10 rfl) rfl ?_
 refine zB ?_
 refine hK127 _ _ (wp_cond_false (zA hN10 rfl) (wp_skip (hK126 _ _ (zF fun K147 hK147 => ?_))))
 refine zH ?_
 refine zY agg28 rfl (zA hN10 rfl) hB120 ?_
 refine zZ size28 (zC hN10 rfl s10_8) (zA hN10 rfl) rfl rfl hB5 rfl ?_
 intro w150 hB5 E151
 have := E151.size
 have hk128 := hk128.keepG (Gr.of E151) (Dj.one dj6)
 have hb := hb.step1 E151 zx
 refine zD rfl ?_
 refine zB ?_
 refine hK147 _ _ (wp_ret ?_)
 refine retN (rs := [.cell 8 28, .tmp 9]) (vs := [(.agg #[(.int .i64 2), (.int .i64 0), (.int .i64 0), (.string (bs [])), (.string (bs ((ofK C K k i).getD r101 default).tb)), (.string (bs ((ofK C K k i).getD r101 default).nm)), (.slice none 0 0)]), (.bool true)]) rfl hd10 ⟨⟨_, (zC hN10 rfl s10_8), run_loadA (cs := [(.int .i64 2), (.int .i64 0), (.int .i64 0), (.string (bs [])), (.string (bs ((ofK C K k i).getD r101 default).tb)), (.string (bs ((ofK C K k i).getD r101 default).nm)), (.slice none 0 0)]) agg28 rfl (fun j u hu => by rw [Nat.zero_add]; exact hB5.cell hu)⟩, ⟨(zA hN10 rfl), trivial⟩⟩ rfl ⟨_, rfl, ?_⟩
 exact ⟨hb, (XE.mk 2 0 0 [] (((ofK C K k i).getD r101 default).tb) (((ofK C K k i).getD r101 default).nm) (.slice none 0 0) []), true, rfl, .leaf rfl rfl, (fun _ hg => kind_col rfl rfl ((ofK_good hr101 zx hg).1)), n128, hk128, by omega⟩

end Go.Proofs.Ythflnkfghogaoaa

namespace Go.Gx
open Go.RowKit
section
variable {P : Program} {w : World} {L B L2 B2 n m : Nat} {v u : Value} {la lb : List UInt8}
end
end Go.Gx

namespace Go.Gx
open Go.RowKit
section
variable {P : Program} {Q : Exit → Act → World → Prop} {a : Act} {w w' w9 : World} {l : List (Nat × Value)} {ops : Array Oper} {rest : List Oper}
variable {d ty t e xt yt tx i : Nat} {p : String} {af : Array Edge} {x y : Operand} {v : Value} {k : IntKind} {n base sz by_ b o : Nat} {cs ws : List Value} {zv : Value} {r : Int}
theorem RdC.atV {L B : Nat} (R : RdC w L B sz v n cs) (hp : 0 < sz) (h1 : i < n) : ∃ b o, AtV v (i * sz) b o := by
  obtain ⟨h0, a, c, hv, h2, h3, h4⟩ := R
  rcases h4 with h4 | ⟨b, off, ha, _⟩
  · rw [h4] at h0; have : 0 < n * sz := Nat.mul_pos (by omega) hp; simp at h0; omega
  · subst ha; exact ⟨b, off + i * sz, off, n, c, hv, rfl⟩
theorem RdC.cellAt {L B q : Nat} (R : RdC w L B sz v n cs) (hA : AtV v q b o) : ∀ j u, cs[q + j]? = some u → w.cell? ⟨b, o + j, none⟩ = some u := by
  intro j u hu
  obtain ⟨off', n', c', hv', rfl⟩ := hA
  obtain ⟨h0, a, c, hv, h2, h3, h4⟩ := R
  rcases h4 with h4 | ⟨b2, off, ha, _, _, hc⟩
  · rw [h4] at hu; simp at hu
  · subst ha
    rw [hv] at hv'
    injection hv' with e1 e2 e3; injection e1 with e1; injection e1 with e1 e4; subst e1; subst e4
    have := hc (q + j) u hu
    rw [← Nat.add_assoc] at this
    exact this
theorem op_index_atR {L B : Nat} (T : SlT P xt e zv sz by_) (hx : (putsL a l).eval x = v) (R : RdC w9 L B sz v n cs) (hp : 0 < sz) (hy : (putsL a l).eval y = .int k r) (hr : r = (i : Int)) (h1 : i < n) (hA : AtV v (i * sz) b o)
    (h : wpList P ops Q rest (putsL a ((d, ptr b o) :: l)) w) : wpList P ops Q (⟨some d, .indexAddr xt x y, ty, p, af, none⟩ :: rest) (putsL a l) w := by
  obtain ⟨inf, hi, hz0, hz1, hz2⟩ := info_parts T.info
  subst hr
  obtain ⟨h0, a', c, hv, h2, h3, h4⟩ := R
  rcases h4 with h4 | ⟨b2, off, ha, _, _, hc⟩
  · rw [h4] at h0; have : 0 < n * sz := Nat.mul_pos (by omega) hp; simp at h0; omega
  · subst ha; subst hv
    obtain ⟨off2, n2, c2, hv, rfl⟩ := hA
    injection hv with e1 e2 e3; injection e1 with e1; injection e1 with e1 e4; subst e1; subst e4
    refine op_gen (v := ptr b2 (off + i * sz)) rfl ?_ h
    have hand : (0 ≤ (i : Int) ∧ (i : Int) < (n : Int)) := by omega
    simp [execOp, hx, hy, Instr.indexAt, asIntOf, run_underlying T.und, sizeOf, typeInfo, hi, ptr, Addr.add_lit, hz1, h1]
end
end Go.Gx
namespace Go.Gx
open Go.RowKit
section
variable {P : Program} {Q : Exit → Act → World → Prop} {a : Act} {w : World} {l : List (Nat × Value)} {ops : Array Oper} {rest : List Oper} {d ty e xt yt sz by_ : Nat} {p : String} {af : Array Edge} {x y : Operand} {zv : Value}
end
end Go.Gx

namespace Go.Proofs.Ythflnkfghogaoaa
open Go.Gx Go.RowKit
attribute [local irreducible] wpList wpStill Code.wp Calls

theorem Cols_own {nm : List UInt8} {l : List PCol} {cv iv : Value} {w : World} (hz : l.length ≤ 1000000) (hl : RdC w 0 w.heap.size 3 cv l.length (l.flatMap cellsC)) : Ret Try.prog 21 #[(.agg #[(.string (bs nm)), cv, iv])] w (fun v' w' => Below w.heap.size w w' ∧ ∃ av bv : Value, v' = .tuple #[av, bv] ∧ Own w' w.heap.size 63 3 av (colsOf nm l).length ((colsOf nm l).flatMap cellsI) ∧ Own w' w.heap.size 3 1 bv (kindsOf l).length ((kindsOf l).map (Value.int .i64))) := by
 have hb := Below.refl w.heap.size w
 refine enter (N := 37) Try.func21 rfl rfl (by simp) fun a0 hN hd hA => ?_
 have s0 : a0.tmps.getD 0 undef = (.agg #[(.string (bs nm)), cv, iv]) := hA 0 (by simp)
 clear hA
 refine zF fun K1 hK1 => ?_
 refine zH ?_
 refine op_box (cs := [(.string (bs nm)), cv, iv]) (zC hN rfl s0) rfl ?_
 intro w2 b3 lo_b3 hi_b3 hB5 E4
 have := E4.size
 have hl := hl.keep0 E4
 have hb := zP hb E4 hb.size
 refine zD rfl ?_
 refine zD rfl ?_
 refine zB ?_
 refine hK1 _ _ (zF fun K6 hK6 => ?_)
 refine zH ?_
 refine zD rfl ?_
 refine zB ?_
 refine hK6 _ _ (zF fun K7 hK7 => ?_)
 refine zH ?_
 refine zD rfl ?_
 refine zB ?_
 refine hK7 _ _ (zF fun K8 hK8 => ?_)
 refine zF fun K9 hK9 => ?_
 refine zH ?_
 refine zD rfl ?_
 refine zB ?_
 refine hK9 _ _ (wp_block ?_)
 refine loop_m (fun mz_ az_ w' => ∃ (i : Nat) (lv2 lv3 : Value), mz_ = l.length - i ∧ (az_.tmps.getD 1 undef = (ptr b3 0)) ∧ (az_.tmps.getD 2 undef = (.slice none 0 0)) ∧ (az_.tmps.getD 3 undef = (.slice none 0 0)) ∧ (az_.tmps.getD 6 undef = (.int .i64 ((i : Nat) : Int))) ∧ (az_.tmps.getD 4 undef = lv2) ∧ (az_.tmps.getD 5 undef = lv3) ∧ (i ≤ l.length) ∧ (Below w.heap.size w w') ∧ (w2.heap.size ≤ w'.heap.size) ∧ (RdC w' 0 w.heap.size 3 cv l.length (l.flatMap cellsC)) ∧ (Bx w' b3 55 [(.string (bs nm)), cv, iv]) ∧ (Own w' w.heap.size 63 3 lv2 (colsOf nm (l.take i)).length ((colsOf nm (l.take i)).flatMap cellsI)) ∧ (Own w' w.heap.size 3 1 lv3 (kindsOf (l.take i)).length ((kindsOf (l.take i)).map (Value.int .i64)))) _ hN hd ⟨0, (.slice none 0 0), (.slice none 0 0), rfl, (zU hN rfl), (zU hN rfl), (zU hN rfl), (zU hN rfl), (zU hN rfl), (zU hN rfl), (Nat.zero_le _), hb, (Nat.le_refl _), hl, hB5, (Own.nil _ _ _ _), (Own.nil _ _ _ _)⟩ ?_
 rintro _ a10 w10 hN10 hd10 ⟨i, lv2, lv3, rfl, s10_1, s10_2, s10_3, s10_6, s10_4, s10_5, hi, hb, zl_w10, hl, hB5, hO11, hO12⟩
 have := hb.size
 refine zF fun K13 hK13 => ?_
 refine zF fun K14 hK14 => ?_
 refine zH ?_
 refine zG (zC hN10 rfl s10_6) ?_
 refine zM fld55_1 (zC hN10 rfl s10_1) ?_
 refine zN (v := cv) one41 (zA hN10 rfl) (hB5.cell rfl) ?_
 refine op_len_rd Try.underlying41 (zA hN10 rfl) hl ?_
 refine op_lss (zA hN10 rfl) (zA hN10 rfl) (fun c11 => ?_) (fun c11 => ?_)
 ·
  refine zB ?_
  refine hK14 _ _ (wp_cond_true (zA hN10 rfl) (wp_skip (hK13 _ _ (zF fun K15 hK15 => ?_))))
  refine wp_block ?_
  obtain ⟨b16, o17, hAt18⟩ := hl.atV (i := i) zz zx
  have hcl := @cols_len nm (l.take i)
  have hkl := @kinds_len (l.take i)
  rw [List.length_take] at hcl hkl
  refine reg_split (hd := [_, _, _, _, _, _, _, _, _, _, _, _, _, _, _, _, _, _, _, _, _]) (tl := _) 21 mixed zy rfl rfl ?_
  refine any_tree (φ := phiV [(fun uz => uz = lv2), (fun uz => uz = (ptr b3 0)), (fun uz => uz = (.string (bs nm))), (fun uz => uz = (ptr b3 1)), (fun uz => uz = cv), (fun uz => uz = (.int .i64 ((i : Nat) : Int))), (fun uz => uz = (ptr b16 o17)), (fun uz => uz = (ptr b16 (o17 + 0))), (fun uz => uz = (.string (bs (l.getD i default).nm))), (fun uz => uz = (.agg #[(.int .i64 0), (.string (bs nm)), (.string (bs (l.getD i default).nm))])), (fun _ => True), (fun _ => True), (fun uz => uz = lv3), (fun uz => uz = (ptr b3 1)), (fun uz => uz = cv), (fun uz => uz = (.int .i64 ((i : Nat) : Int))), (fun uz => uz = (ptr b16 o17)), (fun uz => uz = (ptr b16 (o17 + 1))), (fun uz => uz = (.int .i64 (l.getD i default).kind)), (fun _ => True), (fun _ => True)]) (G := fun w' => RdC w' 0 w.heap.size 3 cv l.length (l.flatMap cellsC) ∧ Bx w' b3 55 [(.string (bs nm)), cv, iv]) [10, 11, 19, 20] zy zy zy zy zy hN10 (fun w1 w2 E h => by obtain ⟨h0, h1⟩ := h; exact ⟨h0.keep0 E, h1.keep0 E⟩) ⟨hl, hB5⟩ (ObRs9.cons ?_ (ObRs9.cons ?_ (ObRs9.cons ?_ (ObRs9.cons ?_ (ObRs9.cons ?_ (ObRs9.cons ?_ (ObRs9.cons ?_ (ObRs9.cons ?_ (ObRs9.cons ?_ (ObRs9.cons ?_ (ObRs9.pass rfl (ObRs9.pass rfl (ObRs9.cons ?_ (ObRs9.cons ?_ (ObRs9.cons ?_ (ObRs9.cons ?_ (ObRs9.cons ?_ (ObRs9.cons ?_ (ObRs9.cons ?_ (ObRs9.pass rfl (ObRs9.pass rfl (ObRs9.nil)))))))))))))))))))))) (by simp only [putsL_defers]) ?_
  ·
   intro eA aA wA hNA hGA hbsA hdpA
   have qA_4 := (hbsA 4 rfl).trans (zL hN10 rfl s10_4)
   refine zG (zC hNA rfl qA_4) ?_
   exact obT_end rfl rfl
  ·
   intro eA aA wA hNA hGA hbsA hdpA
   have qA_1 := (hbsA 1 rfl).trans (zL hN10 rfl s10_1)
   refine zM fld55_0 (zC hNA rfl qA_1) ?_
   exact obT_end rfl rfl
  ·
   intro eA aA wA hNA hGA hbsA hdpA
   have qA_15 : Sl aA 15 (ptr b3 0) := (hdpA 1 _ 15 zy rfl rfl).2 rfl
   obtain ⟨hl, hB5⟩ := hGA
   refine zN (v := (Value.string (bs nm))) one9 (zC hNA rfl qA_15) (hB5.cell rfl) ?_
   exact obT_end rfl rfl
  ·
   intro eA aA wA hNA hGA hbsA hdpA
   have qA_1 := (hbsA 1 rfl).trans (zL hN10 rfl s10_1)
   refine zM fld55_1 (zC hNA rfl qA_1) ?_
   exact obT_end rfl rfl
  ·
   intro eA aA wA hNA hGA hbsA hdpA
   have qA_17 : Sl aA 17 (ptr b3 1) := (hdpA 3 _ 17 zy rfl rfl).2 rfl
   obtain ⟨hl, hB5⟩ := hGA
   refine zN (v := cv) one41 (zC hNA rfl qA_17) (hB5.cell rfl) ?_
   exact obT_end rfl rfl
  ·
   intro eA aA wA hNA hGA hbsA hdpA
   have qA_6 := (hbsA 6 rfl).trans (zL hN10 rfl s10_6)
   refine zG (zC hNA rfl qA_6) ?_
   exact obT_end rfl rfl
  ·
   intro eA aA wA hNA hGA hbsA hdpA
   have qA_18 : Sl aA 18 cv := (hdpA 4 _ 18 zy rfl rfl).2 rfl
   have qA_19 : Sl aA 19 (.int .i64 ((i : Nat) : Int)) := (hdpA 5 _ 19 zy rfl rfl).2 rfl
   obtain ⟨hl, hB5⟩ := hGA
   refine op_index_atR (i := i) slt41 (zC hNA rfl qA_18) hl zz (zC hNA rfl qA_19) zx zx hAt18 ?_
   exact obT_end rfl rfl
  ·
   intro eA aA wA hNA hGA hbsA hdpA
   have qA_20 : Sl aA 20 (ptr b16 o17) := (hdpA 6 _ 20 zy rfl rfl).2 rfl
   refine zM fld68_0 (zC hNA rfl qA_20) ?_
   exact obT_end rfl rfl
  ·
   intro eA aA wA hNA hGA hbsA hdpA
   have qA_21 : Sl aA 21 (ptr b16 (o17 + 0)) := (hdpA 7 _ 21 zy rfl rfl).2 rfl
   obtain ⟨hl, hB5⟩ := hGA
   refine zN (v := (Value.string (bs (l.getD i default).nm))) one9 (zC hNA rfl qA_21) (hl.cellAt hAt18 0 _ ((el_pc (i := i) rfl zx) 0 _ rfl)) ?_
   exact obT_end rfl rfl
  ·
   intro eA aA wA hNA hGA hbsA hdpA
   have qA_16 : Sl aA 16 (.string (bs nm)) := (hdpA 2 _ 16 zy rfl rfl).2 rfl
   have qA_22 : Sl aA 22 (.string (bs (l.getD i default).nm)) := (hdpA 8 _ 22 zy rfl rfl).2 rfl
   refine zf (pv := [(1, (.string (bs nm))), (2, (.string (bs (l.getD i default).nm)))]) (v := (Value.agg #[(.int .i64 0), (.string (bs nm)), (.string (bs (l.getD i default).nm))])) ⟨rfl, (zC hNA rfl qA_16), ⟨rfl, (zC hNA rfl qA_22), trivial⟩⟩ zy ?_
   exact obT_end rfl rfl
  ·
   intro eA aA wA hNA hGA hbsA hdpA
   have qA_5 := (hbsA 5 rfl).trans (zL hN10 rfl s10_5)
   refine zG (zC hNA rfl qA_5) ?_
   exact obT_end rfl rfl
  ·
   intro eA aA wA hNA hGA hbsA hdpA
   have qA_1 := (hbsA 1 rfl).trans (zL hN10 rfl s10_1)
   refine zM fld55_1 (zC hNA rfl qA_1) ?_
   exact obT_end rfl rfl
  ·
   intro eA aA wA hNA hGA hbsA hdpA
   have qA_27 : Sl aA 27 (ptr b3 1) := (hdpA 13 _ 27 zy rfl rfl).2 rfl
   obtain ⟨hl, hB5⟩ := hGA
   refine zN (v := cv) one41 (zC hNA rfl qA_27) (hB5.cell rfl) ?_
   exact obT_end rfl rfl
  ·
   intro eA aA wA hNA hGA hbsA hdpA
   have qA_6 := (hbsA 6 rfl).trans (zL hN10 rfl s10_6)
   refine zG (zC hNA rfl qA_6) ?_
   exact obT_end rfl rfl
  ·
   intro eA aA wA hNA hGA hbsA hdpA
   have qA_28 : Sl aA 28 cv := (hdpA 14 _ 28 zy rfl rfl).2 rfl
   have qA_29 : Sl aA 29 (.int .i64 ((i : Nat) : Int)) := (hdpA 15 _ 29 zy rfl rfl).2 rfl
   obtain ⟨hl, hB5⟩ := hGA
   refine op_index_atR (i := i) slt41 (zC hNA rfl qA_28) hl zz (zC hNA rfl qA_29) zx zx hAt18 ?_
   exact obT_end rfl rfl
  ·
   intro eA aA wA hNA hGA hbsA hdpA
   have qA_30 : Sl aA 30 (ptr b16 o17) := (hdpA 16 _ 30 zy rfl rfl).2 rfl
   refine zM fld68_1 (zC hNA rfl qA_30) ?_
   exact obT_end rfl rfl
  ·
   intro eA aA wA hNA hGA hbsA hdpA
   have qA_31 : Sl aA 31 (ptr b16 (o17 + 1)) := (hdpA 17 _ 31 zy rfl rfl).2 rfl
   obtain ⟨hl, hB5⟩ := hGA
   refine zN (v := (Value.int .i64 (l.getD i default).kind)) one3 (zC hNA rfl qA_31) (hl.cellAt hAt18 1 _ ((el_pc (i := i) rfl zx) 1 _ rfl)) ?_
   exact obT_end rfl rfl
  refine kt_step (rs := [10, 19]) zy ?_
  refine more_mem ?_ ?_
  ·
   intro w20 E20 _ a20 hN20 hbs20 hdp20 o_ ho_; obtain rfl := zE ho_
   have := E20.size
   have hl := hl.keep0 E20
   have hB5 := hB5.keep0 E20
   have hO11 := hO11.keep0 E20
   have hO12 := hO12.keep0 E20
   have hb := zP hb E20 hb.size
   have q20_23 : Sl a20 23 (.agg #[(.int .i64 0), (.string (bs nm)), (.string (bs (l.getD i default).nm))]) := (hdp20 9 _ 23 zy rfl rfl).2 rfl
   refine op_bslice (e := 63) (pv := [(0, (.agg #[(.int .i64 0), (.string (bs nm)), (.string (bs (l.getD i default).nm))]))]) (cs := [(.int .i64 0), (.string (bs nm)), (.string (bs (l.getD i default).nm))]) ⟨rfl, (zC hN20 rfl q20_23), trivial⟩ zy ?_
   intro w21 b22 lo_b22 hi_b22 hB24 E23
   have := E23.size
   have hl := hl.keep0 E23
   have hB5 := hB5.keep0 E23
   have hO11 := hO11.keep0 E23
   have hO12 := hO12.keep0 E23
   have hb := zP hb E23 hb.size
   refine kt_end rfl ⟨hl, hB5⟩ ?_
   refine kt_step (rs := [11, 19]) zy ?_
   refine more_mem ?_ ?_
   ·
    intro w26 E26 _ a26 hN26 hbs26 hdp26 o_ ho_; obtain rfl := zE ho_
    have := E26.size
    have hl := hl.keep0 E26
    have hO11 := hO11.keep0 E26
    have hO12 := hO12.keep0 E26
    obtain ⟨hB5, hB24⟩ := kb2 E26 hB5 hB24
    have hb := zP hb E26 hb.size
    have q26_14 : Sl a26 14 lv2 := (hdp26 0 _ 14 zy rfl rfl).2 rfl
    have q26_24 : Sl a26 24 (.slice (some ⟨b22, 0, none⟩) 1 1) := (zE ((hdp26 10 _ 24 zy rfl rfl).1 rfl)).symm
    have hP32 := hO11
    refine op_append slt22 (zC hN26 rfl q26_14) hP32 (zC hN26 rfl q26_24) (Src.ofRd Try.underlying22 zz (RdC.ofBx (sz := 3) (n := 1) hB24 rfl zz) (by simp [Value.oneCell', u8v])) (by unfold maxLen; omega) zx hb.size ?_
    intro v27 w28 hO30 E29 hm31
    have := E29.size
    have hl := hl.keepO hP32 E29 zx
    have hB5 := hB5.keepO hP32 E29 zz
    have hO12 := hO12.keepT hP32 E29 zz
    have hb := below_stepO hb hP32 E29 hb.size zx
    have hO30 : Own w28 w.heap.size 63 3 v27 ((colsOf nm (l.take i)).length + 1) ((((colsOf nm (l.take i)) ++ [(PItm.mk 0 nm ((l.getD i default).nm))])).flatMap cellsI) := by simpa [u8v, u16v, sv, cellsI] using hO30
    refine kt_end rfl ⟨hl, hB5⟩ ?_
    refine kt_step (rs := [19]) zy ?_
    refine one_mem ?_
    intro w34 E34 _ a34 hN34 hbs34 hdp34 o_ ho_; obtain rfl := zE ho_
    have := E34.size
    have hl := hl.keep0 E34
    have hB5 := hB5.keep0 E34
    have hO12 := hO12.keep0 E34
    have hO30 := hO30.keep0 E34
    have hb := zP hb E34 hb.size
    have q34_32 : Sl a34 32 (.int .i64 (l.getD i default).kind) := (hdp34 18 _ 32 zy rfl rfl).2 rfl
    refine op_bslice (e := 3) (pv := [(0, (.int .i64 (l.getD i default).kind))]) (cs := [(.int .i64 (l.getD i default).kind)]) ⟨rfl, (zC hN34 rfl q34_32), trivial⟩ zy ?_
    intro w35 b36 lo_b36 hi_b36 hB38 E37
    have := E37.size
    have hl := hl.keep0 E37
    have hB5 := hB5.keep0 E37
    have hO12 := hO12.keep0 E37
    have hO30 := hO30.keep0 E37
    have hb := zP hb E37 hb.size
    refine kt_end rfl ⟨hl, hB5⟩ ?_
    refine kt_step (rs := [20]) zy ?_
    refine one_mem ?_
    intro w40 E40 _ a40 hN40 hbs40 hdp40 o_ ho_; obtain rfl := zE ho_
    have := E40.size
    have hl := hl.keep0 E40
    have hO12 := hO12.keep0 E40
    have hO30 := hO30.keep0 E40
    obtain ⟨hB5, hB38⟩ := kb2 E40 hB5 hB38
    have hb := zP hb E40 hb.size
    have q40_26 : Sl a40 26 lv3 := (hdp40 12 _ 26 zy rfl rfl).2 rfl
    have q40_33 : Sl a40 33 (.slice (some ⟨b36, 0, none⟩) 1 1) := (zE ((hdp40 19 _ 33 zy rfl rfl).1 rfl)).symm
    have hP46 := hO12
    refine op_append slt23 (zC hN40 rfl q40_26) hP46 (zC hN40 rfl q40_33) (Src.ofRd Try.underlying23 zz (RdC.ofBx (sz := 1) (n := 1) hB38 rfl zz) (by simp [Value.oneCell', u8v])) (by unfold maxLen; omega) zx hb.size ?_
    intro v41 w42 hO44 E43 hm45
    have := E43.size
    have hl := hl.keepO hP46 E43 zx
    have hB5 := hB5.keepO hP46 E43 zz
    have hO30 := hO30.keepT hP46 E43 zz
    have hb := below_stepO hb hP46 E43 hb.size zx
    have hO44 : Own w42 w.heap.size 3 1 v41 ((kindsOf (l.take i)).length + 1) ((((kindsOf (l.take i)) ++ [(l.getD i default).kind])).map (Value.int .i64)) := by simpa [u8v, u16v, sv, cellsI] using hO44
    refine kt_end rfl ⟨hl, hB5⟩ ?_
    intro w47 E47 a47 hN47 hd47 hbs47 hph47
    have hd47 := hd47.trans ((by simp only [putsL_defers] : _ = _).trans hd10)
    have := E47.size
    have hl := hl.keep0 E47
    have hB5 := hB5.keep0 E47
    have hO30 := hO30.keep0 E47
    have hO44 := hO44.keep0 E47
    have hb := zP hb E47 hb.size
    have s47_1 := (hbs47 1 rfl).trans (zL hN10 rfl s10_1)
    have s47_2 := (hbs47 2 rfl).trans (zL hN10 rfl s10_2)
    have s47_3 := (hbs47 3 rfl).trans (zL hN10 rfl s10_3)
    have s47_6 := (hbs47 6 rfl).trans (zL hN10 rfl s10_6)
    have s47_25 : Sl a47 25 v27 := (zE ((hph47 11 _ 25 rfl rfl).1 rfl)).symm
    have s47_34 : Sl a47 34 v41 := (zE ((hph47 20 _ 34 rfl rfl).1 rfl)).symm
    refine split_end ?_
    refine from_seq (tl := [_, _]) zz zy rfl ?_
    refine zD (zC hN47 rfl s47_25) ?_
    refine zD (zC hN47 rfl s47_34) ?_
    refine zB ?_
    refine hK15 _ _ (zH ?_)
    refine zG (zC hN47 rfl s47_6) ?_
    refine op_add (zA hN47 rfl) rfl (add64 zx) ?_
    refine zD (zA hN47 rfl) ?_
    refine zB ?_
    -- round 11T
    exact zg _ hN47 hd47 ⟨(i + 1), v27, v41, rfl, (zL hN47 rfl s47_1), (zL hN47 rfl s47_2), (zL hN47 rfl s47_3), (zU hN47 rfl).trans (congrArg (Value.int .i64) zx), (zU hN47 rfl), (zU hN47 rfl), zx, hb, zx, hl, hB5, (hO30.cast (by rw [cols_snoc zx] <;> simp) (by rw [cols_snoc zx] <;> simp [cellsI])), (hO44.cast (by rw [kinds_snoc zx] <;> simp) (by rw [kinds_snoc zx] <;> simp))⟩ zx
   refine one_mem ?_
   intro w48 E48 _ a48 hN48 hbs48 hdp48 o_ ho_; obtain rfl := zE ho_
   have := E48.size
   have hl := hl.keep0 E48
   have hO11 := hO11.keep0 E48
   have hO12 := hO12.keep0 E48
   obtain ⟨hB5, hB24⟩ := kb2 E48 hB5 hB24
   have hb := zP hb E48 hb.size
   have q48_32 : Sl a48 32 (.int .i64 (l.getD i default).kind) := (hdp48 18 _ 32 zy rfl rfl).2 rfl
   refine op_bslice (e := 3) (pv := [(0, (.int .i64 (l.getD i default).kind))]) (cs := [(.int .i64 (l.getD i default).kind)]) ⟨rfl, (zC hN48 rfl q48_32), trivial⟩ zy ?_
   intro w49 b50 lo_b50 hi_b50 hB52 E51
   have := E51.size
   have hl := hl.keep0 E51
   have hO11 := hO11.keep0 E51
   have hO12 := hO12.keep0 E51
   obtain ⟨hB5, hB24⟩ := kb2 E51 hB5 hB24
   have hb := zP hb E51 hb.size
   refine kt_end rfl ⟨hl, hB5⟩ ?_
   refine kt_step (rs := [11]) zy ?_
   refine one_mem ?_
   intro w54 E54 _ a54 hN54 hbs54 hdp54 o_ ho_; obtain rfl := zE ho_
   have := E54.size
   have hl := hl.keep0 E54
   have hO11 := hO11.keep0 E54
   have hO12 := hO12.keep0 E54
   obtain ⟨hB5, hB24, hB52⟩ := kb3 E54 hB5 hB24 hB52
   have hb := zP hb E54 hb.size
   have q54_14 : Sl a54 14 lv2 := (hdp54 0 _ 14 zy rfl rfl).2 rfl
   have q54_24 : Sl a54 24 (.slice (some ⟨b22, 0, none⟩) 1 1) := (zE ((hdp54 10 _ 24 zy rfl rfl).1 rfl)).symm
   have hP60 := hO11
   refine op_append slt22 (zC hN54 rfl q54_14) hP60 (zC hN54 rfl q54_24) (Src.ofRd Try.underlying22 zz (RdC.ofBx (sz := 3) (n := 1) hB24 rfl zz) (by simp [Value.oneCell', u8v])) (by unfold maxLen; omega) zx hb.size ?_
   intro v55 w56 hO58 E57 hm59
   have := E57.size
   have hl := hl.keepO hP60 E57 zx
   have hB5 := hB5.keepO hP60 E57 zz
   have hO12 := hO12.keepT hP60 E57 zz
   have hB52 := hB52.keepO hP60 E57 zz
   have hb := below_stepO hb hP60 E57 hb.size zx
   have hO58 : Own w56 w.heap.size 63 3 v55 ((colsOf nm (l.take i)).length + 1) ((((colsOf nm (l.take i)) ++ [(PItm.mk 0 nm ((l.getD i default).nm))])).flatMap cellsI) := by simpa [u8v, u16v, sv, cellsI] using hO58
   refine kt_end rfl ⟨hl, hB5⟩ ?_
   refine kt_step (rs := [20]) zy ?_
   refine one_mem ?_
   intro w62 E62 _ a62 hN62 hbs62 hdp62 o_ ho_; obtain rfl := zE ho_
   have := E62.size
   have hl := hl.keep0 E62
   have hO12 := hO12.keep0 E62
   have hO58 := hO58.keep0 E62
   obtain ⟨hB5, hB52⟩ := kb2 E62 hB5 hB52
   have hb := zP hb E62 hb.size
   have q62_26 : Sl a62 26 lv3 := (hdp62 12 _ 26 zy rfl rfl).2 rfl
   have q62_33 : Sl a62 33 (.slice (some ⟨b50, 0, none⟩) 1 1) := (zE ((hdp62 19 _ 33 zy rfl rfl).1 rfl)).symm
   have hP68 := hO12
   refine op_append slt23 (zC hN62 rfl q62_26) hP68 (zC hN62 rfl q62_33) (Src.ofRd Try.underlying23 zz (RdC.ofBx (sz := 1) (n := 1) hB52 rfl zz) (by simp [Value.oneCell', u8v])) (by unfold maxLen; omega) zx hb.size ?_
   intro v63 w64 hO66 E65 hm67
   have := E65.size
   have hl := hl.keepO hP68 E65 zx
   have hB5 := hB5.keepO hP68 E65 zz
   have hO58 := hO58.keepT hP68 E65 zz
   have hb := below_stepO hb hP68 E65 hb.size zx
   have hO66 : Own w64 w.heap.size 3 1 v63 ((kindsOf (l.take i)).length + 1) ((((kindsOf (l.take i)) ++ [(l.getD i default).kind])).map (Value.int .i64)) := by simpa [u8v, u16v, sv, cellsI] using hO66
   refine kt_end rfl ⟨hl, hB5⟩ ?_
   intro w69 E69 a69 hN69 hd69 hbs69 hph69
   have hd69 := hd69.trans ((by simp only [putsL_defers] : _ = _).trans hd10)
   have := E69.size
   have hl := hl.keep0 E69
   have hB5 := hB5.keep0 E69
   have hO58 := hO58.keep0 E69
   have hO66 := hO66.keep0 E69
   have hb := zP hb E69 hb.size
   have s69_1 := (hbs69 1 rfl).trans (zL hN10 rfl s10_1)
   have s69_2 := (hbs69 2 rfl).trans (zL hN10 rfl s10_2)
   have s69_3 := (hbs69 3 rfl).trans (zL hN10 rfl s10_3)
   have s69_6 := (hbs69 6 rfl).trans (zL hN10 rfl s10_6)
   have s69_25 : Sl a69 25 v55 := (zE ((hph69 11 _ 25 rfl rfl).1 rfl)).symm
   have s69_34 : Sl a69 34 v63 := (zE ((hph69 20 _ 34 rfl rfl).1 rfl)).symm
   refine split_end ?_
   refine from_seq (tl := [_, _]) zz zy rfl ?_
   refine zD (zC hN69 rfl s69_25) ?_
   refine zD (zC hN69 rfl s69_34) ?_
   refine zB ?_
   refine hK15 _ _ (zH ?_)
   refine zG (zC hN69 rfl s69_6) ?_
   refine op_add (zA hN69 rfl) rfl (add64 zx) ?_
   refine zD (zA hN69 rfl) ?_
   refine zB ?_
   -- round 11T
   exact zg _ hN69 hd69 ⟨(i + 1), v55, v63, rfl, (zL hN69 rfl s69_1), (zL hN69 rfl s69_2), (zL hN69 rfl s69_3), (zU hN69 rfl).trans (congrArg (Value.int .i64) zx), (zU hN69 rfl), (zU hN69 rfl), zx, hb, zx, hl, hB5, (hO58.cast (by rw [cols_snoc zx] <;> simp) (by rw [cols_snoc zx] <;> simp [cellsI])), (hO66.cast (by rw [kinds_snoc zx] <;> simp) (by rw [kinds_snoc zx] <;> simp))⟩ zx
  refine one_mem ?_
  intro w70 E70 _ a70 hN70 hbs70 hdp70 o_ ho_; obtain rfl := zE ho_
  have := E70.size
  have hl := hl.keep0 E70
  have hB5 := hB5.keep0 E70
  have hO11 := hO11.keep0 E70
  have hO12 := hO12.keep0 E70
  have hb := zP hb E70 hb.size
  have q70_32 : Sl a70 32 (.int .i64 (l.getD i default).kind) := (hdp70 18 _ 32 zy rfl rfl).2 rfl
  refine op_bslice (e := 3) (pv := [(0, (.int .i64 (l.getD i default).kind))]) (cs := [(.int .i64 (l.getD i default).kind)]) ⟨rfl, (zC hN70 rfl q70_32), trivial⟩ zy ?_
  intro w71 b72 lo_b72 hi_b72 hB74 E73
  have := E73.size
  have hl := hl.keep0 E73
  have hB5 := hB5.keep0 E73
  have hO11 := hO11.keep0 E73
  have hO12 := hO12.keep0 E73
  have hb := zP hb E73 hb.size
  refine kt_end rfl ⟨hl, hB5⟩ ?_
  refine kt_step (rs := [10]) zy ?_
  refine one_mem ?_
  intro w76 E76 _ a76 hN76 hbs76 hdp76 o_ ho_; obtain rfl := zE ho_
  have := E76.size
  have hl := hl.keep0 E76
  have hO11 := hO11.keep0 E76
  have hO12 := hO12.keep0 E76
  obtain ⟨hB5, hB74⟩ := kb2 E76 hB5 hB74
  have hb := zP hb E76 hb.size
  have q76_23 : Sl a76 23 (.agg #[(.int .i64 0), (.string (bs nm)), (.string (bs (l.getD i default).nm))]) := (hdp76 9 _ 23 zy rfl rfl).2 rfl
  refine op_bslice (e := 63) (pv := [(0, (.agg #[(.int .i64 0), (.string (bs nm)), (.string (bs (l.getD i default).nm))]))]) (cs := [(.int .i64 0), (.string (bs nm)), (.string (bs (l.getD i default).nm))]) ⟨rfl, (zC hN76 rfl q76_23), trivial⟩ zy ?_
  intro w77 b78 lo_b78 hi_b78 hB80 E79
  have := E79.size
  have hl := hl.keep0 E79
  have hO11 := hO11.keep0 E79
  have hO12 := hO12.keep0 E79
  obtain ⟨hB5, hB74⟩ := kb2 E79 hB5 hB74
  have hb := zP hb E79 hb.size
  refine kt_end rfl ⟨hl, hB5⟩ ?_
  refine kt_step (rs := [11]) zy ?_
  refine one_mem ?_
  intro w82 E82 _ a82 hN82 hbs82 hdp82 o_ ho_; obtain rfl := zE ho_
  have := E82.size
  have hl := hl.keep0 E82
  have hO11 := hO11.keep0 E82
  have hO12 := hO12.keep0 E82
  obtain ⟨hB5, hB74, hB80⟩ := kb3 E82 hB5 hB74 hB80
  have hb := zP hb E82 hb.size
  have q82_14 : Sl a82 14 lv2 := (hdp82 0 _ 14 zy rfl rfl).2 rfl
  have q82_24 : Sl a82 24 (.slice (some ⟨b78, 0, none⟩) 1 1) := (zE ((hdp82 10 _ 24 zy rfl rfl).1 rfl)).symm
  have hP88 := hO11
  refine op_append slt22 (zC hN82 rfl q82_14) hP88 (zC hN82 rfl q82_24) (Src.ofRd Try.underlying22 zz (RdC.ofBx (sz := 3) (n := 1) hB80 rfl zz) (by simp [Value.oneCell', u8v])) (by unfold maxLen; omega) zx hb.size ?_
  intro v83 w84 hO86 E85 hm87
  have := E85.size
  have hl := hl.keepO hP88 E85 zx
  have hB5 := hB5.keepO hP88 E85 zz
  have hO12 := hO12.keepT hP88 E85 zz
  have hB74 := hB74.keepO hP88 E85 zz
  have hb := below_stepO hb hP88 E85 hb.size zx
  have hO86 : Own w84 w.heap.size 63 3 v83 ((colsOf nm (l.take i)).length + 1) ((((colsOf nm (l.take i)) ++ [(PItm.mk 0 nm ((l.getD i default).nm))])).flatMap cellsI) := by simpa [u8v, u16v, sv, cellsI] using hO86
  refine kt_end rfl ⟨hl, hB5⟩ ?_
  refine kt_step (rs := [20]) zy ?_
  refine one_mem ?_
  intro w90 E90 _ a90 hN90 hbs90 hdp90 o_ ho_; obtain rfl := zE ho_
  have := E90.size
  have hl := hl.keep0 E90
  have hO12 := hO12.keep0 E90
  have hO86 := hO86.keep0 E90
  obtain ⟨hB5, hB74⟩ := kb2 E90 hB5 hB74
  have hb := zP hb E90 hb.size
  have q90_26 : Sl a90 26 lv3 := (hdp90 12 _ 26 zy rfl rfl).2 rfl
  have q90_33 : Sl a90 33 (.slice (some ⟨b72, 0, none⟩) 1 1) := (zE ((hdp90 19 _ 33 zy rfl rfl).1 rfl)).symm
  have hP96 := hO12
  refine op_append slt23 (zC hN90 rfl q90_26) hP96 (zC hN90 rfl q90_33) (Src.ofRd Try.underlying23 zz (RdC.ofBx (sz := 1) (n := 1) hB74 rfl zz) (by simp [Value.oneCell', u8v])) (by unfold maxLen; omega) zx hb.size ?_
  intro v91 w92 hO94 E93 hm95
  have := E93.size
  have hl := hl.keepO hP96 E93 zx
  have hB5 := hB5.keepO hP96 E93 zz
  have hO86 := hO86.keepT hP96 E93 zz
  have hb := below_stepO hb hP96 E93 hb.size zx
  have hO94 : Own w92 w.heap.size 3 1 v91 ((kindsOf (l.take i)).length + 1) ((((kindsOf (l.take i)) ++ [(l.getD i default).kind])).map (Value.int .i64)) := by simpa [u8v, u16v, sv, cellsI] using hO94
  refine kt_end rfl ⟨hl, hB5⟩ ?_
  intro w97 E97 a97 hN97 hd97 hbs97 hph97
  have hd97 := hd97.trans ((by simp only [putsL_defers] : _ = _).trans hd10)
  have := E97.size
  have hl := hl.keep0 E97
  have hB5 := hB5.keep0 E97
  have hO86 := hO86.keep0 E97
  have hO94 := hO94.keep0 E97
  have hb := zP hb E97 hb.size
  have s97_1 := (hbs97 1 rfl).trans (zL hN10 rfl s10_1)
  have s97_2 := (hbs97 2 rfl).trans (zL hN10 rfl s10_2)
  have s97_3 := (hbs97 3 rfl).trans (zL hN10 rfl s10_3)
  have s97_6 := (hbs97 6 rfl).trans (zL hN10 rfl s10_6)
  have s97_25 : Sl a97 25 v83 := (zE ((hph97 11 _ 25 rfl rfl).1 rfl)).symm
  have s97_34 : Sl a97 34 v91 := (zE ((hph97 20 _ 34 rfl rfl).1 rfl)).symm
  refine split_end ?_
  refine from_seq (tl := [_, _]) zz zy rfl ?_
  refine zD (zC hN97 rfl s97_25) ?_
  refine zD (zC hN97 rfl s97_34) ?_
  refine zB ?_
  refine hK15 _ _ (zH ?_)
  refine zG (zC hN97 rfl s97_6) ?_
  refine op_add (zA hN97 rfl) rfl (add64 zx) ?_
  refine zD (zA hN97 rfl) ?_
  refine zB ?_
  -- round 11T
  exact zg _ hN97 hd97 ⟨(i + 1), v83, v91, rfl, (zL hN97 rfl s97_1), (zL hN97 rfl s97_2), (zL hN97 rfl s97_3), (zU hN97 rfl).trans (congrArg (Value.int .i64) zx), (zU hN97 rfl), (zU hN97 rfl), zx, hb, zx, hl, hB5, (hO86.cast (by rw [cols_snoc zx] <;> simp) (by rw [cols_snoc zx] <;> simp [cellsI])), (hO94.cast (by rw [kinds_snoc zx] <;> simp) (by rw [kinds_snoc zx] <;> simp))⟩ zx
 refine zB ?_
 refine hK14 _ _ (wp_cond_false (zA hN10 rfl) (wp_exit (then_exit (then_exit (blk_hit ?_)))))
 refine hK8 _ _ (zF fun K98 hK98 => ?_)
 refine zH ?_
 refine zG (zC hN10 rfl s10_4) ?_
 refine zG (zC hN10 rfl s10_5) ?_
 refine zD (zA hN10 rfl) ?_
 refine zD (zA hN10 rfl) ?_
 refine zB ?_
 refine hK98 _ _ (wp_ret ?_)
 refine ret2 rfl hd10 (zA hN10 rfl) (zA hN10 rfl) ⟨_, rfl, ?_⟩
 have e9 : l.take i = l := List.take_of_length_le zx
 rw [e9] at hO11 hO12
 exact ⟨hb, _, _, rfl, hO11, hO12⟩

theorem Cols_ret {nm : List UInt8} {l : List PCol} {cv iv : Value} {w : World} (hz : l.length ≤ 1000000) (hl : RdC w 0 w.heap.size 3 cv l.length (l.flatMap cellsC)) : Ret Try.prog 21 #[.agg #[.string (bs nm), cv, iv]] w (fun v' w' => Below w.heap.size w w' ∧ ∃ av bv : Value, v' = .tuple #[av, bv] ∧ RdC w' w.heap.size w'.heap.size 3 av (colsOf nm l).length ((colsOf nm l).flatMap cellsI) ∧ RdC w' w.heap.size w'.heap.size 1 bv (kindsOf l).length ((kindsOf l).map (Value.int .i64))) :=
  (Cols_own hz hl).mono fun v' w' ⟨hb, av, bv, h1, h2, h3⟩ => ⟨hb, av, bv, h1, h2.rdw, h3.rdw⟩
end Go.Proofs.Ythflnkfghogaoaa
