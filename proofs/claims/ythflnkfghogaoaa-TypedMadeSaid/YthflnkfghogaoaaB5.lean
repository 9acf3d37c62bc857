/- Walks, written by a program: what each function of the translation hands back. -/
import Derived.Test.YthflnkfghogaoaaB4
set_option linter.unusedVariables false
set_option linter.unusedSimpArgs false

namespace Go.Proofs.Ythflnkfghogaoaa
open Go.Gx Go.RowKit
attribute [local irreducible] wpList wpStill Code.wp Calls
theorem must_t {C : List PItm} {K : List Int} {e : XE} {k : Int} (h : (kindX C K e).2 = 0) (h2 : (kindX C K e).1 ≠ k) : mustX C K e k = 11 := by unfold mustX; rw [if_neg (fun g => g h), if_pos h2]
theorem must_0 {C : List PItm} {K : List Int} {e : XE} {k : Int} (h : (kindX C K e).2 = 0) (h2 : (kindX C K e).1 = k) : mustX C K e k = 0 := by unfold mustX; rw [if_neg (fun g => g h), if_neg (fun g => g h2)]
theorem KindQ_nil {w : World} (e : XE) (he : XRd w w.heap.size e) : Ret Try.prog 15 #[.slice none 0 0, .slice none 0 0, (.agg #[(.int .i64 e.op), (.int .i64 e.vk), (.int .i64 e.vi), (.string (bs e.vt)), (.string (bs e.tb)), (.string (bs e.nm)), e.av])] w (fun v' w' => Below w.heap.size w w' ∧ v' = .tuple #[.int .i64 (kindX [] [] e).1, .int .i64 (kindX [] [] e).2]) := by
  have h : KindQ e := KindQ_all e
  unfold KindQ at h
  exact h (C := []) (K := []) zz zz (RdC.nil _ _ _ _) (RdC.nil _ _ _ _) he
theorem KindQ_ret {C : List PItm} {K : List Int} {vc vk : Value} {w : World} (e : XE) (hz0 : C.length ≤ 9223372036854775807) (hz1 : K.length ≤ 9223372036854775807) (hC : RdC w 0 w.heap.size 3 vc C.length (C.flatMap cellsI)) (hK : RdC w 0 w.heap.size 1 vk K.length (K.map (Value.int .i64))) (he : XRd w w.heap.size e) : Ret Try.prog 15 #[vc, vk, (.agg #[(.int .i64 e.op), (.int .i64 e.vk), (.int .i64 e.vi), (.string (bs e.vt)), (.string (bs e.tb)), (.string (bs e.nm)), e.av])] w (fun v' w' => Below w.heap.size w w' ∧ v' = .tuple #[.int .i64 (kindX C K e).1, .int .i64 (kindX C K e).2]) := by
  have h : KindQ e := KindQ_all e
  unfold KindQ at h
  exact h hz0 hz1 hC hK he

theorem cols9_ret {v : Value} {E : List XE} {B : Nat} {w : World} (hX : XsRd w B v E) (hB : B ≤ w.heap.size) : Ret Try.prog 79 #[v] w (fun v' w' => Below w.heap.size w w' ∧ v' = .bool (colsOk E)) := by
 have hR := hX.1
 have hlm := rd_len hR
 have hb := Below.refl w.heap.size w
 refine enter (N := 25) Try.func79 rfl rfl (by simp) fun a0 hN hd hA => ?_
 have s0 : a0.tmps.getD 0 undef = v := hA 0 (by simp)
 clear hA
 refine zF fun K1 hK1 => ?_
 refine zH ?_
 refine zD rfl ?_
 refine zB ?_
 refine hK1 _ _ (zF fun K2 hK2 => ?_)
 refine zF fun K3 hK3 => ?_
 refine zH ?_
 refine zD rfl ?_
 refine zB ?_
 refine hK3 _ _ (wp_block ?_)
 refine loop_m (fun mz_ az_ w' => ∃ (i : Nat), mz_ = E.length - i ∧ (az_.tmps.getD 0 undef = v) ∧ (az_.tmps.getD 3 undef = (.int .i64 ((i : Nat) : Int))) ∧ (i ≤ E.length) ∧ (∀ j, j < i → (fun e : XE => if e.op = 2 ∧ e.args.length = 0 then (0 : Int) else 1) (E.getD j default) = 0) ∧ (Below w.heap.size w w') ∧ (w.heap.size ≤ w'.heap.size) ∧ (XsRd w' B v E) ∧ (RdC w' 0 B 7 v E.length (E.flatMap cellsX))) _ hN hd ⟨0, rfl, (zL hN rfl s0), (zU hN rfl), (Nat.zero_le _), (fun _ h => absurd h (Nat.not_lt_zero _)), hb, (Nat.le_refl _), hX, hR⟩ ?_
 rintro _ a4 w4 hN4 hd4 ⟨i, rfl, s4_0, s4_3, hi, hall, hb, zl_w4, hX, hR⟩
 have := hb.size
 refine zF fun K5 hK5 => ?_
 refine zF fun K6 hK6 => ?_
 refine zH ?_
 refine zG (zC hN4 rfl s4_3) ?_
 refine zG (zC hN4 rfl s4_0) ?_
 refine op_len_rd Try.underlying26 (zA hN4 rfl) hR ?_
 refine op_lss (zA hN4 rfl) (zA hN4 rfl) (fun c7 => ?_) (fun c7 => ?_)
 ·
  refine zB ?_
  refine hK6 _ _ (wp_cond_true (zA hN4 rfl) (wp_skip (hK5 _ _ (zF fun K7 hK7 => ?_))))
  refine wp_block ?_
  refine zF fun K8 hK8 => ?_
  refine zH ?_
  refine zG (zC hN4 rfl s4_0) ?_
  refine zG (zC hN4 rfl s4_3) ?_
  refine zh slt26 (zA hN4 rfl) hR (zA hN4 rfl) zx zx ?_
  intro b9 o10 h0b9 h1b9 hc11
  refine zM fld28_0 (zA hN4 rfl) ?_
  refine zN (v := (Value.int .i64 (E.getD i default).op)) one3 (zA hN4 rfl) (hc11 0 ((.int .i64 (E.getD i default).op)) zz ((el_xe (i := i) zx zx) 0 ((.int .i64 (E.getD i default).op)) rfl)) ?_
  refine op_neq (zA hN4 rfl) rfl (fun c15 => ?_) (fun c15 => ?_)
  ·
   refine zG (zA hN4 rfl) ?_
   refine zR (j := 6) (dj := 16) (b := false) rfl rfl rfl (zA hN4 rfl) rfl rfl ?_
   refine zR (j := 6) (dj := 16) (b := false) rfl rfl rfl (zA hN4 rfl) rfl rfl ?_
   refine zR (j := 6) (dj := 16) (b := false) rfl rfl rfl (zA hN4 rfl) rfl rfl ?_
   refine zR (j := 6) (dj := 16) (b := false) rfl rfl rfl (zA hN4 rfl) rfl rfl ?_
   refine zR (j := 6) (dj := 16) (b := false) rfl rfl rfl (zA hN4 rfl) rfl rfl ?_
   refine zR (j := 6) (dj := 16) (b := false) rfl rfl rfl (zA hN4 rfl) rfl rfl ?_
   refine zR (j := 6) (dj := 16) (b := false) rfl rfl rfl (zA hN4 rfl) rfl rfl ?_
   refine zc (zA hN4 rfl) rfl ?_
   refine zB ?_
   refine hK8 _ _ (wp_cond_true (zA hN4 rfl) (zF fun K12 hK12 => ?_))
   refine zH ?_
   refine zD rfl ?_
   refine zB ?_
   refine hK12 _ _ (wp_ret (zb (zO (zO (zb (zO ( ?_)))))))
   refine ret1 rfl hd4 (zA hN4 rfl) ⟨_, rfl, ?_⟩
   have hx9 : (fun e : XE => if e.op = 2 ∧ e.args.length = 0 then (0 : Int) else 1) (E.getD i default) ≠ 0 := by show (if _ then _ else _) ≠ _; rw [if_neg zx]; decide
   have e9 : colsOk E = false := cols_f (by rw [firstE_hit (f := (fun e : XE => if e.op = 2 ∧ e.args.length = 0 then (0 : Int) else 1)) zx hall hx9]; exact hx9)
   rw [e9]; exact ⟨hb, rfl⟩
  refine zG (zA hN4 rfl) ?_
  refine zS (j := 6) (dj := 16) (b := false) rfl rfl rfl (zA hN4 rfl) ?_
  refine zG (zC hN4 rfl s4_0) ?_
  refine zS (j := 6) (dj := 16) (b := false) rfl rfl rfl (zA hN4 rfl) ?_
  refine zG (zC hN4 rfl s4_3) ?_
  refine zS (j := 6) (dj := 16) (b := false) rfl rfl rfl (zA hN4 rfl) ?_
  refine zh slt26 (zA hN4 rfl) hR (zA hN4 rfl) zx zx ?_
  intro b13 o14 h0b13 h1b13 hc15
  refine zS (j := 6) (dj := 16) (b := false) rfl rfl rfl (zA hN4 rfl) ?_
  refine zM fld28_4 (zA hN4 rfl) ?_
  refine zS (j := 6) (dj := 16) (b := false) rfl rfl rfl (zA hN4 rfl) ?_
  refine zN (v := (E.getD i default).av) one26 (zA hN4 rfl) (hc15 6 ((E.getD i default).av) zz ((el_xe (i := i) zx zx) 6 ((E.getD i default).av) rfl)) ?_
  refine zS (j := 6) (dj := 16) (b := false) rfl rfl rfl (zA hN4 rfl) ?_
  refine op_len_rd Try.underlying26 (zA hN4 rfl) ((hX.2 (E.getD i default) (getD_mem zx)).list.1) ?_
  refine zS (j := 6) (dj := 16) (b := false) rfl rfl rfl (zA hN4 rfl) ?_
  refine op_gtr (zA hN4 rfl) rfl (fun c23 => ?_) (fun c23 => ?_)
  ·
   refine zd (zA hN4 rfl) (zA hN4 rfl) ?_
   refine zB ?_
   refine hK8 _ _ (wp_cond_true (zA hN4 rfl) (zF fun K16 hK16 => ?_))
   refine zH ?_
   refine zD rfl ?_
   refine zB ?_
   refine hK16 _ _ (wp_ret (zb (zO (zO (zb (zO ( ?_)))))))
   refine ret1 rfl hd4 (zA hN4 rfl) ⟨_, rfl, ?_⟩
   have hx9 : (fun e : XE => if e.op = 2 ∧ e.args.length = 0 then (0 : Int) else 1) (E.getD i default) ≠ 0 := by show (if _ then _ else _) ≠ _; rw [if_neg zx]; decide
   have e9 : colsOk E = false := cols_f (by rw [firstE_hit (f := (fun e : XE => if e.op = 2 ∧ e.args.length = 0 then (0 : Int) else 1)) zx hall hx9]; exact hx9)
   rw [e9]; exact ⟨hb, rfl⟩
  refine zd (zA hN4 rfl) (zA hN4 rfl) ?_
  refine zB ?_
  refine hK8 _ _ (wp_cond_false (zA hN4 rfl) (wp_skip (hK7 _ _ (zH ?_))))
  refine zG (zC hN4 rfl s4_3) ?_
  refine op_add (zA hN4 rfl) rfl (add64 zx) ?_
  refine zD (zA hN4 rfl) ?_
  refine zB ?_
  -- round 7T 15F 23F
  exact zg _ hN4 hd4 ⟨(i + 1), rfl, (zL hN4 rfl s4_0), (zU hN4 rfl).trans (congrArg (Value.int .i64) zx), zx, (all_next hall (if_pos ⟨by omega, by omega⟩)), hb, zx, hX, hR⟩ zx
 refine zB ?_
 refine hK6 _ _ (wp_cond_false (zA hN4 rfl) (wp_exit (then_exit (then_exit (blk_hit ?_)))))
 refine hK2 _ _ (zF fun K17 hK17 => ?_)
 refine zH ?_
 refine zD rfl ?_
 refine zB ?_
 refine hK17 _ _ (wp_ret ?_)
 refine ret1 rfl hd4 (zA hN4 rfl) ⟨_, rfl, ?_⟩
 have e9 : colsOk E = true := cols_t (firstE_none (f := (fun e : XE => if e.op = 2 ∧ e.args.length = 0 then (0 : Int) else 1)) zx hall)
 rw [e9]; exact ⟨hb, rfl⟩

theorem lists9_ret {f : StF} {nv : Value} {inner : List XS} {B : Nat} {w : World} (hfv : XsRd w B f.vv f.vals) (hfo : XsRd w B f.ov f.on) (hfw : XsRd w B f.wv f.wh) (hfr : XsRd w B f.rv f.ord) (hfn : RdC w 0 B 13 nv inner.length (inner.flatMap cellsS)) (hB : B ≤ w.heap.size) : Ret Try.prog 48 #[(.agg #[(.int .i64 f.kind), (.string (bs f.tb)), (.string (bs f.nm)), f.cv, f.gv, f.vv, f.iv, (.string (bs f.join)), f.ov, f.wv, f.rv, (.bool f.desc), nv])] w (fun v' w' => Below w.heap.size w w' ∧ v' = .bool (listsOk f inner.length)) := by
 have hfvR := hfv.1
 have hfoR := hfo.1
 have hfwR := hfw.1
 have hfrR := hfr.1
 have hb := Below.refl w.heap.size w
 refine enter (N := 71) Try.func48 rfl rfl (by simp) fun a0 hN hd hA => ?_
 have s0 : a0.tmps.getD 0 undef = (.agg #[(.int .i64 f.kind), (.string (bs f.tb)), (.string (bs f.nm)), f.cv, f.gv, f.vv, f.iv, (.string (bs f.join)), f.ov, f.wv, f.rv, (.bool f.desc), nv]) := hA 0 (by simp)
 clear hA
 refine zF fun K18 hK18 => ?_
 refine zH ?_
 refine op_box (cs := [(.int .i64 f.kind), (.string (bs f.tb)), (.string (bs f.nm)), f.cv, f.gv, f.vv, f.iv, (.string (bs f.join)), f.ov, f.wv, f.rv, (.bool f.desc), nv]) (zC hN rfl s0) rfl ?_
 intro w19 b20 lo_b20 hi_b20 hB22 E21
 have := E21.size
 have hfv := hfv.keep0 E21
 have hfvR := hfvR.keep0 E21
 have hfo := hfo.keep0 E21
 have hfoR := hfoR.keep0 E21
 have hfw := hfw.keep0 E21
 have hfwR := hfwR.keep0 E21
 have hfr := hfr.keep0 E21
 have hfrR := hfrR.keep0 E21
 have hfn := hfn.keep0 E21
 have hb := zP hb E21 hb.size
 refine zD rfl ?_
 refine zB ?_
 refine hK18 _ _ (zF fun K23 hK23 => ?_)
 refine zF fun K24 hK24 => ?_
 refine zH ?_
 refine zM fld45_0 (zA hN rfl) ?_
 refine zN (v := (Value.int .i64 f.kind)) one3 (zA hN rfl) (hB22.cell rfl) ?_
 refine zB ?_
 refine hK24 _ _ (wp_block ?_)
 refine zF fun K25 hK25 => ?_
 refine zH ?_
 refine op_eql (zA hN rfl) rfl (fun c7 => ?_) (fun c7 => ?_)
 ·
  refine zD (zA hN rfl) ?_
  refine zB ?_
  refine hK25 _ _ (wp_cond_true (zA hN rfl) (zF fun K26 hK26 => ?_))
  refine zH ?_
  refine zD rfl ?_
  refine zB ?_
  refine hK26 _ _ (seq_join1 (N := 71) (fun az_ w' => ∃ (on9 : Nat), (az_.tmps.getD 1 undef = (ptr b20 0)) ∧ (az_.tmps.getD 2 undef = (.bool false)) ∧ (az_.tmps.getD 3 undef = (.int .i64 ((on9 : Nat) : Int))) ∧ (on9 = if f.join = [] then 0 else 2) ∧ (Below w.heap.size w w') ∧ (w19.heap.size ≤ w'.heap.size) ∧ (XsRd w' B f.vv f.vals) ∧ (RdC w' 0 B 7 f.vv f.vals.length (f.vals.flatMap cellsX)) ∧ (XsRd w' B f.ov f.on) ∧ (RdC w' 0 B 7 f.ov f.on.length (f.on.flatMap cellsX)) ∧ (XsRd w' B f.wv f.wh) ∧ (RdC w' 0 B 7 f.wv f.wh.length (f.wh.flatMap cellsX)) ∧ (XsRd w' B f.rv f.ord) ∧ (RdC w' 0 B 7 f.rv f.ord.length (f.ord.flatMap cellsX)) ∧ (RdC w' 0 B 13 nv inner.length (inner.flatMap cellsS)) ∧ (Bx w' b20 45 [(.int .i64 f.kind), (.string (bs f.tb)), (.string (bs f.nm)), f.cv, f.gv, f.vv, f.iv, (.string (bs f.join)), f.ov, f.wv, f.rv, (.bool f.desc), nv])) (fun hJ27 => ?_) ?_)
  ·
   refine zF fun K28 hK28 => ?_
   refine zF fun K29 hK29 => ?_
   refine zH ?_
   refine zM fld45_7 (zA hN rfl) ?_
   refine zN (v := (Value.string (bs f.join))) one9 (zA hN rfl) (hB22.cell rfl) ?_
   refine op_sneq (zA hN rfl) rfl (fun c10 => ?_) (fun c10 => ?_)
   ·
    refine zB ?_
    refine hK29 _ _ (wp_cond_true (zA hN rfl) (zH ?_))
    refine zD rfl ?_
    refine zB ?_
    refine hK28 _ _ ?_
    exact hJ27 _ _ _ hN hd ⟨2, (zU hN rfl), (zU hN rfl), (zU hN rfl).trans rfl, (if_neg c10).symm, hb, zx, hfv, hfvR, hfo, hfoR, hfw, hfwR, hfr, hfrR, hfn, hB22⟩
   refine zB ?_
   refine hK29 _ _ (wp_cond_false (zA hN rfl) (wp_skip (hK28 _ _ ?_)))
   exact hJ27 _ _ _ hN hd ⟨0, (zU hN rfl), (zU hN rfl), (zU hN rfl).trans rfl, (if_pos c10).symm, hb, zx, hfv, hfvR, hfo, hfoR, hfw, hfwR, hfr, hfrR, hfn, hB22⟩
  rintro a27 w27 hN27 hd27 ⟨on9, s27_1, s27_2, s27_3, hon9, hb, zl_w27, hfv, hfvR, hfo, hfoR, hfw, hfwR, hfr, hfrR, hfn, hB22⟩
  have := hb.size
  refine zF fun K30 hK30 => ?_
  refine zH ?_
  refine zM fld45_8 (zC hN27 rfl s27_1) ?_
  refine zN (v := f.ov) one26 (zA hN27 rfl) (hB22.cell rfl) ?_
  refine op_len_rd Try.underlying26 (zA hN27 rfl) hfoR ?_
  refine zG (zC hN27 rfl s27_3) ?_
  refine op_eql (zA hN27 rfl) (zA hN27 rfl) (fun c15 => ?_) (fun c15 => ?_)
  ·
   refine zG (zA hN27 rfl) ?_
   refine zS (j := 5) (dj := 16) (b := true) rfl rfl rfl (zA hN27 rfl) ?_
   refine zM fld45_9 (zC hN27 rfl s27_1) ?_
   refine zS (j := 5) (dj := 16) (b := true) rfl rfl rfl (zA hN27 rfl) ?_
   refine zN (v := f.wv) one26 (zA hN27 rfl) (hB22.cell rfl) ?_
   refine zS (j := 5) (dj := 16) (b := true) rfl rfl rfl (zA hN27 rfl) ?_
   refine op_len_rd Try.underlying26 (zA hN27 rfl) hfwR ?_
   refine zS (j := 5) (dj := 16) (b := true) rfl rfl rfl (zA hN27 rfl) ?_
   refine op_leq (zA hN27 rfl) rfl (fun c20 => ?_) (fun c20 => ?_)
   ·
    refine zc (zA hN27 rfl) (zA hN27 rfl) ?_
    refine zG (zA hN27 rfl) ?_
    refine zS (j := 11) (dj := 22) (b := true) rfl rfl rfl (zA hN27 rfl) ?_
    refine zM fld45_10 (zC hN27 rfl s27_1) ?_
    refine zS (j := 11) (dj := 22) (b := true) rfl rfl rfl (zA hN27 rfl) ?_
    refine zN (v := f.rv) one26 (zA hN27 rfl) (hB22.cell rfl) ?_
    refine zS (j := 11) (dj := 22) (b := true) rfl rfl rfl (zA hN27 rfl) ?_
    refine op_len_rd Try.underlying26 (zA hN27 rfl) hfrR ?_
    refine zS (j := 11) (dj := 22) (b := true) rfl rfl rfl (zA hN27 rfl) ?_
    refine op_leq (zA hN27 rfl) rfl (fun c26 => ?_) (fun c26 => ?_)
    ·
     refine zc (zA hN27 rfl) (zA hN27 rfl) ?_
     refine zG (zA hN27 rfl) ?_
     refine zS (j := 17) (dj := 28) (b := true) rfl rfl rfl (zA hN27 rfl) ?_
     refine zM fld45_8 (zC hN27 rfl s27_1) ?_
     refine zS (j := 17) (dj := 28) (b := true) rfl rfl rfl (zA hN27 rfl) ?_
     refine zN (v := f.ov) one26 (zA hN27 rfl) (hB22.cell rfl) ?_
     refine zS (j := 17) (dj := 28) (b := true) rfl rfl rfl (zA hN27 rfl) ?_
     refine zj ok79 (cols9_ret hfo zx) ⟨(zA hN27 rfl), trivial⟩ ?_
     rintro _ w31 ⟨E32, rfl⟩
     have E32 := zQ E32
     have := E32.size
     have hfr := hfr.keep0 E32
     have hB22 := hB22.keep0 E32
     have hb := zP hb E32 hb.size
     rcases Bool.eq_false_or_eq_true ((colsOk f.on)) with c31 | c31
     ·
      rw [c31]
      refine zc (zA hN27 rfl) (zA hN27 rfl) ?_
      refine zG (zA hN27 rfl) ?_
      refine zS (j := 22) (dj := 33) (b := true) rfl rfl rfl (zA hN27 rfl) ?_
      refine zM fld45_10 (zC hN27 rfl s27_1) ?_
      refine zS (j := 22) (dj := 33) (b := true) rfl rfl rfl (zA hN27 rfl) ?_
      refine zN (v := f.rv) one26 (zA hN27 rfl) (hB22.cell rfl) ?_
      refine zS (j := 22) (dj := 33) (b := true) rfl rfl rfl (zA hN27 rfl) ?_
      refine zj ok79 (cols9_ret hfr zx) ⟨(zA hN27 rfl), trivial⟩ ?_
      rintro _ w33 ⟨E34, rfl⟩
      have E34 := zQ E34
      have := E34.size
      have hb := zP hb E34 hb.size
      rcases Bool.eq_false_or_eq_true ((colsOk f.ord)) with c36 | c36
      ·
       rw [c36]
       refine zc (zA hN27 rfl) (zA hN27 rfl) ?_
       refine zD (zA hN27 rfl) ?_
       refine zB ?_
       refine hK30 _ _ (wp_ret (zb (zO ( ?_))))
       refine ret1 rfl hd27 (zA hN27 rfl) ⟨_, rfl, ?_⟩
       have e15 : decide (f.on.length = if f.join = [] then 0 else 2) = true := decide_eq_true (by rw [← hon9]; omega)
       have e20 : decide (f.wh.length ≤ 1) = true := decide_eq_true zx
       have e26 : decide (f.ord.length ≤ 1) = true := decide_eq_true zx
       have e9 : listsOk f inner.length = true := by unfold listsOk; rw [if_pos c7]; (simp only [Bool.and_false, Bool.false_and, Bool.and_true, Bool.true_and, e15, e20, e26, c31, c36]) <;> rfl
       rw [e9]; exact ⟨hb, rfl⟩
      rw [c36]
      refine zc (zA hN27 rfl) (zA hN27 rfl) ?_
      refine zD (zA hN27 rfl) ?_
      refine zB ?_
      refine hK30 _ _ (wp_ret (zb (zO ( ?_))))
      refine ret1 rfl hd27 (zA hN27 rfl) ⟨_, rfl, ?_⟩
      have e15 : decide (f.on.length = if f.join = [] then 0 else 2) = true := decide_eq_true (by rw [← hon9]; omega)
      have e20 : decide (f.wh.length ≤ 1) = true := decide_eq_true zx
      have e26 : decide (f.ord.length ≤ 1) = true := decide_eq_true zx
      have e9 : listsOk f inner.length = false := by unfold listsOk; rw [if_pos c7]; (simp only [Bool.and_false, Bool.false_and, Bool.and_true, Bool.true_and, e15, e20, e26, c31, c36]) <;> rfl
      rw [e9]; exact ⟨hb, rfl⟩
     rw [c31]
     refine zc (zA hN27 rfl) (zA hN27 rfl) ?_
     refine zG (zA hN27 rfl) ?_
     refine zR (j := 22) (dj := 33) (b := true) rfl rfl rfl (zA hN27 rfl) rfl rfl ?_
     refine zR (j := 22) (dj := 33) (b := true) rfl rfl rfl (zA hN27 rfl) rfl rfl ?_
     refine zR (j := 22) (dj := 33) (b := true) rfl rfl rfl (zA hN27 rfl) rfl rfl ?_
     refine zd (zA hN27 rfl) rfl ?_
     refine zD (zA hN27 rfl) ?_
     refine zB ?_
     refine hK30 _ _ (wp_ret (zb (zO ( ?_))))
     refine ret1 rfl hd27 (zA hN27 rfl) ⟨_, rfl, ?_⟩
     have e15 : decide (f.on.length = if f.join = [] then 0 else 2) = true := decide_eq_true (by rw [← hon9]; omega)
     have e20 : decide (f.wh.length ≤ 1) = true := decide_eq_true zx
     have e26 : decide (f.ord.length ≤ 1) = true := decide_eq_true zx
     have e9 : listsOk f inner.length = false := by unfold listsOk; rw [if_pos c7]; (simp only [Bool.and_false, Bool.false_and, Bool.and_true, Bool.true_and, e15, e20, e26, c31]) <;> rfl
     rw [e9]; exact ⟨hb, rfl⟩
    refine zc (zA hN27 rfl) (zA hN27 rfl) ?_
    refine zG (zA hN27 rfl) ?_
    refine zR (j := 17) (dj := 28) (b := true) rfl rfl rfl (zA hN27 rfl) rfl rfl ?_
    refine zR (j := 17) (dj := 28) (b := true) rfl rfl rfl (zA hN27 rfl) rfl rfl ?_
    refine zR (j := 17) (dj := 28) (b := true) rfl rfl rfl (zA hN27 rfl) rfl rfl ?_
    refine zd (zA hN27 rfl) rfl ?_
    refine zG (zA hN27 rfl) ?_
    refine zR (j := 22) (dj := 33) (b := true) rfl rfl rfl (zA hN27 rfl) rfl rfl ?_
    refine zR (j := 22) (dj := 33) (b := true) rfl rfl rfl (zA hN27 rfl) rfl rfl ?_
    refine zR (j := 22) (dj := 33) (b := true) rfl rfl rfl (zA hN27 rfl) rfl rfl ?_
    refine zd (zA hN27 rfl) rfl ?_
    refine zD (zA hN27 rfl) ?_
    refine zB ?_
    refine hK30 _ _ (wp_ret (zb (zO ( ?_))))
    refine ret1 rfl hd27 (zA hN27 rfl) ⟨_, rfl, ?_⟩
    have e15 : decide (f.on.length = if f.join = [] then 0 else 2) = true := decide_eq_true (by rw [← hon9]; omega)
    have e20 : decide (f.wh.length ≤ 1) = true := decide_eq_true zx
    have e26 : decide (f.ord.length ≤ 1) = false := decide_eq_false zx
    have e9 : listsOk f inner.length = false := by unfold listsOk; rw [if_pos c7]; (simp only [Bool.and_false, Bool.false_and, Bool.and_true, Bool.true_and, e15, e20, e26]) <;> rfl
    rw [e9]; exact ⟨hb, rfl⟩
   refine zc (zA hN27 rfl) (zA hN27 rfl) ?_
   refine zG (zA hN27 rfl) ?_
   refine zR (j := 11) (dj := 22) (b := true) rfl rfl rfl (zA hN27 rfl) rfl rfl ?_
   refine zR (j := 11) (dj := 22) (b := true) rfl rfl rfl (zA hN27 rfl) rfl rfl ?_
   refine zR (j := 11) (dj := 22) (b := true) rfl rfl rfl (zA hN27 rfl) rfl rfl ?_
   refine zR (j := 11) (dj := 22) (b := true) rfl rfl rfl (zA hN27 rfl) rfl rfl ?_
   refine zd (zA hN27 rfl) rfl ?_
   refine zG (zA hN27 rfl) ?_
   refine zR (j := 17) (dj := 28) (b := true) rfl rfl rfl (zA hN27 rfl) rfl rfl ?_
   refine zR (j := 17) (dj := 28) (b := true) rfl rfl rfl (zA hN27 rfl) rfl rfl ?_
   refine zR (j := 17) (dj := 28) (b := true) rfl rfl rfl (zA hN27 rfl) rfl rfl ?_
   refine zd (zA hN27 rfl) rfl ?_
   refine zG (zA hN27 rfl) ?_
   refine zR (j := 22) (dj := 33) (b := true) rfl rfl rfl (zA hN27 rfl) rfl rfl ?_
   refine zR (j := 22) (dj := 33) (b := true) rfl rfl rfl (zA hN27 rfl) rfl rfl ?_
   refine zR (j := 22) (dj := 33) (b := true) rfl rfl rfl (zA hN27 rfl) rfl rfl ?_
   refine zd (zA hN27 rfl) rfl ?_
   refine zD (zA hN27 rfl) ?_
   refine zB ?_
   refine hK30 _ _ (wp_ret (zb (zO ( ?_))))
   refine ret1 rfl hd27 (zA hN27 rfl) ⟨_, rfl, ?_⟩
   have e15 : decide (f.on.length = if f.join = [] then 0 else 2) = true := decide_eq_true (by rw [← hon9]; omega)
   have e20 : decide (f.wh.length ≤ 1) = false := decide_eq_false zx
   have e9 : listsOk f inner.length = false := by unfold listsOk; rw [if_pos c7]; (simp only [Bool.and_false, Bool.false_and, Bool.and_true, Bool.true_and, e15, e20]) <;> rfl
   rw [e9]; exact ⟨hb, rfl⟩
  refine zG (zA hN27 rfl) ?_
  refine zR (j := 5) (dj := 16) (b := true) rfl rfl rfl (zA hN27 rfl) rfl rfl ?_
  refine zR (j := 5) (dj := 16) (b := true) rfl rfl rfl (zA hN27 rfl) rfl rfl ?_
  refine zR (j := 5) (dj := 16) (b := true) rfl rfl rfl (zA hN27 rfl) rfl rfl ?_
  refine zR (j := 5) (dj := 16) (b := true) rfl rfl rfl (zA hN27 rfl) rfl rfl ?_
  refine zd (zA hN27 rfl) rfl ?_
  refine zG (zA hN27 rfl) ?_
  refine zR (j := 11) (dj := 22) (b := true) rfl rfl rfl (zA hN27 rfl) rfl rfl ?_
  refine zR (j := 11) (dj := 22) (b := true) rfl rfl rfl (zA hN27 rfl) rfl rfl ?_
  refine zR (j := 11) (dj := 22) (b := true) rfl rfl rfl (zA hN27 rfl) rfl rfl ?_
  refine zR (j := 11) (dj := 22) (b := true) rfl rfl rfl (zA hN27 rfl) rfl rfl ?_
  refine zd (zA hN27 rfl) rfl ?_
  refine zG (zA hN27 rfl) ?_
  refine zR (j := 17) (dj := 28) (b := true) rfl rfl rfl (zA hN27 rfl) rfl rfl ?_
  refine zR (j := 17) (dj := 28) (b := true) rfl rfl rfl (zA hN27 rfl) rfl rfl ?_
  refine zR (j := 17) (dj := 28) (b := true) rfl rfl rfl (zA hN27 rfl) rfl rfl ?_
  refine zd (zA hN27 rfl) rfl ?_
  refine zG (zA hN27 rfl) ?_
  refine zR (j := 22) (dj := 33) (b := true) rfl rfl rfl (zA hN27 rfl) rfl rfl ?_
  refine zR (j := 22) (dj := 33) (b := true) rfl rfl rfl (zA hN27 rfl) rfl rfl ?_
  refine zR (j := 22) (dj := 33) (b := true) rfl rfl rfl (zA hN27 rfl) rfl rfl ?_
  refine zd (zA hN27 rfl) rfl ?_
  refine zD (zA hN27 rfl) ?_
  refine zB ?_
  refine hK30 _ _ (wp_ret (zb (zO ( ?_))))
  refine ret1 rfl hd27 (zA hN27 rfl) ⟨_, rfl, ?_⟩
  have e15 : decide (f.on.length = if f.join = [] then 0 else 2) = false := decide_eq_false (fun g => by rw [← hon9] at g; omega)
  have e9 : listsOk f inner.length = false := by unfold listsOk; rw [if_pos c7]; (simp only [Bool.and_false, Bool.false_and, Bool.and_true, Bool.true_and, e15]) <;> rfl
  rw [e9]; exact ⟨hb, rfl⟩
 refine zD (zA hN rfl) ?_
 refine zB ?_
 refine hK25 _ _ (wp_cond_false (zA hN rfl) (zF fun K35 hK35 => ?_))
 refine zH ?_
 refine op_eql (zA hN rfl) rfl (fun c39 => ?_) (fun c39 => ?_)
 ·
  refine zD (zA hN rfl) ?_
  refine zB ?_
  refine hK35 _ _ (wp_cond_true (zA hN rfl) (zF fun K36 hK36 => ?_))
  refine zH ?_
  refine zM fld45_5 (zA hN rfl) ?_
  refine zN (v := f.vv) one26 (zA hN rfl) (hB22.cell rfl) ?_
  refine op_len_rd Try.underlying26 (zA hN rfl) hfvR ?_
  refine op_eql (zA hN rfl) rfl (fun c43 => ?_) (fun c43 => ?_)
  ·
   refine zG (zA hN rfl) ?_
   refine zS (j := 4) (dj := 44) (b := true) rfl rfl rfl (zA hN rfl) ?_
   refine zM fld45_9 (zA hN rfl) ?_
   refine zS (j := 4) (dj := 44) (b := true) rfl rfl rfl (zA hN rfl) ?_
   refine zN (v := f.wv) one26 (zA hN rfl) (hB22.cell rfl) ?_
   refine zS (j := 4) (dj := 44) (b := true) rfl rfl rfl (zA hN rfl) ?_
   refine op_len_rd Try.underlying26 (zA hN rfl) hfwR ?_
   refine zS (j := 4) (dj := 44) (b := true) rfl rfl rfl (zA hN rfl) ?_
   refine op_leq (zA hN rfl) rfl (fun c48 => ?_) (fun c48 => ?_)
   ·
    refine zc (zA hN rfl) (zA hN rfl) ?_
    refine zD (zA hN rfl) ?_
    refine zB ?_
    refine hK36 _ _ (wp_ret (zb (zO ( ?_))))
    refine ret1 rfl hd (zA hN rfl) ⟨_, rfl, ?_⟩
    have e43 : decide (f.vals.length = 1) = true := decide_eq_true zx
    have e48 : decide (f.wh.length ≤ 1) = true := decide_eq_true zx
    have e9 : listsOk f inner.length = true := by unfold listsOk; rw [if_neg c7, if_pos c39]; (simp only [Bool.and_false, Bool.false_and, Bool.and_true, Bool.true_and, e43, e48]) <;> rfl
    rw [e9]; exact ⟨hb, rfl⟩
   refine zc (zA hN rfl) (zA hN rfl) ?_
   refine zD (zA hN rfl) ?_
   refine zB ?_
   refine hK36 _ _ (wp_ret (zb (zO ( ?_))))
   refine ret1 rfl hd (zA hN rfl) ⟨_, rfl, ?_⟩
   have e43 : decide (f.vals.length = 1) = true := decide_eq_true zx
   have e48 : decide (f.wh.length ≤ 1) = false := decide_eq_false zx
   have e9 : listsOk f inner.length = false := by unfold listsOk; rw [if_neg c7, if_pos c39]; (simp only [Bool.and_false, Bool.false_and, Bool.and_true, Bool.true_and, e43, e48]) <;> rfl
   rw [e9]; exact ⟨hb, rfl⟩
  refine zG (zA hN rfl) ?_
  refine zR (j := 4) (dj := 44) (b := true) rfl rfl rfl (zA hN rfl) rfl rfl ?_
  refine zR (j := 4) (dj := 44) (b := true) rfl rfl rfl (zA hN rfl) rfl rfl ?_
  refine zR (j := 4) (dj := 44) (b := true) rfl rfl rfl (zA hN rfl) rfl rfl ?_
  refine zR (j := 4) (dj := 44) (b := true) rfl rfl rfl (zA hN rfl) rfl rfl ?_
  refine zd (zA hN rfl) rfl ?_
  refine zD (zA hN rfl) ?_
  refine zB ?_
  refine hK36 _ _ (wp_ret (zb (zO ( ?_))))
  refine ret1 rfl hd (zA hN rfl) ⟨_, rfl, ?_⟩
  have e43 : decide (f.vals.length = 1) = false := decide_eq_false zx
  have e9 : listsOk f inner.length = false := by unfold listsOk; rw [if_neg c7, if_pos c39]; (simp only [Bool.and_false, Bool.false_and, Bool.and_true, Bool.true_and, e43]) <;> rfl
  rw [e9]; exact ⟨hb, rfl⟩
 refine zD (zA hN rfl) ?_
 refine zB ?_
 refine hK35 _ _ (wp_cond_false (zA hN rfl) (zF fun K37 hK37 => ?_))
 refine zH ?_
 refine op_eql (zA hN rfl) rfl (fun c51 => ?_) (fun c51 => ?_)
 ·
  refine zD (zA hN rfl) ?_
  refine zB ?_
  refine hK37 _ _ (wp_cond_true (zA hN rfl) (zF fun K38 hK38 => ?_))
  refine zH ?_
  refine zM fld45_9 (zA hN rfl) ?_
  refine zN (v := f.wv) one26 (zA hN rfl) (hB22.cell rfl) ?_
  refine op_len_rd Try.underlying26 (zA hN rfl) hfwR ?_
  refine op_leq (zA hN rfl) rfl (fun c55 => ?_) (fun c55 => ?_)
  ·
   refine zD (zA hN rfl) ?_
   refine zB ?_
   refine hK38 _ _ (wp_ret (zb (zO ( ?_))))
   refine ret1 rfl hd (zA hN rfl) ⟨_, rfl, ?_⟩
   have e55 : decide (f.wh.length ≤ 1) = true := decide_eq_true zx
   have e9 : listsOk f inner.length = true := by unfold listsOk; rw [if_neg c7, if_neg c39, if_pos c51]; (simp only [Bool.and_false, Bool.false_and, Bool.and_true, Bool.true_and, e55]) <;> rfl
   rw [e9]; exact ⟨hb, rfl⟩
  refine zD (zA hN rfl) ?_
  refine zB ?_
  refine hK38 _ _ (wp_ret (zb (zO ( ?_))))
  refine ret1 rfl hd (zA hN rfl) ⟨_, rfl, ?_⟩
  have e55 : decide (f.wh.length ≤ 1) = false := decide_eq_false zx
  have e9 : listsOk f inner.length = false := by unfold listsOk; rw [if_neg c7, if_neg c39, if_pos c51]; (simp only [Bool.and_false, Bool.false_and, Bool.and_true, Bool.true_and, e55]) <;> rfl
  rw [e9]; exact ⟨hb, rfl⟩
 refine zD (zA hN rfl) ?_
 refine zB ?_
 refine hK37 _ _ (wp_cond_false (zA hN rfl) (zF fun K39 hK39 => ?_))
 refine zF fun K40 hK40 => ?_
 refine zH ?_
 refine op_eql (zA hN rfl) rfl (fun c57 => ?_) (fun c57 => ?_)
 ·
  refine zD (zA hN rfl) ?_
  refine zB ?_
  refine hK40 _ _ (wp_cond_true (zA hN rfl) (wp_skip (hK39 _ _ (wp_cond_true (zA hN rfl) (zF fun K41 hK41 => ?_)))))
  refine zH ?_
  refine zM fld45_12 (zA hN rfl) ?_
  refine zN (v := nv) one43 (zA hN rfl) (hB22.cell rfl) ?_
  refine op_len_rd Try.underlying43 (zA hN rfl) hfn ?_
  refine op_eql (zA hN rfl) rfl (fun c62 => ?_) (fun c62 => ?_)
  ·
   refine zD (zA hN rfl) ?_
   refine zB ?_
   refine hK41 _ _ (wp_ret (zb (zO ( ?_))))
   refine ret1 rfl hd (zA hN rfl) ⟨_, rfl, ?_⟩
   have e62 : decide (inner.length = 1) = true := decide_eq_true zx
   have e9 : listsOk f inner.length = true := by unfold listsOk; rw [if_neg c7, if_neg c39, if_neg c51, if_pos (.inl c57)]; (simp only [Bool.and_false, Bool.false_and, Bool.and_true, Bool.true_and, e62]) <;> rfl
   rw [e9]; exact ⟨hb, rfl⟩
  refine zD (zA hN rfl) ?_
  refine zB ?_
  refine hK41 _ _ (wp_ret (zb (zO ( ?_))))
  refine ret1 rfl hd (zA hN rfl) ⟨_, rfl, ?_⟩
  have e62 : decide (inner.length = 1) = false := decide_eq_false zx
  have e9 : listsOk f inner.length = false := by unfold listsOk; rw [if_neg c7, if_neg c39, if_neg c51, if_pos (.inl c57)]; (simp only [Bool.and_false, Bool.false_and, Bool.and_true, Bool.true_and, e62]) <;> rfl
  rw [e9]; exact ⟨hb, rfl⟩
 refine zD (zA hN rfl) ?_
 refine zB ?_
 refine hK40 _ _ (wp_cond_false (zA hN rfl) (zH ?_))
 refine op_eql (zA hN rfl) rfl (fun c58 => ?_) (fun c58 => ?_)
 ·
  refine zD (zA hN rfl) ?_
  refine zB ?_
  refine hK39 _ _ (wp_cond_true (zA hN rfl) (zF fun K42 hK42 => ?_))
  refine zH ?_
  refine zM fld45_12 (zA hN rfl) ?_
  refine zN (v := nv) one43 (zA hN rfl) (hB22.cell rfl) ?_
  refine op_len_rd Try.underlying43 (zA hN rfl) hfn ?_
  refine op_eql (zA hN rfl) rfl (fun c62 => ?_) (fun c62 => ?_)
  ·
   refine zD (zA hN rfl) ?_
   refine zB ?_
   refine hK42 _ _ (wp_ret (zb (zO ( ?_))))
   refine ret1 rfl hd (zA hN rfl) ⟨_, rfl, ?_⟩
   have e62 : decide (inner.length = 1) = true := decide_eq_true zx
   have e9 : listsOk f inner.length = true := by unfold listsOk; rw [if_neg c7, if_neg c39, if_neg c51, if_pos (.inr c58)]; (simp only [Bool.and_false, Bool.false_and, Bool.and_true, Bool.true_and, e62]) <;> rfl
   rw [e9]; exact ⟨hb, rfl⟩
  refine zD (zA hN rfl) ?_
  refine zB ?_
  refine hK42 _ _ (wp_ret (zb (zO ( ?_))))
  refine ret1 rfl hd (zA hN rfl) ⟨_, rfl, ?_⟩
  have e62 : decide (inner.length = 1) = false := decide_eq_false zx
  have e9 : listsOk f inner.length = false := by unfold listsOk; rw [if_neg c7, if_neg c39, if_neg c51, if_pos (.inr c58)]; (simp only [Bool.and_false, Bool.false_and, Bool.and_true, Bool.true_and, e62]) <;> rfl
  rw [e9]; exact ⟨hb, rfl⟩
 refine zD (zA hN rfl) ?_
 refine zB ?_
 refine hK39 _ _ (wp_cond_false (zA hN rfl) (wp_skip (hK23 _ _ (zF fun K43 hK43 => ?_))))
 refine zH ?_
 refine zM fld45_0 (zA hN rfl) ?_
 refine zN (v := (Value.int .i64 f.kind)) one3 (zA hN rfl) (hB22.cell rfl) ?_
 refine op_geq (zA hN rfl) rfl (fun c65 => ?_) (fun c65 => ?_)
 ·
  refine zG (zA hN rfl) ?_
  refine zS (j := 3) (dj := 66) (b := true) rfl rfl rfl (zA hN rfl) ?_
  refine zM fld45_0 (zA hN rfl) ?_
  refine zS (j := 3) (dj := 66) (b := true) rfl rfl rfl (zA hN rfl) ?_
  refine zN (v := (Value.int .i64 f.kind)) one3 (zA hN rfl) (hB22.cell rfl) ?_
  refine zS (j := 3) (dj := 66) (b := true) rfl rfl rfl (zA hN rfl) ?_
  refine op_leq (zA hN rfl) rfl (fun c69 => ?_) (fun c69 => ?_)
  ·
   refine zc (zA hN rfl) (zA hN rfl) ?_
   refine zD (zA hN rfl) ?_
   refine zB ?_
   refine hK43 _ _ (wp_ret ?_)
   refine ret1 rfl hd (zA hN rfl) ⟨_, rfl, ?_⟩
   have e65 : decide (1 ≤ f.kind) = true := decide_eq_true zx
   have e69 : decide (f.kind ≤ 13) = true := decide_eq_true zx
   have e9 : listsOk f inner.length = true := by unfold listsOk; rw [if_neg c7, if_neg c39, if_neg c51, if_neg (fun g => g.elim c57 c58)]; (simp only [Bool.and_false, Bool.false_and, Bool.and_true, Bool.true_and, e65, e69]) <;> rfl
   rw [e9]; exact ⟨hb, rfl⟩
  refine zc (zA hN rfl) (zA hN rfl) ?_
  refine zD (zA hN rfl) ?_
  refine zB ?_
  refine hK43 _ _ (wp_ret ?_)
  refine ret1 rfl hd (zA hN rfl) ⟨_, rfl, ?_⟩
  have e65 : decide (1 ≤ f.kind) = true := decide_eq_true zx
  have e69 : decide (f.kind ≤ 13) = false := decide_eq_false zx
  have e9 : listsOk f inner.length = false := by unfold listsOk; rw [if_neg c7, if_neg c39, if_neg c51, if_neg (fun g => g.elim c57 c58)]; (simp only [Bool.and_false, Bool.false_and, Bool.and_true, Bool.true_and, e65, e69]) <;> rfl
  rw [e9]; exact ⟨hb, rfl⟩
 refine zG (zA hN rfl) ?_
 refine zR (j := 3) (dj := 66) (b := true) rfl rfl rfl (zA hN rfl) rfl rfl ?_
 refine zR (j := 3) (dj := 66) (b := true) rfl rfl rfl (zA hN rfl) rfl rfl ?_
 refine zR (j := 3) (dj := 66) (b := true) rfl rfl rfl (zA hN rfl) rfl rfl ?_
 refine zd (zA hN rfl) rfl ?_
 refine zD (zA hN rfl) ?_
 refine zB ?_
 refine hK43 _ _ (wp_ret ?_)
 refine ret1 rfl hd (zA hN rfl) ⟨_, rfl, ?_⟩
 have e65 : decide (1 ≤ f.kind) = false := decide_eq_false zx
 have e9 : listsOk f inner.length = false := by unfold listsOk; rw [if_neg c7, if_neg c39, if_neg c51, if_neg (fun g => g.elim c57 c58)]; (simp only [Bool.and_false, Bool.false_and, Bool.and_true, Bool.true_and, e65]) <;> rfl
 rw [e9]; exact ⟨hb, rfl⟩

theorem where9_ret {C : List PItm} {K : List Int} {vc vk : Value} {v : Value} {E : List XE} {w : World} (hz0 : C.length ≤ 9223372036854775807) (hz1 : K.length ≤ 9223372036854775807) (hC : RdC w 0 w.heap.size 3 vc C.length (C.flatMap cellsI)) (hK : RdC w 0 w.heap.size 1 vk K.length (K.map (Value.int .i64))) (hX : XsRd w w.heap.size v E) : Ret Try.prog 81 #[vc, vk, v] w (fun v' w' => Below w.heap.size w w' ∧ v' = .int .i64 (whereX C K E)) := by
 have hR := hX.1
 have hlm := rd_len hR
 have hb := Below.refl w.heap.size w
 refine enter (N := 31) Try.func81 rfl rfl (by simp) fun a0 hN hd hA => ?_
 have s0 : a0.tmps.getD 0 undef = vc := hA 0 (by simp)
 have s1 : a0.tmps.getD 1 undef = vk := hA 1 (by simp)
 have s2 : a0.tmps.getD 2 undef = v := hA 2 (by simp)
 clear hA
 refine zF fun K44 hK44 => ?_
 refine zH ?_
 refine zD rfl ?_
 refine zB ?_
 refine hK44 _ _ (zF fun K45 hK45 => ?_)
 refine zF fun K46 hK46 => ?_
 refine zH ?_
 refine zD rfl ?_
 refine zB ?_
 refine hK46 _ _ (wp_block ?_)
 refine loop_m (fun mz_ az_ w' => ∃ (i : Nat), mz_ = E.length - i ∧ (az_.tmps.getD 0 undef = vc) ∧ (az_.tmps.getD 1 undef = vk) ∧ (az_.tmps.getD 2 undef = v) ∧ (az_.tmps.getD 7 undef = (.int .i64 ((i : Nat) : Int))) ∧ (i ≤ E.length) ∧ (∀ j, j < i → mustX C K (E.getD j default) 3 = 0) ∧ (Below w.heap.size w w') ∧ (w.heap.size ≤ w'.heap.size) ∧ (RdC w' 0 w.heap.size 3 vc C.length (C.flatMap cellsI)) ∧ (RdC w' 0 w.heap.size 1 vk K.length (K.map (Value.int .i64))) ∧ (XsRd w' w.heap.size v E) ∧ (RdC w' 0 w.heap.size 7 v E.length (E.flatMap cellsX))) _ hN hd ⟨0, rfl, (zL hN rfl s0), (zL hN rfl s1), (zL hN rfl s2), (zU hN rfl), (Nat.zero_le _), (fun _ h => absurd h (Nat.not_lt_zero _)), hb, (Nat.le_refl _), hC, hK, hX, hR⟩ ?_
 rintro _ a47 w47 hN47 hd47 ⟨i, rfl, s47_0, s47_1, s47_2, s47_7, hi, hall, hb, zl_w47, hC, hK, hX, hR⟩
 have := hb.size
 refine zF fun K48 hK48 => ?_
 refine zF fun K49 hK49 => ?_
 refine zH ?_
 refine zG (zC hN47 rfl s47_7) ?_
 refine zG (zC hN47 rfl s47_2) ?_
 refine op_len_rd Try.underlying26 (zA hN47 rfl) hR ?_
 refine op_lss (zA hN47 rfl) (zA hN47 rfl) (fun c13 => ?_) (fun c13 => ?_)
 ·
  refine zB ?_
  refine hK49 _ _ (wp_cond_true (zA hN47 rfl) (wp_skip (hK48 _ _ (zF fun K50 hK50 => ?_))))
  refine wp_block ?_
  refine zF fun K51 hK51 => ?_
  refine zH ?_
  refine zG (zC hN47 rfl s47_0) ?_
  refine zG (zC hN47 rfl s47_1) ?_
  refine zG (zC hN47 rfl s47_2) ?_
  refine zG (zC hN47 rfl s47_7) ?_
  refine zh slt26 (zA hN47 rfl) hR (zA hN47 rfl) zx zx ?_
  intro b52 o53 h0b52 h1b52 hc54
  refine zX (cs := [(.int .i64 (E.getD i default).op), (.int .i64 (E.getD i default).vk), (.int .i64 (E.getD i default).vi), (.string (bs (E.getD i default).vt)), (.string (bs (E.getD i default).tb)), (.string (bs (E.getD i default).nm)), (E.getD i default).av]) agg28 rfl (zA hN47 rfl) (fun j u hu => hc54 j u (by have := (List.getElem?_eq_some_iff.1 hu).1; simpa using this) ((el_xe (i := i) zx zx) j u hu)) ?_
  refine zj ok15 (KindQ_ret (w := w47) (C := C) (K := K) (E.getD i default) (by first | assumption | omega | (simp only [List.length_append, List.length_cons, List.length_nil, List.length_drop, List.length_take]; omega) | (dsimp only; omega) | decide | (simp [keyV, be8_len]; done)) (by first | assumption | omega | (simp only [List.length_append, List.length_cons, List.length_nil, List.length_drop, List.length_take]; omega) | (dsimp only; omega) | decide | (simp [keyV, be8_len]; done)) (hC.mono (Nat.zero_le _) zx) (hK.mono (Nat.zero_le _) zx) ((hX.2 (E.getD i default) (getD_mem zx)).mono zx)) ⟨(zA hN47 rfl), ⟨(zA hN47 rfl), ⟨(zA hN47 rfl), trivial⟩⟩⟩ ?_
  rintro _ w55 ⟨E56, rfl⟩
  have E56 := zQ E56
  have := E56.size
  have hC := hC.keep0 E56
  have hK := hK.keep0 E56
  have hX := hX.keep0 E56
  have hR := hR.keep0 E56
  have hb := zP hb E56 hb.size
  refine zG (zA hN47 rfl) ?_
  refine zW (zA hN47 rfl) rfl ?_
  refine zW (zA hN47 rfl) rfl ?_
  refine zD (zA hN47 rfl) ?_
  refine zD (zA hN47 rfl) ?_
  refine zB ?_
  refine hK51 _ _ (zF fun K57 hK57 => ?_)
  refine zF fun K58 hK58 => ?_
  refine zH ?_
  refine zG (zA hN47 rfl) ?_
  refine op_neq (zA hN47 rfl) rfl (fun c27 => ?_) (fun c27 => ?_)
  ·
   refine zB ?_
   refine hK58 _ _ (wp_cond_true (zA hN47 rfl) (zF fun K59 hK59 => ?_))
   refine zH ?_
   refine zG (zA hN47 rfl) ?_
   refine zD (zA hN47 rfl) ?_
   refine zB ?_
   refine hK59 _ _ (wp_ret (zO (zb (zO (zO (zb (zO ( ?_))))))))
   refine ret1 rfl hd47 (zA hN47 rfl) ⟨_, rfl, ?_⟩
   have h8 : mustX C K (E.getD i default) 3 = (kindX C K (E.getD i default)).2 := if_pos c27
   have h7 : whereX C K E = mustX C K (E.getD i default) 3 := firstE_hit (f := (fun e => mustX C K e 3)) zx hall (by rw [h8]; first | exact c27 | decide)
   rw [h7, h8]; exact ⟨hb, rfl⟩
  refine zB ?_
  refine hK58 _ _ (wp_cond_false (zA hN47 rfl) (wp_skip (hK57 _ _ (zF fun K60 hK60 => ?_))))
  refine zH ?_
  refine zG (zA hN47 rfl) ?_
  refine op_neq (zA hN47 rfl) rfl (fun c30 => ?_) (fun c30 => ?_)
  ·
   refine zB ?_
   refine hK60 _ _ (wp_cond_true (zA hN47 rfl) (zF fun K61 hK61 => ?_))
   refine zH ?_
   refine zD rfl ?_
   refine zB ?_
   refine hK61 _ _ (wp_ret (zb (zO (zO (zb (zO ( ?_)))))))
   refine ret1 rfl hd47 (zA hN47 rfl) ⟨_, rfl, ?_⟩
   have h8 : mustX C K (E.getD i default) 3 = 11 := must_t c27 c30
   have h7 : whereX C K E = mustX C K (E.getD i default) 3 := firstE_hit (f := (fun e => mustX C K e 3)) zx hall (by rw [h8]; first | exact c27 | decide)
   rw [h7, h8]; exact ⟨hb, rfl⟩
  refine zB ?_
  refine hK60 _ _ (wp_cond_false (zA hN47 rfl) (wp_skip (hK50 _ _ (zH ?_))))
  refine zG (zC hN47 rfl s47_7) ?_
  refine op_add (zA hN47 rfl) rfl (add64 zx) ?_
  refine zD (zA hN47 rfl) ?_
  refine zB ?_
  -- round 13T 27F 30F
  exact zg _ hN47 hd47 ⟨(i + 1), rfl, (zL hN47 rfl s47_0), (zL hN47 rfl s47_1), (zL hN47 rfl s47_2), (zU hN47 rfl).trans (congrArg (Value.int .i64) zx), zx, (all_next hall (must_0 c27 c30)), hb, zx, hC, hK, hX, hR⟩ zx
 refine zB ?_
 refine hK49 _ _ (wp_cond_false (zA hN47 rfl) (wp_exit (then_exit (then_exit (blk_hit ?_)))))
 refine hK45 _ _ (zF fun K62 hK62 => ?_)
 refine zH ?_
 refine zD rfl ?_
 refine zB ?_
 refine hK62 _ _ (wp_ret ?_)
 refine ret1 rfl hd47 (zA hN47 rfl) ⟨_, rfl, ?_⟩
 have e9 : whereX C K E = 0 := firstE_none (f := (fun e => mustX C K e 3)) zx hall
 rw [e9]; exact ⟨hb, rfl⟩

theorem Cols9_own {nm : List UInt8} {l : List PCol} {cv iv : Value} {w : World} (hz : l.length ≤ 1000000) (hl : RdC w 0 w.heap.size 3 cv l.length (l.flatMap cellsC)) : Ret Try.prog 80 #[(.agg #[(.string (bs nm)), cv, iv])] w (fun v' w' => Below w.heap.size w w' ∧ ∃ av bv : Value, v' = .tuple #[av, bv] ∧ Own w' w.heap.size 63 3 av (colsOf nm l).length ((colsOf nm l).flatMap cellsI) ∧ Own w' w.heap.size 3 1 bv (kindsOf l).length ((kindsOf l).map (Value.int .i64))) := by
 have hb := Below.refl w.heap.size w
 refine enter (N := 37) Try.func80 rfl rfl (by simp) fun a0 hN hd hA => ?_
 have s0 : a0.tmps.getD 0 undef = (.agg #[(.string (bs nm)), cv, iv]) := hA 0 (by simp)
 clear hA
 refine zF fun K63 hK63 => ?_
 refine zH ?_
 refine op_box (cs := [(.string (bs nm)), cv, iv]) (zC hN rfl s0) rfl ?_
 intro w64 b65 lo_b65 hi_b65 hB67 E66
 have := E66.size
 have hl := hl.keep0 E66
 have hb := zP hb E66 hb.size
 refine zD rfl ?_
 refine zD rfl ?_
 refine zB ?_
 refine hK63 _ _ (zF fun K68 hK68 => ?_)
 refine zH ?_
 refine zD rfl ?_
 refine zB ?_
 refine hK68 _ _ (zF fun K69 hK69 => ?_)
 refine zH ?_
 refine zD rfl ?_
 refine zB ?_
 refine hK69 _ _ (zF fun K70 hK70 => ?_)
 refine zF fun K71 hK71 => ?_
 refine zH ?_
 refine zD rfl ?_
 refine zB ?_
 refine hK71 _ _ (wp_block ?_)
 refine loop_m (fun mz_ az_ w' => ∃ (i : Nat) (lv2 lv3 : Value), mz_ = l.length - i ∧ (az_.tmps.getD 1 undef = (ptr b65 0)) ∧ (az_.tmps.getD 2 undef = (.slice none 0 0)) ∧ (az_.tmps.getD 3 undef = (.slice none 0 0)) ∧ (az_.tmps.getD 6 undef = (.int .i64 ((i : Nat) : Int))) ∧ (az_.tmps.getD 4 undef = lv2) ∧ (az_.tmps.getD 5 undef = lv3) ∧ (i ≤ l.length) ∧ (Below w.heap.size w w') ∧ (w64.heap.size ≤ w'.heap.size) ∧ (RdC w' 0 w.heap.size 3 cv l.length (l.flatMap cellsC)) ∧ (Bx w' b65 55 [(.string (bs nm)), cv, iv]) ∧ (Own w' w.heap.size 63 3 lv2 (colsOf nm (l.take i)).length ((colsOf nm (l.take i)).flatMap cellsI)) ∧ (Own w' w.heap.size 3 1 lv3 (kindsOf (l.take i)).length ((kindsOf (l.take i)).map (Value.int .i64)))) _ hN hd ⟨0, (.slice none 0 0), (.slice none 0 0), rfl, (zU hN rfl), (zU hN rfl), (zU hN rfl), (zU hN rfl), (zU hN rfl), (zU hN rfl), (Nat.zero_le _), hb, (Nat.le_refl _), hl, hB67, (Own.nil _ _ _ _), (Own.nil _ _ _ _)⟩ ?_
 rintro _ a72 w72 hN72 hd72 ⟨i, lv2, lv3, rfl, s72_1, s72_2, s72_3, s72_6, s72_4, s72_5, hi, hb, zl_w72, hl, hB67, hO73, hO74⟩
 have := hb.size
 refine zF fun K75 hK75 => ?_
 refine zF fun K76 hK76 => ?_
 refine zH ?_
 refine zG (zC hN72 rfl s72_6) ?_
 refine zM fld55_1 (zC hN72 rfl s72_1) ?_
 refine zN (v := cv) one41 (zA hN72 rfl) (hB67.cell rfl) ?_
 refine op_len_rd Try.underlying41 (zA hN72 rfl) hl ?_
 refine op_lss (zA hN72 rfl) (zA hN72 rfl) (fun c11 => ?_) (fun c11 => ?_)
 ·
  refine zB ?_
  refine hK76 _ _ (wp_cond_true (zA hN72 rfl) (wp_skip (hK75 _ _ (zF fun K77 hK77 => ?_))))
  refine wp_block ?_
  obtain ⟨b78, o79, hAt80⟩ := hl.atV (i := i) zz zx
  have hcl := @cols_len nm (l.take i)
  have hkl := @kinds_len (l.take i)
  rw [List.length_take] at hcl hkl
  refine reg_split (hd := [_, _, _, _, _, _, _, _, _, _, _, _, _, _, _, _, _, _, _, _, _]) (tl := _) 21 mixed zy rfl rfl ?_
  refine any_tree (φ := phiV [(fun uz => uz = lv2), (fun uz => uz = (ptr b65 0)), (fun uz => uz = (.string (bs nm))), (fun uz => uz = (ptr b65 1)), (fun uz => uz = cv), (fun uz => uz = (.int .i64 ((i : Nat) : Int))), (fun uz => uz = (ptr b78 o79)), (fun uz => uz = (ptr b78 (o79 + 0))), (fun uz => uz = (.string (bs (l.getD i default).nm))), (fun uz => uz = (.agg #[(.int .i64 0), (.string (bs nm)), (.string (bs (l.getD i default).nm))])), (fun _ => True), (fun _ => True), (fun uz => uz = lv3), (fun uz => uz = (ptr b65 1)), (fun uz => uz = cv), (fun uz => uz = (.int .i64 ((i : Nat) : Int))), (fun uz => uz = (ptr b78 o79)), (fun uz => uz = (ptr b78 (o79 + 1))), (fun uz => uz = (.int .i64 (l.getD i default).kind)), (fun _ => True), (fun _ => True)]) (G := fun w' => RdC w' 0 w.heap.size 3 cv l.length (l.flatMap cellsC) ∧ Bx w' b65 55 [(.string (bs nm)), cv, iv]) [10, 11, 19, 20] zy zy zy zy zy hN72 (fun w1 w2 E h => by obtain ⟨h0, h1⟩ := h; exact ⟨h0.keep0 E, h1.keep0 E⟩) ⟨hl, hB67⟩ (ObRs9.cons ?_ (ObRs9.cons ?_ (ObRs9.cons ?_ (ObRs9.cons ?_ (ObRs9.cons ?_ (ObRs9.cons ?_ (ObRs9.cons ?_ (ObRs9.cons ?_ (ObRs9.cons ?_ (ObRs9.cons ?_ (ObRs9.pass rfl (ObRs9.pass rfl (ObRs9.cons ?_ (ObRs9.cons ?_ (ObRs9.cons ?_ (ObRs9.cons ?_ (ObRs9.cons ?_ (ObRs9.cons ?_ (ObRs9.cons ?_ (ObRs9.pass rfl (ObRs9.pass rfl (ObRs9.nil)))))))))))))))))))))) (by simp only [putsL_defers]) ?_
  ·
   intro eA aA wA hNA hGA hbsA hdpA
   have qA_4 := (hbsA 4 rfl).trans (zL hN72 rfl s72_4)
   refine zG (zC hNA rfl qA_4) ?_
   exact obT_end rfl rfl
  ·
   intro eA aA wA hNA hGA hbsA hdpA
   have qA_1 := (hbsA 1 rfl).trans (zL hN72 rfl s72_1)
   refine zM fld55_0 (zC hNA rfl qA_1) ?_
   exact obT_end rfl rfl
  ·
   intro eA aA wA hNA hGA hbsA hdpA
   have qA_15 : Sl aA 15 (ptr b65 0) := (hdpA 1 _ 15 zy rfl rfl).2 rfl
   obtain ⟨hl, hB67⟩ := hGA
   refine zN (v := (Value.string (bs nm))) one9 (zC hNA rfl qA_15) (hB67.cell rfl) ?_
   exact obT_end rfl rfl
  ·
   intro eA aA wA hNA hGA hbsA hdpA
   have qA_1 := (hbsA 1 rfl).trans (zL hN72 rfl s72_1)
   refine zM fld55_1 (zC hNA rfl qA_1) ?_
   exact obT_end rfl rfl
  ·
   intro eA aA wA hNA hGA hbsA hdpA
   have qA_17 : Sl aA 17 (ptr b65 1) := (hdpA 3 _ 17 zy rfl rfl).2 rfl
   obtain ⟨hl, hB67⟩ := hGA
   refine zN (v := cv) one41 (zC hNA rfl qA_17) (hB67.cell rfl) ?_
   exact obT_end rfl rfl
  ·
   intro eA aA wA hNA hGA hbsA hdpA
   have qA_6 := (hbsA 6 rfl).trans (zL hN72 rfl s72_6)
   refine zG (zC hNA rfl qA_6) ?_
   exact obT_end rfl rfl
  ·
   intro eA aA wA hNA hGA hbsA hdpA
   have qA_18 : Sl aA 18 cv := (hdpA 4 _ 18 zy rfl rfl).2 rfl
   have qA_19 : Sl aA 19 (.int .i64 ((i : Nat) : Int)) := (hdpA 5 _ 19 zy rfl rfl).2 rfl
   obtain ⟨hl, hB67⟩ := hGA
   refine op_index_atR (i := i) slt41 (zC hNA rfl qA_18) hl zz (zC hNA rfl qA_19) zx zx hAt80 ?_
   exact obT_end rfl rfl
  ·
   intro eA aA wA hNA hGA hbsA hdpA
   have qA_20 : Sl aA 20 (ptr b78 o79) := (hdpA 6 _ 20 zy rfl rfl).2 rfl
   refine zM fld68_0 (zC hNA rfl qA_20) ?_
   exact obT_end rfl rfl
  ·
   intro eA aA wA hNA hGA hbsA hdpA
   have qA_21 : Sl aA 21 (ptr b78 (o79 + 0)) := (hdpA 7 _ 21 zy rfl rfl).2 rfl
   obtain ⟨hl, hB67⟩ := hGA
   refine zN (v := (Value.string (bs (l.getD i default).nm))) one9 (zC hNA rfl qA_21) (hl.cellAt hAt80 0 _ ((el_pc (i := i) rfl zx) 0 _ rfl)) ?_
   exact obT_end rfl rfl
  ·
   intro eA aA wA hNA hGA hbsA hdpA
   have qA_16 : Sl aA 16 (.string (bs nm)) := (hdpA 2 _ 16 zy rfl rfl).2 rfl
   have qA_22 : Sl aA 22 (.string (bs (l.getD i default).nm)) := (hdpA 8 _ 22 zy rfl rfl).2 rfl
   refine zf (pv := [(1, (.string (bs nm))), (2, (.string (bs (l.getD i default).nm)))]) (v := (Value.agg #[(.int .i64 0), (.string (bs nm)), (.string (bs (l.getD i default).nm))])) ⟨rfl, (zC hNA rfl qA_16), ⟨rfl, (zC hNA rfl qA_22), trivial⟩⟩ zy ?_
   exact obT_end rfl rfl
  ·
   intro eA aA wA hNA hGA hbsA hdpA
   have qA_5 := (hbsA 5 rfl).trans (zL hN72 rfl s72_5)
   refine zG (zC hNA rfl qA_5) ?_
   exact obT_end rfl rfl
  ·
   intro eA aA wA hNA hGA hbsA hdpA
   have qA_1 := (hbsA 1 rfl).trans (zL hN72 rfl s72_1)
   refine zM fld55_1 (zC hNA rfl qA_1) ?_
   exact obT_end rfl rfl
  ·
   intro eA aA wA hNA hGA hbsA hdpA
   have qA_27 : Sl aA 27 (ptr b65 1) := (hdpA 13 _ 27 zy rfl rfl).2 rfl
   obtain ⟨hl, hB67⟩ := hGA
   refine zN (v := cv) one41 (zC hNA rfl qA_27) (hB67.cell rfl) ?_
   exact obT_end rfl rfl
  ·
   intro eA aA wA hNA hGA hbsA hdpA
   have qA_6 := (hbsA 6 rfl).trans (zL hN72 rfl s72_6)
   refine zG (zC hNA rfl qA_6) ?_
   exact obT_end rfl rfl
  ·
   intro eA aA wA hNA hGA hbsA hdpA
   have qA_28 : Sl aA 28 cv := (hdpA 14 _ 28 zy rfl rfl).2 rfl
   have qA_29 : Sl aA 29 (.int .i64 ((i : Nat) : Int)) := (hdpA 15 _ 29 zy rfl rfl).2 rfl
   obtain ⟨hl, hB67⟩ := hGA
   refine op_index_atR (i := i) slt41 (zC hNA rfl qA_28) hl zz (zC hNA rfl qA_29) zx zx hAt80 ?_
   exact obT_end rfl rfl
  ·
   intro eA aA wA hNA hGA hbsA hdpA
   have qA_30 : Sl aA 30 (ptr b78 o79) := (hdpA 16 _ 30 zy rfl rfl).2 rfl
   refine zM fld68_1 (zC hNA rfl qA_30) ?_
   exact obT_end rfl rfl
  ·
   intro eA aA wA hNA hGA hbsA hdpA
   have qA_31 : Sl aA 31 (ptr b78 (o79 + 1)) := (hdpA 17 _ 31 zy rfl rfl).2 rfl
   obtain ⟨hl, hB67⟩ := hGA
   refine zN (v := (Value.int .i64 (l.getD i default).kind)) one3 (zC hNA rfl qA_31) (hl.cellAt hAt80 1 _ ((el_pc (i := i) rfl zx) 1 _ rfl)) ?_
   exact obT_end rfl rfl
  refine kt_step (rs := [10, 19]) zy ?_
  refine more_mem ?_ ?_
  ·
   intro w82 E82 _ a82 hN82 hbs82 hdp82 o_ ho_; obtain rfl := zE ho_
   have := E82.size
   have hl := hl.keep0 E82
   have hB67 := hB67.keep0 E82
   have hO73 := hO73.keep0 E82
   have hO74 := hO74.keep0 E82
   have hb := zP hb E82 hb.size
   have q82_23 : Sl a82 23 (.agg #[(.int .i64 0), (.string (bs nm)), (.string (bs (l.getD i default).nm))]) := (hdp82 9 _ 23 zy rfl rfl).2 rfl
   refine op_bslice (e := 63) (pv := [(0, (.agg #[(.int .i64 0), (.string (bs nm)), (.string (bs (l.getD i default).nm))]))]) (cs := [(.int .i64 0), (.string (bs nm)), (.string (bs (l.getD i default).nm))]) ⟨rfl, (zC hN82 rfl q82_23), trivial⟩ zy ?_
   intro w83 b84 lo_b84 hi_b84 hB86 E85
   have := E85.size
   have hl := hl.keep0 E85
   have hB67 := hB67.keep0 E85
   have hO73 := hO73.keep0 E85
   have hO74 := hO74.keep0 E85
   have hb := zP hb E85 hb.size
   refine kt_end rfl ⟨hl, hB67⟩ ?_
   refine kt_step (rs := [11, 19]) zy ?_
   refine more_mem ?_ ?_
   ·
    intro w88 E88 _ a88 hN88 hbs88 hdp88 o_ ho_; obtain rfl := zE ho_
    have := E88.size
    have hl := hl.keep0 E88
    have hO73 := hO73.keep0 E88
    have hO74 := hO74.keep0 E88
    obtain ⟨hB67, hB86⟩ := kb2 E88 hB67 hB86
    have hb := zP hb E88 hb.size
    have q88_14 : Sl a88 14 lv2 := (hdp88 0 _ 14 zy rfl rfl).2 rfl
    have q88_24 : Sl a88 24 (.slice (some ⟨b84, 0, none⟩) 1 1) := (zE ((hdp88 10 _ 24 zy rfl rfl).1 rfl)).symm
    have hP94 := hO73
    refine op_append slt22 (zC hN88 rfl q88_14) hP94 (zC hN88 rfl q88_24) (Src.ofRd Try.underlying22 zz (RdC.ofBx (sz := 3) (n := 1) hB86 rfl zz) (by simp [Value.oneCell', u8v])) (by unfold maxLen; omega) zx hb.size ?_
    intro v89 w90 hO92 E91 hm93
    have := E91.size
    have hl := hl.keepO hP94 E91 zx
    have hB67 := hB67.keepO hP94 E91 zz
    have hO74 := hO74.keepT hP94 E91 zz
    have hb := below_stepO hb hP94 E91 hb.size zx
    have hO92 : Own w90 w.heap.size 63 3 v89 ((colsOf nm (l.take i)).length + 1) ((((colsOf nm (l.take i)) ++ [(PItm.mk 0 nm ((l.getD i default).nm))])).flatMap cellsI) := by simpa [u8v, u16v, sv, cellsI] using hO92
    refine kt_end rfl ⟨hl, hB67⟩ ?_
    refine kt_step (rs := [19]) zy ?_
    refine one_mem ?_
    intro w96 E96 _ a96 hN96 hbs96 hdp96 o_ ho_; obtain rfl := zE ho_
    have := E96.size
    have hl := hl.keep0 E96
    have hB67 := hB67.keep0 E96
    have hO74 := hO74.keep0 E96
    have hO92 := hO92.keep0 E96
    have hb := zP hb E96 hb.size
    have q96_32 : Sl a96 32 (.int .i64 (l.getD i default).kind) := (hdp96 18 _ 32 zy rfl rfl).2 rfl
    refine op_bslice (e := 3) (pv := [(0, (.int .i64 (l.getD i default).kind))]) (cs := [(.int .i64 (l.getD i default).kind)]) ⟨rfl, (zC hN96 rfl q96_32), trivial⟩ zy ?_
    intro w97 b98 lo_b98 hi_b98 hB100 E99
    have := E99.size
    have hl := hl.keep0 E99
    have hB67 := hB67.keep0 E99
    have hO74 := hO74.keep0 E99
    have hO92 := hO92.keep0 E99
    have hb := zP hb E99 hb.size
    refine kt_end rfl ⟨hl, hB67⟩ ?_
    refine kt_step (rs := [20]) zy ?_
    refine one_mem ?_
    intro w102 E102 _ a102 hN102 hbs102 hdp102 o_ ho_; obtain rfl := zE ho_
    have := E102.size
    have hl := hl.keep0 E102
    have hO74 := hO74.keep0 E102
    have hO92 := hO92.keep0 E102
    obtain ⟨hB67, hB100⟩ := kb2 E102 hB67 hB100
    have hb := zP hb E102 hb.size
    have q102_26 : Sl a102 26 lv3 := (hdp102 12 _ 26 zy rfl rfl).2 rfl
    have q102_33 : Sl a102 33 (.slice (some ⟨b98, 0, none⟩) 1 1) := (zE ((hdp102 19 _ 33 zy rfl rfl).1 rfl)).symm
    have hP108 := hO74
    refine op_append slt23 (zC hN102 rfl q102_26) hP108 (zC hN102 rfl q102_33) (Src.ofRd Try.underlying23 zz (RdC.ofBx (sz := 1) (n := 1) hB100 rfl zz) (by simp [Value.oneCell', u8v])) (by unfold maxLen; omega) zx hb.size ?_
    intro v103 w104 hO106 E105 hm107
    have := E105.size
    have hl := hl.keepO hP108 E105 zx
    have hB67 := hB67.keepO hP108 E105 zz
    have hO92 := hO92.keepT hP108 E105 zz
    have hb := below_stepO hb hP108 E105 hb.size zx
    have hO106 : Own w104 w.heap.size 3 1 v103 ((kindsOf (l.take i)).length + 1) ((((kindsOf (l.take i)) ++ [(l.getD i default).kind])).map (Value.int .i64)) := by simpa [u8v, u16v, sv, cellsI] using hO106
    refine kt_end rfl ⟨hl, hB67⟩ ?_
    intro w109 E109 a109 hN109 hd109 hbs109 hph109
    have hd109 := hd109.trans ((by simp only [putsL_defers] : _ = _).trans hd72)
    have := E109.size
    have hl := hl.keep0 E109
    have hB67 := hB67.keep0 E109
    have hO92 := hO92.keep0 E109
    have hO106 := hO106.keep0 E109
    have hb := zP hb E109 hb.size
    have s109_1 := (hbs109 1 rfl).trans (zL hN72 rfl s72_1)
    have s109_2 := (hbs109 2 rfl).trans (zL hN72 rfl s72_2)
    have s109_3 := (hbs109 3 rfl).trans (zL hN72 rfl s72_3)
    have s109_6 := (hbs109 6 rfl).trans (zL hN72 rfl s72_6)
    have s109_25 : Sl a109 25 v89 := (zE ((hph109 11 _ 25 rfl rfl).1 rfl)).symm
    have s109_34 : Sl a109 34 v103 := (zE ((hph109 20 _ 34 rfl rfl).1 rfl)).symm
    refine split_end ?_
    refine from_seq (tl := [_, _]) zz zy rfl ?_
    refine zD (zC hN109 rfl s109_25) ?_
    refine zD (zC hN109 rfl s109_34) ?_
    refine zB ?_
    refine hK77 _ _ (zH ?_)
    refine zG (zC hN109 rfl s109_6) ?_
    refine op_add (zA hN109 rfl) rfl (add64 zx) ?_
    refine zD (zA hN109 rfl) ?_
    refine zB ?_
    -- round 11T
    exact zg _ hN109 hd109 ⟨(i + 1), v89, v103, rfl, (zL hN109 rfl s109_1), (zL hN109 rfl s109_2), (zL hN109 rfl s109_3), (zU hN109 rfl).trans (congrArg (Value.int .i64) zx), (zU hN109 rfl), (zU hN109 rfl), zx, hb, zx, hl, hB67, (hO92.cast (by rw [cols_snoc zx] <;> simp) (by rw [cols_snoc zx] <;> simp [cellsI])), (hO106.cast (by rw [kinds_snoc zx] <;> simp) (by rw [kinds_snoc zx] <;> simp))⟩ zx
   refine one_mem ?_
   intro w110 E110 _ a110 hN110 hbs110 hdp110 o_ ho_; obtain rfl := zE ho_
   have := E110.size
   have hl := hl.keep0 E110
   have hO73 := hO73.keep0 E110
   have hO74 := hO74.keep0 E110
   obtain ⟨hB67, hB86⟩ := kb2 E110 hB67 hB86
   have hb := zP hb E110 hb.size
   have q110_32 : Sl a110 32 (.int .i64 (l.getD i default).kind) := (hdp110 18 _ 32 zy rfl rfl).2 rfl
   refine op_bslice (e := 3) (pv := [(0, (.int .i64 (l.getD i default).kind))]) (cs := [(.int .i64 (l.getD i default).kind)]) ⟨rfl, (zC hN110 rfl q110_32), trivial⟩ zy ?_
   intro w111 b112 lo_b112 hi_b112 hB114 E113
   have := E113.size
   have hl := hl.keep0 E113
   have hO73 := hO73.keep0 E113
   have hO74 := hO74.keep0 E113
   obtain ⟨hB67, hB86⟩ := kb2 E113 hB67 hB86
   have hb := zP hb E113 hb.size
   refine kt_end rfl ⟨hl, hB67⟩ ?_
   refine kt_step (rs := [11]) zy ?_
   refine one_mem ?_
   intro w116 E116 _ a116 hN116 hbs116 hdp116 o_ ho_; obtain rfl := zE ho_
   have := E116.size
   have hl := hl.keep0 E116
   have hO73 := hO73.keep0 E116
   have hO74 := hO74.keep0 E116
   obtain ⟨hB67, hB86, hB114⟩ := kb3 E116 hB67 hB86 hB114
   have hb := zP hb E116 hb.size
   have q116_14 : Sl a116 14 lv2 := (hdp116 0 _ 14 zy rfl rfl).2 rfl
   have q116_24 : Sl a116 24 (.slice (some ⟨b84, 0, none⟩) 1 1) := (zE ((hdp116 10 _ 24 zy rfl rfl).1 rfl)).symm
   have hP122 := hO73
   refine op_append slt22 (zC hN116 rfl q116_14) hP122 (zC hN116 rfl q116_24) (Src.ofRd Try.underlying22 zz (RdC.ofBx (sz := 3) (n := 1) hB86 rfl zz) (by simp [Value.oneCell', u8v])) (by unfold maxLen; omega) zx hb.size ?_
   intro v117 w118 hO120 E119 hm121
   have := E119.size
   have hl := hl.keepO hP122 E119 zx
   have hB67 := hB67.keepO hP122 E119 zz
   have hO74 := hO74.keepT hP122 E119 zz
   have hB114 := hB114.keepO hP122 E119 zz
   have hb := below_stepO hb hP122 E119 hb.size zx
   have hO120 : Own w118 w.heap.size 63 3 v117 ((colsOf nm (l.take i)).length + 1) ((((colsOf nm (l.take i)) ++ [(PItm.mk 0 nm ((l.getD i default).nm))])).flatMap cellsI) := by simpa [u8v, u16v, sv, cellsI] using hO120
   refine kt_end rfl ⟨hl, hB67⟩ ?_
   refine kt_step (rs := [20]) zy ?_
   refine one_mem ?_
   intro w124 E124 _ a124 hN124 hbs124 hdp124 o_ ho_; obtain rfl := zE ho_
   have := E124.size
   have hl := hl.keep0 E124
   have hO74 := hO74.keep0 E124
   have hO120 := hO120.keep0 E124
   obtain ⟨hB67, hB114⟩ := kb2 E124 hB67 hB114
   have hb := zP hb E124 hb.size
   have q124_26 : Sl a124 26 lv3 := (hdp124 12 _ 26 zy rfl rfl).2 rfl
   have q124_33 : Sl a124 33 (.slice (some ⟨b112, 0, none⟩) 1 1) := (zE ((hdp124 19 _ 33 zy rfl rfl).1 rfl)).symm
   have hP130 := hO74
   refine op_append slt23 (zC hN124 rfl q124_26) hP130 (zC hN124 rfl q124_33) (Src.ofRd Try.underlying23 zz (RdC.ofBx (sz := 1) (n := 1) hB114 rfl zz) (by simp [Value.oneCell', u8v])) (by unfold maxLen; omega) zx hb.size ?_
   intro v125 w126 hO128 E127 hm129
   have := E127.size
   have hl := hl.keepO hP130 E127 zx
   have hB67 := hB67.keepO hP130 E127 zz
   have hO120 := hO120.keepT hP130 E127 zz
   have hb := below_stepO hb hP130 E127 hb.size zx
   have hO128 : Own w126 w.heap.size 3 1 v125 ((kindsOf (l.take i)).length + 1) ((((kindsOf (l.take i)) ++ [(l.getD i default).kind])).map (Value.int .i64)) := by simpa [u8v, u16v, sv, cellsI] using hO128
   refine kt_end rfl ⟨hl, hB67⟩ ?_
   intro w131 E131 a131 hN131 hd131 hbs131 hph131
   have hd131 := hd131.trans ((by simp only [putsL_defers] : _ = _).trans hd72)
   have := E131.size
   have hl := hl.keep0 E131
   have hB67 := hB67.keep0 E131
   have hO120 := hO120.keep0 E131
   have hO128 := hO128.keep0 E131
   have hb := zP hb E131 hb.size
   have s131_1 := (hbs131 1 rfl).trans (zL hN72 rfl s72_1)
   have s131_2 := (hbs131 2 rfl).trans (zL hN72 rfl s72_2)
   have s131_3 := (hbs131 3 rfl).trans (zL hN72 rfl s72_3)
   have s131_6 := (hbs131 6 rfl).trans (zL hN72 rfl s72_6)
   have s131_25 : Sl a131 25 v117 := (zE ((hph131 11 _ 25 rfl rfl).1 rfl)).symm
   have s131_34 : Sl a131 34 v125 := (zE ((hph131 20 _ 34 rfl rfl).1 rfl)).symm
   refine split_end ?_
   refine from_seq (tl := [_, _]) zz zy rfl ?_
   refine zD (zC hN131 rfl s131_25) ?_
   refine zD (zC hN131 rfl s131_34) ?_
   refine zB ?_
   refine hK77 _ _ (zH ?_)
   refine zG (zC hN131 rfl s131_6) ?_
   refine op_add (zA hN131 rfl) rfl (add64 zx) ?_
   refine zD (zA hN131 rfl) ?_
   refine zB ?_
   -- round 11T
   exact zg _ hN131 hd131 ⟨(i + 1), v117, v125, rfl, (zL hN131 rfl s131_1), (zL hN131 rfl s131_2), (zL hN131 rfl s131_3), (zU hN131 rfl).trans (congrArg (Value.int .i64) zx), (zU hN131 rfl), (zU hN131 rfl), zx, hb, zx, hl, hB67, (hO120.cast (by rw [cols_snoc zx] <;> simp) (by rw [cols_snoc zx] <;> simp [cellsI])), (hO128.cast (by rw [kinds_snoc zx] <;> simp) (by rw [kinds_snoc zx] <;> simp))⟩ zx
  refine one_mem ?_
  intro w132 E132 _ a132 hN132 hbs132 hdp132 o_ ho_; obtain rfl := zE ho_
  have := E132.size
  have hl := hl.keep0 E132
  have hB67 := hB67.keep0 E132
  have hO73 := hO73.keep0 E132
  have hO74 := hO74.keep0 E132
  have hb := zP hb E132 hb.size
  have q132_32 : Sl a132 32 (.int .i64 (l.getD i default).kind) := (hdp132 18 _ 32 zy rfl rfl).2 rfl
  refine op_bslice (e := 3) (pv := [(0, (.int .i64 (l.getD i default).kind))]) (cs := [(.int .i64 (l.getD i default).kind)]) ⟨rfl, (zC hN132 rfl q132_32), trivial⟩ zy ?_
  intro w133 b134 lo_b134 hi_b134 hB136 E135
  have := E135.size
  have hl := hl.keep0 E135
  have hB67 := hB67.keep0 E135
  have hO73 := hO73.keep0 E135
  have hO74 := hO74.keep0 E135
  have hb := zP hb E135 hb.size
  refine kt_end rfl ⟨hl, hB67⟩ ?_
  refine kt_step (rs := [10]) zy ?_
  refine one_mem ?_
  intro w138 E138 _ a138 hN138 hbs138 hdp138 o_ ho_; obtain rfl := zE ho_
  have := E138.size
  have hl := hl.keep0 E138
  have hO73 := hO73.keep0 E138
  have hO74 := hO74.keep0 E138
  obtain ⟨hB67, hB136⟩ := kb2 E138 hB67 hB136
  have hb := zP hb E138 hb.size
  have q138_23 : Sl a138 23 (.agg #[(.int .i64 0), (.string (bs nm)), (.string (bs (l.getD i default).nm))]) := (hdp138 9 _ 23 zy rfl rfl).2 rfl
  refine op_bslice (e := 63) (pv := [(0, (.agg #[(.int .i64 0), (.string (bs nm)), (.string (bs (l.getD i default).nm))]))]) (cs := [(.int .i64 0), (.string (bs nm)), (.string (bs (l.getD i default).nm))]) ⟨rfl, (zC hN138 rfl q138_23), trivial⟩ zy ?_
  intro w139 b140 lo_b140 hi_b140 hB142 E141
  have := E141.size
  have hl := hl.keep0 E141
  have hO73 := hO73.keep0 E141
  have hO74 := hO74.keep0 E141
  obtain ⟨hB67, hB136⟩ := kb2 E141 hB67 hB136
  have hb := zP hb E141 hb.size
  refine kt_end rfl ⟨hl, hB67⟩ ?_
  refine kt_step (rs := [11]) zy ?_
  refine one_mem ?_
  intro w144 E144 _ a144 hN144 hbs144 hdp144 o_ ho_; obtain rfl := zE ho_
  have := E144.size
  have hl := hl.keep0 E144
  have hO73 := hO73.keep0 E144
  have hO74 := hO74.keep0 E144
  obtain ⟨hB67, hB136, hB142⟩ := kb3 E144 hB67 hB136 hB142
  have hb := zP hb E144 hb.size
  have q144_14 : Sl a144 14 lv2 := (hdp144 0 _ 14 zy rfl rfl).2 rfl
  have q144_24 : Sl a144 24 (.slice (some ⟨b140, 0, none⟩) 1 1) := (zE ((hdp144 10 _ 24 zy rfl rfl).1 rfl)).symm
  have hP150 := hO73
  refine op_append slt22 (zC hN144 rfl q144_14) hP150 (zC hN144 rfl q144_24) (Src.ofRd Try.underlying22 zz (RdC.ofBx (sz := 3) (n := 1) hB142 rfl zz) (by simp [Value.oneCell', u8v])) (by unfold maxLen; omega) zx hb.size ?_
  intro v145 w146 hO148 E147 hm149
  have := E147.size
  have hl := hl.keepO hP150 E147 zx
  have hB67 := hB67.keepO hP150 E147 zz
  have hO74 := hO74.keepT hP150 E147 zz
  have hB136 := hB136.keepO hP150 E147 zz
  have hb := below_stepO hb hP150 E147 hb.size zx
  have hO148 : Own w146 w.heap.size 63 3 v145 ((colsOf nm (l.take i)).length + 1) ((((colsOf nm (l.take i)) ++ [(PItm.mk 0 nm ((l.getD i default).nm))])).flatMap cellsI) := by simpa [u8v, u16v, sv, cellsI] using hO148
  refine kt_end rfl ⟨hl, hB67⟩ ?_
  refine kt_step (rs := [20]) zy ?_
  refine one_mem ?_
  intro w152 E152 _ a152 hN152 hbs152 hdp152 o_ ho_; obtain rfl := zE ho_
  have := E152.size
  have hl := hl.keep0 E152
  have hO74 := hO74.keep0 E152
  have hO148 := hO148.keep0 E152
  obtain ⟨hB67, hB136⟩ := kb2 E152 hB67 hB136
  have hb := zP hb E152 hb.size
  have q152_26 : Sl a152 26 lv3 := (hdp152 12 _ 26 zy rfl rfl).2 rfl
  have q152_33 : Sl a152 33 (.slice (some ⟨b134, 0, none⟩) 1 1) := (zE ((hdp152 19 _ 33 zy rfl rfl).1 rfl)).symm
  have hP158 := hO74
  refine op_append slt23 (zC hN152 rfl q152_26) hP158 (zC hN152 rfl q152_33) (Src.ofRd Try.underlying23 zz (RdC.ofBx (sz := 1) (n := 1) hB136 rfl zz) (by simp [Value.oneCell', u8v])) (by unfold maxLen; omega) zx hb.size ?_
  intro v153 w154 hO156 E155 hm157
  have := E155.size
  have hl := hl.keepO hP158 E155 zx
  have hB67 := hB67.keepO hP158 E155 zz
  have hO148 := hO148.keepT hP158 E155 zz
  have hb := below_stepO hb hP158 E155 hb.size zx
  have hO156 : Own w154 w.heap.size 3 1 v153 ((kindsOf (l.take i)).length + 1) ((((kindsOf (l.take i)) ++ [(l.getD i default).kind])).map (Value.int .i64)) := by simpa [u8v, u16v, sv, cellsI] using hO156
  refine kt_end rfl ⟨hl, hB67⟩ ?_
  intro w159 E159 a159 hN159 hd159 hbs159 hph159
  have hd159 := hd159.trans ((by simp only [putsL_defers] : _ = _).trans hd72)
  have := E159.size
  have hl := hl.keep0 E159
  have hB67 := hB67.keep0 E159
  have hO148 := hO148.keep0 E159
  have hO156 := hO156.keep0 E159
  have hb := zP hb E159 hb.size
  have s159_1 := (hbs159 1 rfl).trans (zL hN72 rfl s72_1)
  have s159_2 := (hbs159 2 rfl).trans (zL hN72 rfl s72_2)
  have s159_3 := (hbs159 3 rfl).trans (zL hN72 rfl s72_3)
  have s159_6 := (hbs159 6 rfl).trans (zL hN72 rfl s72_6)
  have s159_25 : Sl a159 25 v145 := (zE ((hph159 11 _ 25 rfl rfl).1 rfl)).symm
  have s159_34 : Sl a159 34 v153 := (zE ((hph159 20 _ 34 rfl rfl).1 rfl)).symm
  refine split_end ?_
  refine from_seq (tl := [_, _]) zz zy rfl ?_
  refine zD (zC hN159 rfl s159_25) ?_
  refine zD (zC hN159 rfl s159_34) ?_
  refine zB ?_
  refine hK77 _ _ (zH ?_)
  refine zG (zC hN159 rfl s159_6) ?_
  refine op_add (zA hN159 rfl) rfl (add64 zx) ?_
  refine zD (zA hN159 rfl) ?_
  refine zB ?_
  -- round 11T
  exact zg _ hN159 hd159 ⟨(i + 1), v145, v153, rfl, (zL hN159 rfl s159_1), (zL hN159 rfl s159_2), (zL hN159 rfl s159_3), (zU hN159 rfl).trans (congrArg (Value.int .i64) zx), (zU hN159 rfl), (zU hN159 rfl), zx, hb, zx, hl, hB67, (hO148.cast (by rw [cols_snoc zx] <;> simp) (by rw [cols_snoc zx] <;> simp [cellsI])), (hO156.cast (by rw [kinds_snoc zx] <;> simp) (by rw [kinds_snoc zx] <;> simp))⟩ zx
 refine zB ?_
 refine hK76 _ _ (wp_cond_false (zA hN72 rfl) (wp_exit (then_exit (then_exit (blk_hit ?_)))))
 refine hK70 _ _ (zF fun K160 hK160 => ?_)
 refine zH ?_
 refine zG (zC hN72 rfl s72_4) ?_
 refine zG (zC hN72 rfl s72_5) ?_
 refine zD (zA hN72 rfl) ?_
 refine zD (zA hN72 rfl) ?_
 refine zB ?_
 refine hK160 _ _ (wp_ret ?_)
 refine ret2 rfl hd72 (zA hN72 rfl) (zA hN72 rfl) ⟨_, rfl, ?_⟩
 have e9 : l.take i = l := List.take_of_length_le zx
 rw [e9] at hO73 hO74
 exact ⟨hb, _, _, rfl, hO73, hO74⟩

theorem Cols9_ret {nm : List UInt8} {l : List PCol} {cv iv : Value} {w : World} (hz : l.length ≤ 1000000) (hl : RdC w 0 w.heap.size 3 cv l.length (l.flatMap cellsC)) : Ret Try.prog 80 #[.agg #[.string (bs nm), cv, iv]] w (fun v' w' => Below w.heap.size w w' ∧ ∃ av bv : Value, v' = .tuple #[av, bv] ∧ RdC w' w.heap.size w'.heap.size 3 av (colsOf nm l).length ((colsOf nm l).flatMap cellsI) ∧ RdC w' w.heap.size w'.heap.size 1 bv (kindsOf l).length ((kindsOf l).map (Value.int .i64))) :=
  (Cols9_own hz hl).mono fun v' w' ⟨hb, av, bv, h1, h2, h3⟩ => ⟨hb, av, bv, h1, h2.rdw, h3.rdw⟩
def wrE (t : PTab) (f : StF) : Int := if f.kind = 5 then insE t f else if f.kind = 7 then updE t f else whereX (colsOf f.tb t.cols) (kindsOf t.cols) f.wh

theorem writes_ret {t : PTab} {cv iv : Value} {f : StF} {nv : Value} {B : Nat} {w : World} (hB : B ≤ w.heap.size) (htc : RdC w 0 B 3 cv t.cols.length (t.cols.flatMap cellsC)) (hfv : XsRd w B f.vv f.vals) (hfw : XsRd w B f.wv f.wh) (hcz : t.cols.length ≤ 1000000) (hv1 : f.kind = 7 → f.vals.length = 1) : Ret Try.prog 52 #[(.agg #[(.int .i64 f.kind), (.string (bs f.tb)), (.string (bs f.nm)), f.cv, f.gv, f.vv, f.iv, (.string (bs f.join)), f.ov, f.wv, f.rv, (.bool f.desc), nv]), (.agg #[(.string (bs f.tb)), cv, iv])] w (fun v' w' => Below w.heap.size w w' ∧ v' = .int .i64 (wrE t f)) := by
 have hfvR := hfv.1
 have hfwR := hfw.1
 have hcl9 := @cols_len f.tb t.cols
 have hkl9 := @kinds_len t.cols
 have hb := Below.refl w.heap.size w
 refine enter (N := 101) Try.func52 rfl rfl (by simp) fun a0 hN hd hA => ?_
 have s0 : a0.tmps.getD 0 undef = (.agg #[(.int .i64 f.kind), (.string (bs f.tb)), (.string (bs f.nm)), f.cv, f.gv, f.vv, f.iv, (.string (bs f.join)), f.ov, f.wv, f.rv, (.bool f.desc), nv]) := hA 0 (by simp)
 have s1 : a0.tmps.getD 1 undef = (.agg #[(.string (bs f.tb)), cv, iv]) := hA 1 (by simp)
 clear hA
 refine zF fun K1 hK1 => ?_
 refine zH ?_
 refine op_box (cs := [(.int .i64 f.kind), (.string (bs f.tb)), (.string (bs f.nm)), f.cv, f.gv, f.vv, f.iv, (.string (bs f.join)), f.ov, f.wv, f.rv, (.bool f.desc), nv]) (zC hN rfl s0) rfl ?_
 intro w2 b3 lo_b3 hi_b3 hB5 E4
 have := E4.size
 have htc := htc.keep0 E4
 have hfv := hfv.keep0 E4
 have hfvR := hfvR.keep0 E4
 have hfw := hfw.keep0 E4
 have hfwR := hfwR.keep0 E4
 have hb := zP hb E4 hb.size
 refine op_box (cs := [(.string (bs f.tb)), cv, iv]) (zC hN rfl s1) rfl ?_
 intro w6 b7 lo_b7 hi_b7 hB9 E8
 have := E8.size
 have htc := htc.keep0 E8
 have hfv := hfv.keep0 E8
 have hfvR := hfvR.keep0 E8
 have hfw := hfw.keep0 E8
 have hfwR := hfwR.keep0 E8
 have hB5 := hB5.keep0 E8
 have hb := zP hb E8 hb.size
 refine zD rfl ?_
 refine zB ?_
 refine hK1 _ _ (zF fun K10 hK10 => ?_)
 refine zH ?_
 refine zY agg55 rfl (zA hN rfl) hB9 ?_
 refine zj ok80 (Cols9_own (nm := f.tb) zx (htc.mono (Nat.zero_le _) zx)) ⟨(zA hN rfl), trivial⟩ ?_
 rintro _ w12 ⟨E13, av11, bv11, rfl, hc11, hk11⟩
 have E13 := zQ E13
 have := E13.size
 have htc := htc.keep0 E13
 have hfv := hfv.keep0 E13
 have hfvR := hfvR.keep0 E13
 have hfw := hfw.keep0 E13
 have hfwR := hfwR.keep0 E13
 obtain ⟨hB5, hB9⟩ := kb2 E13 hB5 hB9
 have hb := zP hb E13 hb.size
 have hc11 := hc11.mono (base' := w.heap.size) zx
 have hk11 := hk11.mono (base' := w.heap.size) zx
 refine zG (zA hN rfl) ?_
 refine zW (zA hN rfl) rfl ?_
 refine zW (zA hN rfl) rfl ?_
 refine zD (zA hN rfl) ?_
 refine zD (zA hN rfl) ?_
 refine zB ?_
 refine hK10 _ _ (zF fun K14 hK14 => ?_)
 refine zF fun K15 hK15 => ?_
 refine zH ?_
 refine zM fld45_0 (zA hN rfl) ?_
 refine zN (v := (Value.int .i64 f.kind)) one3 (zA hN rfl) (hB5.cell rfl) ?_
 refine op_eql (zA hN rfl) rfl (fun c20 => ?_) (fun c20 => ?_)
 ·
  refine zB ?_
  refine hK15 _ _ (wp_cond_true (zA hN rfl) (zF fun K16 hK16 => ?_))
  refine zF fun K17 hK17 => ?_
  refine zH ?_
  refine zM fld45_5 (zA hN rfl) ?_
  refine zN (v := f.vv) one26 (zA hN rfl) (hB5.cell rfl) ?_
  refine op_len_rd Try.underlying26 (zA hN rfl) hfvR ?_
  refine zM fld55_1 (zA hN rfl) ?_
  refine zN (v := cv) one41 (zA hN rfl) (hB9.cell rfl) ?_
  refine op_len_rd Try.underlying41 (zA hN rfl) htc ?_
  refine op_neq (zA hN rfl) (zA hN rfl) (fun c27 => ?_) (fun c27 => ?_)
  ·
   refine zB ?_
   refine hK17 _ _ (wp_cond_true (zA hN rfl) (zF fun K18 hK18 => ?_))
   refine zH ?_
   refine zD rfl ?_
   refine zB ?_
   refine hK18 _ _ (wp_ret (zO (zO ( ?_))))
   refine ret1 rfl hd (zA hN rfl) ⟨_, rfl, ?_⟩
   have e8 : wrE t f = insE t f := if_pos c20
   have e9 : insE t f = 7 := by unfold insE; rw [if_pos zx]
   rw [e8, e9]; exact ⟨hb, rfl⟩
  refine zB ?_
  refine hK17 _ _ (wp_cond_false (zA hN rfl) (wp_skip (hK16 _ _ (zF fun K19 hK19 => ?_))))
  refine zF fun K20 hK20 => ?_
  refine zH ?_
  refine zD rfl ?_
  refine zB ?_
  refine hK20 _ _ (wp_block ?_)
  refine loop_m (fun mz_ az_ w' => ∃ (i : Nat), mz_ = f.vals.length - i ∧ (az_.tmps.getD 2 undef = (ptr b3 0)) ∧ (az_.tmps.getD 3 undef = (ptr b7 0)) ∧ (az_.tmps.getD 5 undef = av11) ∧ (az_.tmps.getD 6 undef = bv11) ∧ (az_.tmps.getD 7 undef = (.int .i64 ((i : Nat) : Int))) ∧ (i ≤ f.vals.length) ∧ (∀ j, j < i → (insL f.vals t.cols).getD j 0 = 0) ∧ (Below w.heap.size w w') ∧ (w12.heap.size ≤ w'.heap.size) ∧ (RdC w' 0 B 3 cv t.cols.length (t.cols.flatMap cellsC)) ∧ (XsRd w' B f.vv f.vals) ∧ (RdC w' 0 B 7 f.vv f.vals.length (f.vals.flatMap cellsX)) ∧ (XsRd w' B f.wv f.wh) ∧ (RdC w' 0 B 7 f.wv f.wh.length (f.wh.flatMap cellsX)) ∧ (Bx w' b3 45 [(.int .i64 f.kind), (.string (bs f.tb)), (.string (bs f.nm)), f.cv, f.gv, f.vv, f.iv, (.string (bs f.join)), f.ov, f.wv, f.rv, (.bool f.desc), nv]) ∧ (Bx w' b7 55 [(.string (bs f.tb)), cv, iv])) _ hN hd ⟨0, rfl, (zU hN rfl), (zU hN rfl), (zU hN rfl), (zU hN rfl), (zU hN rfl), (Nat.zero_le _), (fun _ h => absurd h (Nat.not_lt_zero _)), hb, (Nat.le_refl _), htc, hfv, hfvR, hfw, hfwR, hB5, hB9⟩ ?_
  rintro _ a21 w21 hN21 hd21 ⟨i, rfl, s21_2, s21_3, s21_5, s21_6, s21_7, hi, hall, hb, zl_w21, htc, hfv, hfvR, hfw, hfwR, hB5, hB9⟩
  have := hb.size
  refine zF fun K22 hK22 => ?_
  refine zF fun K23 hK23 => ?_
  refine zH ?_
  have hvl := rd_len hfvR
  refine zG (zC hN21 rfl s21_7) ?_
  refine zM fld45_5 (zC hN21 rfl s21_2) ?_
  refine zN (v := f.vv) one26 (zA hN21 rfl) (hB5.cell rfl) ?_
  refine op_len_rd Try.underlying26 (zA hN21 rfl) hfvR ?_
  refine op_lss (zA hN21 rfl) (zA hN21 rfl) (fun c32 => ?_) (fun c32 => ?_)
  ·
   refine zB ?_
   refine hK23 _ _ (wp_cond_true (zA hN21 rfl) (wp_skip (hK22 _ _ (zF fun K24 hK24 => ?_))))
   refine wp_block ?_
   refine zF fun K25 hK25 => ?_
   refine zH ?_
   refine zM fld45_5 (zC hN21 rfl s21_2) ?_
   refine zN (v := f.vv) one26 (zA hN21 rfl) (hB5.cell rfl) ?_
   refine zG (zC hN21 rfl s21_7) ?_
   refine zh slt26 (zA hN21 rfl) hfvR (zA hN21 rfl) zx zx ?_
   intro b26 o27 h0b26 h1b26 hc28
   refine zX (cs := [(.int .i64 (f.vals.getD i default).op), (.int .i64 (f.vals.getD i default).vk), (.int .i64 (f.vals.getD i default).vi), (.string (bs (f.vals.getD i default).vt)), (.string (bs (f.vals.getD i default).tb)), (.string (bs (f.vals.getD i default).nm)), (f.vals.getD i default).av]) agg28 rfl (zA hN21 rfl) (fun j u hu => hc28 j u (by have := (List.getElem?_eq_some_iff.1 hu).1; simpa using this) ((el_xe (i := i) zx zx) j u hu)) ?_
   refine zj ok15 (KindQ_nil (f.vals.getD i default) ((hfv.2 (f.vals.getD i default) (getD_mem zx)).mono zx)) ⟨rfl, ⟨rfl, ⟨(zA hN21 rfl), trivial⟩⟩⟩ ?_
   rintro _ w29 ⟨E30, rfl⟩
   have E30 := zQ E30
   have := E30.size
   have htc := htc.keep0 E30
   have hfv := hfv.keep0 E30
   have hfvR := hfvR.keep0 E30
   have hfw := hfw.keep0 E30
   have hfwR := hfwR.keep0 E30
   obtain ⟨hB5, hB9⟩ := kb2 E30 hB5 hB9
   have hb := zP hb E30 hb.size
   refine zG (zA hN21 rfl) ?_
   refine zW (zA hN21 rfl) rfl ?_
   refine zW (zA hN21 rfl) rfl ?_
   refine zD (zA hN21 rfl) ?_
   refine zD (zA hN21 rfl) ?_
   refine zB ?_
   refine hK25 _ _ (zF fun K31 hK31 => ?_)
   refine zF fun K32 hK32 => ?_
   refine zH ?_
   refine zG (zA hN21 rfl) ?_
   refine op_neq (zA hN21 rfl) rfl (fun c45 => ?_) (fun c45 => ?_)
   ·
    refine zB ?_
    refine hK32 _ _ (wp_cond_true (zA hN21 rfl) (zF fun K33 hK33 => ?_))
    refine zH ?_
    refine zG (zA hN21 rfl) ?_
    refine zD (zA hN21 rfl) ?_
    refine zB ?_
    refine hK33 _ _ (wp_ret (zO (zb (zO (zO (zb (zO (zO ( ?_)))))))))
    refine ret1 rfl hd21 (zA hN21 rfl) ⟨_, rfl, ?_⟩
    have e8 : wrE t f = insE t f := if_pos c20
    have e7 : insE t f = firstE (insL f.vals t.cols) := by unfold insE; rw [if_neg zx]; rfl
    have h8 : mustX [] [] (f.vals.getD i default) (t.cols.getD i default).kind = (kindX [] [] (f.vals.getD i default)).2 := if_pos c45
    have e9 : insE t f = (kindX [] [] (f.vals.getD i default)).2 := by rw [e7, insL_hit zx hall (by rw [h8]; first | exact c45 | decide), h8]
    rw [e8, e9]; exact ⟨hb, rfl⟩
   refine zB ?_
   refine hK32 _ _ (wp_cond_false (zA hN21 rfl) (wp_skip (hK31 _ _ (zF fun K34 hK34 => ?_))))
   refine zH ?_
   refine zG (zA hN21 rfl) ?_
   refine zM fld55_1 (zC hN21 rfl s21_3) ?_
   refine zN (v := cv) one41 (zA hN21 rfl) (hB9.cell rfl) ?_
   refine zG (zC hN21 rfl s21_7) ?_
   refine zh slt41 (zA hN21 rfl) htc (zA hN21 rfl) zx zx ?_
   intro b35 o36 h0b35 h1b35 hc37
   refine zM fld68_1 (zA hN21 rfl) ?_
   refine zN (v := (Value.int .i64 (t.cols.getD i default).kind)) one3 (zA hN21 rfl) (hc37 1 ((.int .i64 (t.cols.getD i default).kind)) zz ((el_pc (i := i) zx zx) 1 ((.int .i64 (t.cols.getD i default).kind)) rfl)) ?_
   refine op_neq (zA hN21 rfl) (zA hN21 rfl) (fun c54 => ?_) (fun c54 => ?_)
   ·
    refine zB ?_
    refine hK34 _ _ (wp_cond_true (zA hN21 rfl) (zF fun K38 hK38 => ?_))
    refine zH ?_
    refine zD rfl ?_
    refine zB ?_
    refine hK38 _ _ (wp_ret (zb (zO (zO (zb (zO (zO ( ?_))))))))
    refine ret1 rfl hd21 (zA hN21 rfl) ⟨_, rfl, ?_⟩
    have e8 : wrE t f = insE t f := if_pos c20
    have e7 : insE t f = firstE (insL f.vals t.cols) := by unfold insE; rw [if_neg zx]; rfl
    have h8 : mustX [] [] (f.vals.getD i default) (t.cols.getD i default).kind = 11 := must_t c45 c54
    have e9 : insE t f = 11 := by rw [e7, insL_hit zx hall (by rw [h8]; first | exact c45 | decide), h8]
    rw [e8, e9]; exact ⟨hb, rfl⟩
   refine zB ?_
   refine hK34 _ _ (wp_cond_false (zA hN21 rfl) (wp_skip (hK24 _ _ (zH ?_))))
   refine zG (zC hN21 rfl s21_7) ?_
   refine op_add (zA hN21 rfl) rfl (add64 zx) ?_
   refine zD (zA hN21 rfl) ?_
   refine zB ?_
   -- round 20T 27F 32T 45F 54F
   exact zg _ hN21 hd21 ⟨(i + 1), rfl, (zL hN21 rfl s21_2), (zL hN21 rfl s21_3), (zL hN21 rfl s21_5), (zL hN21 rfl s21_6), (zU hN21 rfl).trans (congrArg (Value.int .i64) zx), zx, (all_next hall ((insL_at zx).trans (must_0 c45 c54))), hb, zx, htc, hfv, hfvR, hfw, hfwR, hB5, hB9⟩ zx
  refine zB ?_
  refine hK23 _ _ (wp_cond_false (zA hN21 rfl) (wp_exit (then_exit (then_exit (blk_hit ?_)))))
  refine hK19 _ _ (zF fun K39 hK39 => ?_)
  refine zH ?_
  refine zD rfl ?_
  refine zB ?_
  refine hK39 _ _ (wp_ret (zO ( ?_)))
  refine ret1 rfl hd21 (zA hN21 rfl) ⟨_, rfl, ?_⟩
  have e8 : wrE t f = insE t f := if_pos c20
  have e7 : insE t f = firstE (insL f.vals t.cols) := by unfold insE; rw [if_neg zx]; rfl
  have e9 : insE t f = 0 := e7.trans (insL_none zx hall)
  rw [e8, e9]; exact ⟨hb, rfl⟩
 refine zB ?_
 refine hK15 _ _ (wp_cond_false (zA hN rfl) (wp_skip (hK14 _ _ (zF fun K40 hK40 => ?_))))
 refine zF fun K41 hK41 => ?_
 refine zH ?_
 refine zM fld45_0 (zA hN rfl) ?_
 refine zN (v := (Value.int .i64 f.kind)) one3 (zA hN rfl) (hB5.cell rfl) ?_
 refine op_eql (zA hN rfl) rfl (fun c57 => ?_) (fun c57 => ?_)
 ·
  refine zB ?_
  refine hK41 _ _ (wp_cond_true (zA hN rfl) (zF fun K42 hK42 => ?_))
  refine zH ?_
  refine zY agg55 rfl (zA hN rfl) hB9 ?_
  refine zM fld45_2 (zA hN rfl) ?_
  refine zN (v := (Value.string (bs f.nm))) one9 (zA hN rfl) (hB5.cell rfl) ?_
  refine zj ok82 (Column9_ret f.tb t.cols _ iv f.nm _ (htc.mono (Nat.zero_le _) zx)) ⟨(zA hN rfl), ⟨(zA hN rfl), trivial⟩⟩ ?_
  rintro _ w43 ⟨E44, rfl⟩
  have E44 := zQ E44
  have := E44.size
  have htc := htc.keep0 E44
  have hfv := hfv.keep0 E44
  have hfvR := hfvR.keep0 E44
  have hfw := hfw.keep0 E44
  have hc11 := hc11.keep0 E44
  have hk11 := hk11.keep0 E44
  obtain ⟨hB5, hB9⟩ := kb2 E44 hB5 hB9
  have hb := zP hb E44 hb.size
  refine zD (zA hN rfl) ?_
  refine zB ?_
  refine hK42 _ _ (zF fun K45 hK45 => ?_)
  refine zF fun K46 hK46 => ?_
  refine zH ?_
  refine zG (zA hN rfl) ?_
  refine op_lss (zA hN rfl) rfl (fun c63 => ?_) (fun c63 => ?_)
  ·
   refine zB ?_
   refine hK46 _ _ (wp_cond_true (zA hN rfl) (zF fun K47 hK47 => ?_))
   refine zH ?_
   refine zD rfl ?_
   refine zB ?_
   refine hK47 _ _ (wp_ret (zO (zO ( ?_))))
   refine ret1 rfl hd (zA hN rfl) ⟨_, rfl, ?_⟩
   have e8 : wrE t f = updE t f := by unfold wrE; rw [if_neg c20, if_pos c57]
   have e9 : updE t f = 10 := updE_1 c63
   rw [e8, e9]; exact ⟨hb, rfl⟩
  refine zB ?_
  refine hK46 _ _ (wp_cond_false (zA hN rfl) (wp_skip (hK45 _ _ (zF fun K48 hK48 => ?_))))
  refine zF fun K49 hK49 => ?_
  refine zH ?_
  have hci := colIx_lt c63
  refine zG (zA hN rfl) ?_
  refine op_eql (zA hN rfl) rfl (fun c65 => ?_) (fun c65 => ?_)
  ·
   refine zG (zA hN rfl) ?_
   refine zR (j := 2) (dj := 66) (b := false) rfl rfl rfl (zA hN rfl) rfl rfl ?_
   refine zR (j := 2) (dj := 66) (b := false) rfl rfl rfl (zA hN rfl) rfl rfl ?_
   refine zR (j := 2) (dj := 66) (b := false) rfl rfl rfl (zA hN rfl) rfl rfl ?_
   refine zR (j := 2) (dj := 66) (b := false) rfl rfl rfl (zA hN rfl) rfl rfl ?_
   refine zR (j := 2) (dj := 66) (b := false) rfl rfl rfl (zA hN rfl) rfl rfl ?_
   refine zR (j := 2) (dj := 66) (b := false) rfl rfl rfl (zA hN rfl) rfl rfl ?_
   refine zR (j := 2) (dj := 66) (b := false) rfl rfl rfl (zA hN rfl) rfl rfl ?_
   refine zc (zA hN rfl) rfl ?_
   refine zB ?_
   refine hK49 _ _ (wp_cond_true (zA hN rfl) (zF fun K50 hK50 => ?_))
   refine zH ?_
   refine zD rfl ?_
   refine zB ?_
   refine hK50 _ _ (wp_ret (zO (zO ( ?_))))
   refine ret1 rfl hd (zA hN rfl) ⟨_, rfl, ?_⟩
   have e8 : wrE t f = updE t f := by unfold wrE; rw [if_neg c20, if_pos c57]
   have e9 : updE t f = 24 := updE_2 c63 (.inl c65)
   rw [e8, e9]; exact ⟨hb, rfl⟩
  refine zG (zA hN rfl) ?_
  refine zS (j := 2) (dj := 66) (b := false) rfl rfl rfl (zA hN rfl) ?_
  refine zM fld55_1 (zA hN rfl) ?_
  refine zS (j := 2) (dj := 66) (b := false) rfl rfl rfl (zA hN rfl) ?_
  refine zN (v := cv) one41 (zA hN rfl) (hB9.cell rfl) ?_
  refine zS (j := 2) (dj := 66) (b := false) rfl rfl rfl (zA hN rfl) ?_
  refine zG (zA hN rfl) ?_
  refine zS (j := 2) (dj := 66) (b := false) rfl rfl rfl (zA hN rfl) ?_
  refine zh slt41 (zA hN rfl) htc (zA hN rfl) zx zx ?_
  intro b51 o52 h0b51 h1b51 hc53
  refine zS (j := 2) (dj := 66) (b := false) rfl rfl rfl (zA hN rfl) ?_
  refine zM fld68_2 (zA hN rfl) ?_
  refine zS (j := 2) (dj := 66) (b := false) rfl rfl rfl (zA hN rfl) ?_
  refine zN (v := (Value.string (bs (t.cols.getD (colIx t.cols f.nm).toNat default).ref))) one9 (zA hN rfl) (hc53 2 ((.string (bs (t.cols.getD (colIx t.cols f.nm).toNat default).ref))) zz ((el_pc (i := (colIx t.cols f.nm).toNat) zx zx) 2 ((.string (bs (t.cols.getD (colIx t.cols f.nm).toNat default).ref))) rfl)) ?_
  refine zS (j := 2) (dj := 66) (b := false) rfl rfl rfl (zA hN rfl) ?_
  refine op_sneq (zA hN rfl) rfl (fun c73 => ?_) (fun c73 => ?_)
  ·
   refine zd (zA hN rfl) (zA hN rfl) ?_
   refine zB ?_
   refine hK49 _ _ (wp_cond_true (zA hN rfl) (zF fun K54 hK54 => ?_))
   refine zH ?_
   refine zD rfl ?_
   refine zB ?_
   refine hK54 _ _ (wp_ret (zO (zO ( ?_))))
   refine ret1 rfl hd (zA hN rfl) ⟨_, rfl, ?_⟩
   have e8 : wrE t f = updE t f := by unfold wrE; rw [if_neg c20, if_pos c57]
   have e9 : updE t f = 24 := updE_2 c63 (.inr c73)
   rw [e8, e9]; exact ⟨hb, rfl⟩
  refine zd (zA hN rfl) (zA hN rfl) ?_
  refine zB ?_
  refine hK49 _ _ (wp_cond_false (zA hN rfl) (wp_skip (hK48 _ _ (zF fun K55 hK55 => ?_))))
  refine zH ?_
  have hv1 := hv1 c57
  refine zG (zA hN rfl) ?_
  refine zG (zA hN rfl) ?_
  refine zM fld45_5 (zA hN rfl) ?_
  refine zN (v := f.vv) one26 (zA hN rfl) (hB5.cell rfl) ?_
  refine zh slt26 (zA hN rfl) hfvR rfl zx zx ?_
  intro b56 o57 h0b56 h1b56 hc58
  refine zX (cs := [(.int .i64 (f.vals.getD 0 default).op), (.int .i64 (f.vals.getD 0 default).vk), (.int .i64 (f.vals.getD 0 default).vi), (.string (bs (f.vals.getD 0 default).vt)), (.string (bs (f.vals.getD 0 default).tb)), (.string (bs (f.vals.getD 0 default).nm)), (f.vals.getD 0 default).av]) agg28 rfl (zA hN rfl) (fun j u hu => hc58 j u (by have := (List.getElem?_eq_some_iff.1 hu).1; simpa using this) ((el_xe (i := 0) zx zx) j u hu)) ?_
  refine zj ok15 (KindQ_ret (C := (colsOf f.tb t.cols)) (K := (kindsOf t.cols)) (f.vals.getD 0 default) (by first | assumption | omega | (simp only [List.length_append, List.length_cons, List.length_nil, List.length_drop, List.length_take]; omega) | (dsimp only; omega) | decide | (simp [keyV, be8_len]; done)) (by first | assumption | omega | (simp only [List.length_append, List.length_cons, List.length_nil, List.length_drop, List.length_take]; omega) | (dsimp only; omega) | decide | (simp [keyV, be8_len]; done)) (hc11.rdw.mono (Nat.zero_le _) zx) (hk11.rdw.mono (Nat.zero_le _) zx) ((hfv.2 (f.vals.getD 0 default) (getD_mem zx)).mono zx)) ⟨(zA hN rfl), ⟨(zA hN rfl), ⟨(zA hN rfl), trivial⟩⟩⟩ ?_
  rintro _ w59 ⟨E60, rfl⟩
  have E60 := zQ E60
  have := E60.size
  have htc := htc.keep0 E60
  have hfw := hfw.keep0 E60
  have hc11 := hc11.keep0 E60
  have hk11 := hk11.keep0 E60
  obtain ⟨hB5, hB9⟩ := kb2 E60 hB5 hB9
  have hb := zP hb E60 hb.size
  refine zG (zA hN rfl) ?_
  refine zW (zA hN rfl) rfl ?_
  refine zW (zA hN rfl) rfl ?_
  refine zD (zA hN rfl) ?_
  refine zD (zA hN rfl) ?_
  refine zB ?_
  refine hK55 _ _ (zF fun K61 hK61 => ?_)
  refine zF fun K62 hK62 => ?_
  refine zH ?_
  refine zG (zA hN rfl) ?_
  refine op_neq (zA hN rfl) rfl (fun c86 => ?_) (fun c86 => ?_)
  ·
   refine zB ?_
   refine hK62 _ _ (wp_cond_true (zA hN rfl) (zF fun K63 hK63 => ?_))
   refine zH ?_
   refine zG (zA hN rfl) ?_
   refine zD (zA hN rfl) ?_
   refine zB ?_
   refine hK63 _ _ (wp_ret (zO (zO ( ?_))))
   refine ret1 rfl hd (zA hN rfl) ⟨_, rfl, ?_⟩
   have e8 : wrE t f = updE t f := by unfold wrE; rw [if_neg c20, if_pos c57]
   have h8 : mustX (colsOf f.tb t.cols) (kindsOf t.cols) (f.vals.getD 0 default) (t.cols.getD (colIx t.cols f.nm).toNat default).kind = (kindX (colsOf f.tb t.cols) (kindsOf t.cols) (f.vals.getD 0 default)).2 := if_pos c86
   have e9 : updE t f = (kindX (colsOf f.tb t.cols) (kindsOf t.cols) (f.vals.getD 0 default)).2 := (updE_3 c63 (fun g => g.elim c65 fun g => g c73) (by rw [h8]; exact c86)).trans h8
   rw [e8, e9]; exact ⟨hb, rfl⟩
  refine zB ?_
  refine hK62 _ _ (wp_cond_false (zA hN rfl) (wp_skip (hK61 _ _ (zF fun K64 hK64 => ?_))))
  refine zH ?_
  refine zG (zA hN rfl) ?_
  refine zM fld55_1 (zA hN rfl) ?_
  refine zN (v := cv) one41 (zA hN rfl) (hB9.cell rfl) ?_
  refine zG (zA hN rfl) ?_
  refine zh slt41 (zA hN rfl) htc (zA hN rfl) zx zx ?_
  intro b65 o66 h0b65 h1b65 hc67
  refine zM fld68_1 (zA hN rfl) ?_
  refine zN (v := (Value.int .i64 (t.cols.getD (colIx t.cols f.nm).toNat default).kind)) one3 (zA hN rfl) (hc67 1 ((.int .i64 (t.cols.getD (colIx t.cols f.nm).toNat default).kind)) zz ((el_pc (i := (colIx t.cols f.nm).toNat) zx zx) 1 ((.int .i64 (t.cols.getD (colIx t.cols f.nm).toNat default).kind)) rfl)) ?_
  refine op_neq (zA hN rfl) (zA hN rfl) (fun c95 => ?_) (fun c95 => ?_)
  ·
   refine zB ?_
   refine hK64 _ _ (wp_cond_true (zA hN rfl) (zF fun K68 hK68 => ?_))
   refine zH ?_
   refine zD rfl ?_
   refine zB ?_
   refine hK68 _ _ (wp_ret (zO ( ?_)))
   refine ret1 rfl hd (zA hN rfl) ⟨_, rfl, ?_⟩
   have e8 : wrE t f = updE t f := by unfold wrE; rw [if_neg c20, if_pos c57]
   have h8 : mustX (colsOf f.tb t.cols) (kindsOf t.cols) (f.vals.getD 0 default) (t.cols.getD (colIx t.cols f.nm).toNat default).kind = 11 := must_t c86 c95
   have e9 : updE t f = 11 := (updE_3 c63 (fun g => g.elim c65 fun g => g c73) (by rw [h8]; decide)).trans h8
   rw [e8, e9]; exact ⟨hb, rfl⟩
  refine zB ?_
  refine hK64 _ _ (wp_cond_false (zA hN rfl) (wp_skip (hK40 _ _ (zF fun K69 hK69 => ?_))))
  refine zH ?_
  refine zG (zA hN rfl) ?_
  refine zG (zA hN rfl) ?_
  refine zM fld45_9 (zA hN rfl) ?_
  refine zN (v := f.wv) one26 (zA hN rfl) (hB5.cell rfl) ?_
  refine zj ok81 (where9_ret zx zx (hc11.rdw.mono (Nat.zero_le _) zx) (hk11.rdw.mono (Nat.zero_le _) zx) (hfw.mono zx)) ⟨(zA hN rfl), ⟨(zA hN rfl), ⟨(zA hN rfl), trivial⟩⟩⟩ ?_
  rintro _ w70 ⟨E71, rfl⟩
  have E71 := zQ E71
  have := E71.size
  have hc11 := hc11.keep0 E71
  have hb := zP hb E71 hb.size
  refine zD (zA hN rfl) ?_
  refine zB ?_
  refine hK69 _ _ (wp_ret ?_)
  refine ret1 rfl hd (zA hN rfl) ⟨_, rfl, ?_⟩
  have e8 : wrE t f = updE t f := by unfold wrE; rw [if_neg c20, if_pos c57]
  have h8 : mustX (colsOf f.tb t.cols) (kindsOf t.cols) (f.vals.getD 0 default) (t.cols.getD (colIx t.cols f.nm).toNat default).kind = 0 := must_0 c86 c95
  have e9 : updE t f = (whereX (colsOf f.tb t.cols) (kindsOf t.cols) f.wh) := updE_4 c63 (fun g => g.elim c65 fun g => g c73) h8
  rw [e8, e9]; exact ⟨hb, rfl⟩
 refine zB ?_
 refine hK41 _ _ (wp_cond_false (zA hN rfl) (wp_skip (hK40 _ _ (zF fun K72 hK72 => ?_))))
 refine zH ?_
 refine zG (zA hN rfl) ?_
 refine zG (zA hN rfl) ?_
 refine zM fld45_9 (zA hN rfl) ?_
 refine zN (v := f.wv) one26 (zA hN rfl) (hB5.cell rfl) ?_
 refine zj ok81 (where9_ret zx zx (hc11.rdw.mono (Nat.zero_le _) zx) (hk11.rdw.mono (Nat.zero_le _) zx) (hfw.mono zx)) ⟨(zA hN rfl), ⟨(zA hN rfl), ⟨(zA hN rfl), trivial⟩⟩⟩ ?_
 rintro _ w73 ⟨E74, rfl⟩
 have E74 := zQ E74
 have := E74.size
 have hc11 := hc11.keep0 E74
 have hb := zP hb E74 hb.size
 refine zD (zA hN rfl) ?_
 refine zB ?_
 refine hK72 _ _ (wp_ret ?_)
 refine ret1 rfl hd (zA hN rfl) ⟨_, rfl, ?_⟩
 have e8 : wrE t f = whereX (colsOf f.tb t.cols) (kindsOf t.cols) f.wh := by unfold wrE; rw [if_neg c20, if_neg c57]
 rw [e8]; exact ⟨hb, rfl⟩
def selR (T : List PTab) (t : PTab) (f : StF) : Int := if joinE T f (colsOf f.tb t.cols) (kindsOf t.cols) ≠ 0 then joinE T f (colsOf f.tb t.cols) (kindsOf t.cols) else selE f (joinC T f (colsOf f.tb t.cols)) (joinK T f (kindsOf t.cols))
theorem col_err {C : List PItm} {K : List Int} {tb nm : List UInt8} : (colAt C K tb nm).2 = (atX C K.length tb nm).2 := by
  rw [colAt_at]; have := atX_err (C := C) (n := K.length) (tb := tb) (nm := nm); split
  · show (10 : Int) = _; omega
  · show (0 : Int) = _; omega
theorem col_val {C : List PItm} {K : List Int} {tb nm : List UInt8} (h : (atX C K.length tb nm).2 = 0) : (colAt C K tb nm).1 = K.getD (atX C K.length tb nm).1.toNat 0 := by rw [colAt_at, if_neg (fun g => g h)]
theorem ord1 {α : Type} [Inhabited α] {l : List α} (g : α → Int) (h : l.length ≤ 1) (h2 : ¬ l.length = 0) : firstE (l.map g) = g (l.getD 0 default) := by
  cases l with
  | nil => exact absurd rfl h2
  | cons a l =>
    cases l with
    | cons b l => simp at h
    | nil =>
      show firstE [g a] = g a
      by_cases hx : g a = 0
      · rw [hx]; rfl
      · have := firstE_at (a := [g a]) (i := 0) (by simp) (fun j hj => absurd hj (Nat.not_lt_zero _)) hx
        simpa using this
theorem at_lit {C : List PItm} {n : Nat} {vc : Value} {w : World} (tb nm : List UInt8) (hz0 : C.length ≤ 9223372036854775807) (hz1 : n ≤ 9223372036854775807) (hC : RdC w 0 w.heap.size 3 vc C.length (C.flatMap cellsI)) : Ret Try.prog 34 #[vc, .int .i64 ((n : Nat) : Int), .agg #[.int .i64 0, .int .i64 0, .int .i64 0, .string (bs []), .string (bs tb), .string (bs nm), .slice none 0 0]] w (fun v' w' => Below w.heap.size w w' ∧ v' = .tuple #[.int .i64 (atX C n tb nm).1, .int .i64 (atX C n tb nm).2]) :=
  at_ret C n vc (XE.mk 0 0 0 [] tb nm (.slice none 0 0) []) w hz0 hz1 hC rfl

set_option maxHeartbeats 2000000 in
theorem selected9 {tv : Value} {D : List DTab} {t : PTab} {cv iv : Value} {f : StF} {nv : Value} {B : Nat} {w : World} (hT : TsRd w B tv D) (hB : B ≤ w.heap.size) (hD : D.length ≤ 1000000) (hsz : ∀ d ∈ D, d.t.cols.length ≤ 1000000 ∧ d.t.idx.length ≤ 1000000) (htc : RdC w 0 B 3 cv t.cols.length (t.cols.flatMap cellsC)) (hfo : XsRd w B f.ov f.on) (hfw : XsRd w B f.wv f.wh) (hfr : XsRd w B f.rv f.ord) (hfi : RdC w 0 B 3 f.iv f.items.length (f.items.flatMap cellsI)) (hcz : t.cols.length ≤ 1000000) (hon : ¬ f.join = [] → f.on.length = 2) (hord : f.ord.length ≤ 1) : Ret Try.prog 51 #[(.agg #[tv, (.slice none 0 0)]), (.agg #[(.int .i64 f.kind), (.string (bs f.tb)), (.string (bs f.nm)), f.cv, f.gv, f.vv, f.iv, (.string (bs f.join)), f.ov, f.wv, f.rv, (.bool f.desc), nv]), (.agg #[(.string (bs f.tb)), cv, iv])] w (fun v' w' => Below w.heap.size w w' ∧ v' = .int .i64 (selR (D.map DTab.t) t f)) := by
 have hR := hT.1
 have hfoR := hfo.1
 have hfwR := hfw.1
 have hfrR := hfr.1
 have hsz9 : ∀ t ∈ D.map DTab.t, t.cols.length ≤ 1000000 ∧ t.idx.length ≤ 1000000 := fun t ht => by obtain ⟨d, hd, rfl⟩ := List.mem_map.1 ht; exact hsz d hd
 have hcl9 := @cols_len f.tb t.cols
 have hkl9 := @kinds_len t.cols
 have hcl8 := @joinC_le (D.map DTab.t) f (colsOf f.tb t.cols) _ (fun t ht => (hsz9 t ht).1)
 have hkl8 := @joinK_le (D.map DTab.t) f (kindsOf t.cols) _ (fun t ht => (hsz9 t ht).1)
 have hfil := rd_len hfi
 have hfrl := rd_len hfrR
 have hb := Below.refl w.heap.size w
 refine enter (N := 189) Try.func51 rfl rfl (by simp) fun a0 hN hd hA => ?_
 have s0 : a0.tmps.getD 0 undef = (.agg #[tv, (.slice none 0 0)]) := hA 0 (by simp)
 have s1 : a0.tmps.getD 1 undef = (.agg #[(.int .i64 f.kind), (.string (bs f.tb)), (.string (bs f.nm)), f.cv, f.gv, f.vv, f.iv, (.string (bs f.join)), f.ov, f.wv, f.rv, (.bool f.desc), nv]) := hA 1 (by simp)
 have s2 : a0.tmps.getD 2 undef = (.agg #[(.string (bs f.tb)), cv, iv]) := hA 2 (by simp)
 clear hA
 refine zF fun K1 hK1 => ?_
 refine zH ?_
 refine op_box (cs := [tv, (.slice none 0 0)]) (zC hN rfl s0) rfl ?_
 intro w2 b3 lo_b3 hi_b3 hB5 E4
 have := E4.size
 have hT := hT.keep0 E4
 have hR := hR.keep0 E4
 have htc := htc.keep0 E4
 have hfo := hfo.keep0 E4
 have hfoR := hfoR.keep0 E4
 have hfw := hfw.keep0 E4
 have hfwR := hfwR.keep0 E4
 have hfr := hfr.keep0 E4
 have hfrR := hfrR.keep0 E4
 have hfi := hfi.keep0 E4
 have hb := zP hb E4 hb.size
 refine op_box (cs := [(.int .i64 f.kind), (.string (bs f.tb)), (.string (bs f.nm)), f.cv, f.gv, f.vv, f.iv, (.string (bs f.join)), f.ov, f.wv, f.rv, (.bool f.desc), nv]) (zC hN rfl s1) rfl ?_
 intro w6 b7 lo_b7 hi_b7 hB9 E8
 have := E8.size
 have hT := hT.keep0 E8
 have hR := hR.keep0 E8
 have htc := htc.keep0 E8
 have hfo := hfo.keep0 E8
 have hfoR := hfoR.keep0 E8
 have hfw := hfw.keep0 E8
 have hfwR := hfwR.keep0 E8
 have hfr := hfr.keep0 E8
 have hfrR := hfrR.keep0 E8
 have hfi := hfi.keep0 E8
 have hB5 := hB5.keep0 E8
 have hb := zP hb E8 hb.size
 refine op_box (cs := [(.string (bs f.tb)), cv, iv]) (zC hN rfl s2) rfl ?_
 intro w10 b11 lo_b11 hi_b11 hB13 E12
 have := E12.size
 have hT := hT.keep0 E12
 have hR := hR.keep0 E12
 have htc := htc.keep0 E12
 have hfo := hfo.keep0 E12
 have hfoR := hfoR.keep0 E12
 have hfw := hfw.keep0 E12
 have hfwR := hfwR.keep0 E12
 have hfr := hfr.keep0 E12
 have hfrR := hfrR.keep0 E12
 have hfi := hfi.keep0 E12
 obtain ⟨hB5, hB9⟩ := kb2 E12 hB5 hB9
 have hb := zP hb E12 hb.size
 refine zD rfl ?_
 refine zB ?_
 refine hK1 _ _ (zF fun K14 hK14 => ?_)
 refine zH ?_
 refine zY agg55 rfl (zA hN rfl) hB13 ?_
 refine zj ok80 (Cols9_own (nm := f.tb) zx (htc.mono (Nat.zero_le _) zx)) ⟨(zA hN rfl), trivial⟩ ?_
 rintro _ w16 ⟨E17, av15, bv15, rfl, hc15, hk15⟩
 have E17 := zQ E17
 have := E17.size
 have hT := hT.keep0 E17
 have hR := hR.keep0 E17
 have htc := htc.keep0 E17
 have hfo := hfo.keep0 E17
 have hfoR := hfoR.keep0 E17
 have hfw := hfw.keep0 E17
 have hfwR := hfwR.keep0 E17
 have hfr := hfr.keep0 E17
 have hfrR := hfrR.keep0 E17
 have hfi := hfi.keep0 E17
 obtain ⟨hB5, hB9, hB13⟩ := kb3 E17 hB5 hB9 hB13
 have hb := zP hb E17 hb.size
 have hc15 := hc15.mono (base' := w.heap.size) zx
 have hk15 := hk15.mono (base' := w.heap.size) zx
 refine zG (zA hN rfl) ?_
 refine zW (zA hN rfl) rfl ?_
 refine zW (zA hN rfl) rfl ?_
 refine zD (zA hN rfl) ?_
 refine zD (zA hN rfl) ?_
 refine zB ?_
 refine hK14 _ _ (seq_join1 (N := 189) (fun az_ w' => ∃ (av9 bv9 : Value) (C9 : List PItm) (K9 : List Int), (az_.tmps.getD 4 undef = (ptr b7 0)) ∧ (az_.tmps.getD 7 undef = av9) ∧ (az_.tmps.getD 8 undef = bv9) ∧ (C9 = (joinC (D.map DTab.t) f (colsOf f.tb t.cols))) ∧ (K9 = (joinK (D.map DTab.t) f (kindsOf t.cols))) ∧ (C9.length ≤ 2000000) ∧ (K9.length ≤ 2000000) ∧ ((joinE (D.map DTab.t) f (colsOf f.tb t.cols) (kindsOf t.cols)) = 0) ∧ (Below w.heap.size w w') ∧ (w16.heap.size ≤ w'.heap.size) ∧ (TsRd w' B tv D) ∧ (RdC w' 0 B 3 tv D.length (D.flatMap cellsT)) ∧ (RdC w' 0 B 3 cv t.cols.length (t.cols.flatMap cellsC)) ∧ (XsRd w' B f.ov f.on) ∧ (RdC w' 0 B 7 f.ov f.on.length (f.on.flatMap cellsX)) ∧ (XsRd w' B f.wv f.wh) ∧ (RdC w' 0 B 7 f.wv f.wh.length (f.wh.flatMap cellsX)) ∧ (XsRd w' B f.rv f.ord) ∧ (RdC w' 0 B 7 f.rv f.ord.length (f.ord.flatMap cellsX)) ∧ (RdC w' 0 B 3 f.iv f.items.length (f.items.flatMap cellsI)) ∧ (Bx w' b3 39 [tv, (.slice none 0 0)]) ∧ (Bx w' b7 45 [(.int .i64 f.kind), (.string (bs f.tb)), (.string (bs f.nm)), f.cv, f.gv, f.vv, f.iv, (.string (bs f.join)), f.ov, f.wv, f.rv, (.bool f.desc), nv]) ∧ (Bx w' b11 55 [(.string (bs f.tb)), cv, iv]) ∧ (Own w' w.heap.size 63 3 av9 C9.length (C9.flatMap cellsI)) ∧ (Own w' w.heap.size 3 1 bv9 K9.length (K9.map (Value.int .i64)))) (fun hJ18 => ?_) ?_)
 ·
  refine zF fun K21 hK21 => ?_
  refine zF fun K22 hK22 => ?_
  refine zH ?_
  refine zM fld45_7 (zA hN rfl) ?_
  refine zN (v := (Value.string (bs f.join))) one9 (zA hN rfl) (hB9.cell rfl) ?_
  refine op_sneq (zA hN rfl) rfl (fun c31 => ?_) (fun c31 => ?_)
  ·
   refine zB ?_
   refine hK22 _ _ (wp_cond_true (zA hN rfl) (zF fun K23 hK23 => ?_))
   refine zH ?_
   refine zY agg39 rfl (zA hN rfl) hB5 ?_
   refine zM fld45_7 (zA hN rfl) ?_
   refine zN (v := (Value.string (bs f.join))) one9 (zA hN rfl) (hB9.cell rfl) ?_
   rcases Bool.eq_false_or_eq_true ((tabAt (D.map DTab.t) f.join).isSome) with k36 | k36
   ·
    refine zj ok50 (Table9T k36 hT zx hD) ⟨(zA hN rfl), ⟨(zA hN rfl), trivial⟩⟩ ?_
    rintro _ w25 ⟨E26, d24, rfl, ht24, hO24, hP24⟩
    have E26 := zQ E26
    have := E26.size
    have hT := hT.keep0 E26
    have hR := hR.keep0 E26
    have htc := htc.keep0 E26
    have hfo := hfo.keep0 E26
    have hfoR := hfoR.keep0 E26
    have hfw := hfw.keep0 E26
    have hfwR := hfwR.keep0 E26
    have hfr := hfr.keep0 E26
    have hfrR := hfrR.keep0 E26
    have hfi := hfi.keep0 E26
    have hc15 := hc15.keep0 E26
    have hk15 := hk15.keep0 E26
    obtain ⟨hB5, hB9, hB13⟩ := kb3 E26 hB5 hB9 hB13
    have hb := zP hb E26 hb.size
    refine zG (zA hN rfl) ?_
    refine zW (zA hN rfl) rfl ?_
    refine zW (zA hN rfl) rfl ?_
    refine op_alloc (cs := [(.string (bs [])), (.slice none 0 0), (.slice none 0 0)]) zero55 rfl ?_
    intro w27 b28 lo_b28 hi_b28 hB30 E29
    have := E29.size
    have hT := hT.keep0 E29
    have hR := hR.keep0 E29
    have htc := htc.keep0 E29
    have hfo := hfo.keep0 E29
    have hfoR := hfoR.keep0 E29
    have hfw := hfw.keep0 E29
    have hfwR := hfwR.keep0 E29
    have hfr := hfr.keep0 E29
    have hfrR := hfrR.keep0 E29
    have hfi := hfi.keep0 E29
    have hc15 := hc15.keep0 E29
    have hk15 := hk15.keep0 E29
    have hO24 := hO24.keep0 E29
    have hP24 := hP24.keep0 E29
    obtain ⟨hB5, hB9, hB13⟩ := kb3 E29 hB5 hB9 hB13
    have hb := zP hb E29 hb.size
    have hB30_old := hB30
    refine zZ size55 (zA hN rfl) (zA hN rfl) rfl (by simp only [List.all_cons, List.all_nil, Bool.true_and, Bool.and_true, hO24.one, hP24.one]; try rfl) hB30 rfl ?_
    intro w33 hB30 E34
    have := E34.size
    have hT := hT.keep E34 sR
    have hR := hR.keep E34 sR
    have htc := htc.keep E34 sR
    have hfo := hfo.keep E34 sR
    have hfoR := hfoR.keep E34 sR
    have hfw := hfw.keep E34 sR
    have hfwR := hfwR.keep E34 sR
    have hfr := hfr.keep E34 sR
    have hfrR := hfrR.keep E34 sR
    have hfi := hfi.keep E34 sR
    have hB5 := hB5.keep E34 (sN hB5 hB30_old)
    have hB9 := hB9.keep E34 (sN hB9 hB30_old)
    have hB13 := hB13.keep E34 sB
    have hc15 := hc15.keepX hB30_old E34 zz
    have hk15 := hk15.keepX hB30_old E34 zz
    have hO24 := hO24.keep E34 sR
    have hb := below_step1 hb E34 hb.size zx
    refine zD (zA hN rfl) ?_
    refine zB ?_
    refine hK23 _ _ (zF fun K35 hK35 => ?_)
    refine zF fun K36 hK36 => ?_
    refine zH ?_
    refine zG (zA hN rfl) ?_
    refine op_not (zA hN rfl) ?_
    refine zB ?_
    refine hK36 _ _ (wp_cond_false (zA hN rfl) (wp_skip (hK35 _ _ (zF fun K37 hK37 => ?_))))
    refine zF fun K38 hK38 => ?_
    refine zH ?_
    refine zM fld45_7 (zA hN rfl) ?_
    refine zN (v := (Value.string (bs f.join))) one9 (zA hN rfl) (hB9.cell rfl) ?_
    refine zM fld45_1 (zA hN rfl) ?_
    refine zN (v := (Value.string (bs f.tb))) one9 (zA hN rfl) (hB9.cell rfl) ?_
    refine op_seql (zA hN rfl) (zA hN rfl) (fun c45 => ?_) (fun c45 => ?_)
    ·
     refine zB ?_
     refine hK38 _ _ (wp_cond_true (zA hN rfl) (zF fun K39 hK39 => ?_))
     refine zH ?_
     refine zD rfl ?_
     refine zB ?_
     refine hK39 _ _ (wp_ret (zO (zO ( ?_))))
     refine ret1 rfl hd (zA hN rfl) ⟨_, rfl, ?_⟩
     have e8 : (joinE (D.map DTab.t) f (colsOf f.tb t.cols) (kindsOf t.cols)) = 12 := (@joinE_s (D.map DTab.t) f (colsOf f.tb t.cols) (kindsOf t.cols) _ c31 ht24).1.trans (if_pos c45)
     have e9 : selR (D.map DTab.t) t f = 12 := by unfold selR; rw [e8, if_pos (by first | decide | assumption)]
     rw [e9]; exact ⟨hb, rfl⟩
    refine zB ?_
    refine hK38 _ _ (wp_cond_false (zA hN rfl) (wp_skip (hK37 _ _ (zF fun K40 hK40 => ?_))))
    refine zH ?_
    refine zY agg55 rfl (zA hN rfl) hB30 ?_
    have hdl := (hsz9 _ (tab_mem ht24)).1
    have hcl7 := @cols_len f.join d24.t.cols
    have hkl7 := @kinds_len d24.t.cols
    refine zj ok80 (Cols9_ret (nm := f.join) zx (hO24.mono (Nat.zero_le _) zx)) ⟨(zA hN rfl), trivial⟩ ?_
    rintro _ w42 ⟨E43, av41, bv41, rfl, hc41, hk41⟩
    have ap44 : ∀ k, av15.ownBlock = some k → k < w33.heap.size ∨ w42.heap.size ≤ k := fun k hk => .inl ((hc15.lt k hk).2)
    have ap45 : ∀ k, av15.ownBlock = some k → k < w33.heap.size ∨ w42.heap.size ≤ k := fun k hk => .inl ((hc15.lt k hk).2)
    have ap46 : ∀ k, bv15.ownBlock = some k → k < w33.heap.size ∨ w42.heap.size ≤ k := fun k hk => .inl ((hk15.lt k hk).2)
    have E43 := zQ E43
    have := E43.size
    have hT := hT.keep0 E43
    have hR := hR.keep0 E43
    have htc := htc.keep0 E43
    have hfo := hfo.keep0 E43
    have hfoR := hfoR.keep0 E43
    have hfw := hfw.keep0 E43
    have hfwR := hfwR.keep0 E43
    have hfr := hfr.keep0 E43
    have hfrR := hfrR.keep0 E43
    have hfi := hfi.keep0 E43
    have hc15 := hc15.keep0 E43
    have hk15 := hk15.keep0 E43
    obtain ⟨hB5, hB9, hB13⟩ := kb3 E43 hB5 hB9 hB13
    have hb := zP hb E43 hb.size
    refine zG (zA hN rfl) ?_
    refine zW (zA hN rfl) rfl ?_
    refine zW (zA hN rfl) rfl ?_
    refine zD (zA hN rfl) ?_
    refine zD (zA hN rfl) ?_
    refine zB ?_
    refine hK40 _ _ (zF fun K48 hK48 => ?_)
    refine zH ?_
    refine zG (zA hN rfl) ?_
    refine zG (zA hN rfl) ?_
    have hP54 := hc15
    refine op_append slt22 (zA hN rfl) hP54 (zA hN rfl) (Src.ofRd Try.underlying22 zz hc41 (one_pi _)) (by unfold maxLen; omega) zx hb.size ?_
    intro v49 w50 hO52 E51 hm53
    have := E51.size
    have hT := hT.keepO hP54 E51 zx
    have hR := hR.keepO hP54 E51 zx
    have htc := htc.keepO hP54 E51 zx
    have hfo := hfo.keepO hP54 E51 zx
    have hfoR := hfoR.keepO hP54 E51 zx
    have hfw := hfw.keepO hP54 E51 zx
    have hfwR := hfwR.keepO hP54 E51 zx
    have hfr := hfr.keepO hP54 E51 zx
    have hfrR := hfrR.keepO hP54 E51 zx
    have hfi := hfi.keepO hP54 E51 zx
    have hB5 := hB5.keepO hP54 E51 zz
    have hB9 := hB9.keepO hP54 E51 zz
    have hB13 := hB13.keepO hP54 E51 zz
    have hk15 := hk15.keepT hP54 E51 zz
    have hc41 := hc41.keep E51 ap44
    have hk41 := hk41.keep E51 ap45
    have hb := below_stepO hb hP54 E51 hb.size zx
    have hO52 : Own w50 w.heap.size 63 3 v49 ((colsOf f.tb t.cols) ++ (colsOf f.join d24.t.cols)).length ((((colsOf f.tb t.cols) ++ (colsOf f.join d24.t.cols))).flatMap cellsI) := by exact hO52.cast (by simp) (by simp)
    refine zG (zA hN rfl) ?_
    refine zG (zA hN rfl) ?_
    have hP60 := hk15
    refine op_append slt23 (zA hN rfl) hP60 (zA hN rfl) (Src.ofRd Try.underlying23 zz hk41 (one_i64 _)) (by unfold maxLen; omega) zx hb.size ?_
    intro v55 w56 hO58 E57 hm59
    have := E57.size
    have hT := hT.keepO hP60 E57 zx
    have hR := hR.keepO hP60 E57 zx
    have htc := htc.keepO hP60 E57 zx
    have hfo := hfo.keepO hP60 E57 zx
    have hfoR := hfoR.keepO hP60 E57 zx
    have hfw := hfw.keepO hP60 E57 zx
    have hfwR := hfwR.keepO hP60 E57 zx
    have hfr := hfr.keepO hP60 E57 zx
    have hfrR := hfrR.keepO hP60 E57 zx
    have hfi := hfi.keepO hP60 E57 zx
    have hB5 := hB5.keepO hP60 E57 zz
    have hB9 := hB9.keepO hP60 E57 zz
    have hB13 := hB13.keepO hP60 E57 zz
    have hc41 := hc41.keep E57 ap46
    have hO52 := hO52.keepT hP60 E57 zz
    have hb := below_stepO hb hP60 E57 hb.size zx
    have hO58 : Own w56 w.heap.size 3 1 v55 ((kindsOf t.cols) ++ (kindsOf d24.t.cols)).length ((((kindsOf t.cols) ++ (kindsOf d24.t.cols))).map (Value.int .i64)) := by exact hO58.cast (by simp) (by simp)
    refine zD (zA hN rfl) ?_
    refine zD (zA hN rfl) ?_
    refine zB ?_
    refine hK48 _ _ (zF fun K61 hK61 => ?_)
    refine zH ?_
    refine zD rfl ?_
    refine zB ?_
    refine hK61 _ _ (zF fun K62 hK62 => ?_)
    refine zF fun K63 hK63 => ?_
    refine zH ?_
    refine zD rfl ?_
    refine zB ?_
    refine hK63 _ _ (wp_block ?_)
    refine wp_loop_rounds 3 ?_
    refine rounds_any fun K64 hK64 => ?_
    refine zF fun K65 hK65 => ?_
    refine zF fun K66 hK66 => ?_
    refine zH ?_
    skip
    refine zG (zA hN rfl) ?_
    refine op_bin (v := .bool true) (zA hN rfl) rfl (by rw [binOp_lss]; rfl) (zB ?_)
    refine hK66 _ _ (wp_cond_true (zA hN rfl) (wp_skip (hK65 _ _ (zF fun K67 hK67 => ?_))))
    refine wp_block ?_
    refine zF fun K68 hK68 => ?_
    refine zH ?_
    have hon2 := hon c31
    refine zG (zA hN rfl) ?_
    refine zG (zA hN rfl) ?_
    refine zM fld45_8 (zA hN rfl) ?_
    refine zN (v := f.ov) one26 (zA hN rfl) (hB9.cell rfl) ?_
    refine zG (zA hN rfl) ?_
    refine zh slt26 (zA hN rfl) hfoR (zA hN rfl) zx zx ?_
    intro b69 o70 h0b69 h1b69 hc71
    refine zX (cs := [(.int .i64 (f.on.getD 0 default).op), (.int .i64 (f.on.getD 0 default).vk), (.int .i64 (f.on.getD 0 default).vi), (.string (bs (f.on.getD 0 default).vt)), (.string (bs (f.on.getD 0 default).tb)), (.string (bs (f.on.getD 0 default).nm)), (f.on.getD 0 default).av]) agg28 rfl (zA hN rfl) (fun j u hu => hc71 j u (by have := (List.getElem?_eq_some_iff.1 hu).1; simpa using this) ((el_xe (i := 0) zx zx) j u hu)) ?_
    refine zj ok15 (KindQ_ret (w := w56) (C := ((colsOf f.tb t.cols) ++ (colsOf f.join d24.t.cols))) (K := ((kindsOf t.cols) ++ (kindsOf d24.t.cols))) (f.on.getD 0 default) (by first | assumption | omega | (simp only [List.length_append, List.length_cons, List.length_nil, List.length_drop, List.length_take]; omega) | (dsimp only; omega) | decide | (simp [keyV, be8_len]; done)) (by first | assumption | omega | (simp only [List.length_append, List.length_cons, List.length_nil, List.length_drop, List.length_take]; omega) | (dsimp only; omega) | decide | (simp [keyV, be8_len]; done)) (hO52.rdw.mono (Nat.zero_le _) zx) (hO58.rdw.mono (Nat.zero_le _) zx) ((hfo.2 (f.on.getD 0 default) (getD_mem zx)).mono zx)) ⟨(zA hN rfl), ⟨(zA hN rfl), ⟨(zA hN rfl), trivial⟩⟩⟩ ?_
    rintro _ w72 ⟨E73, rfl⟩
    have E73 := zQ E73
    have := E73.size
    have hT := hT.keep0 E73
    have hR := hR.keep0 E73
    have htc := htc.keep0 E73
    have hfo := hfo.keep0 E73
    have hfoR := hfoR.keep0 E73
    have hfw := hfw.keep0 E73
    have hfwR := hfwR.keep0 E73
    have hfr := hfr.keep0 E73
    have hfrR := hfrR.keep0 E73
    have hfi := hfi.keep0 E73
    have hO52 := hO52.keep0 E73
    have hO58 := hO58.keep0 E73
    obtain ⟨hB5, hB9, hB13⟩ := kb3 E73 hB5 hB9 hB13
    have hb := zP hb E73 hb.size
    refine zG (zA hN rfl) ?_
    refine zW (zA hN rfl) rfl ?_
    refine zW (zA hN rfl) rfl ?_
    refine zD (zA hN rfl) ?_
    refine zD (zA hN rfl) ?_
    refine zB ?_
    refine hK68 _ _ (zF fun K74 hK74 => ?_)
    refine zF fun K75 hK75 => ?_
    refine zH ?_
    refine zG (zA hN rfl) ?_
    refine op_neq (zA hN rfl) rfl (fun c73 => ?_) (fun c73 => ?_)
    ·
     refine zB ?_
     refine hK75 _ _ (wp_cond_true (zA hN rfl) (zF fun K76 hK76 => ?_))
     refine zH ?_
     refine zG (zA hN rfl) ?_
     refine zD (zA hN rfl) ?_
     refine zB ?_
     refine hK76 _ _ (wp_ret (zO (zb (zO (zO (zb (zO (zO ( ?_)))))))))
     refine ret1 rfl hd (zA hN rfl) ⟨_, rfl, ?_⟩
     have e8 : (joinE (D.map DTab.t) f (colsOf f.tb t.cols) (kindsOf t.cols)) = (kindX ((colsOf f.tb t.cols) ++ colsOf f.join d24.t.cols) ((kindsOf t.cols) ++ kindsOf d24.t.cols) (f.on.getD 0 default)).2 := ((@joinE_s (D.map DTab.t) f (colsOf f.tb t.cols) (kindsOf t.cols) _ c31 ht24).1.trans (if_neg c45)).trans (by unfold onE; exact if_pos c73)
     have e9 : selR (D.map DTab.t) t f = (kindX ((colsOf f.tb t.cols) ++ colsOf f.join d24.t.cols) ((kindsOf t.cols) ++ kindsOf d24.t.cols) (f.on.getD 0 default)).2 := by unfold selR; rw [e8, if_pos (by first | decide | assumption)]
     rw [e9]; exact ⟨hb, rfl⟩
    refine zB ?_
    refine hK75 _ _ (wp_cond_false (zA hN rfl) (wp_skip (hK74 _ _ (zH ?_))))
    refine zG (zA hN rfl) ?_
    refine zG (zA hN rfl) ?_
    refine op_bslice (e := 3) (pv := [(0, (.int .i64 (kindX ((colsOf f.tb t.cols) ++ (colsOf f.join d24.t.cols)) ((kindsOf t.cols) ++ (kindsOf d24.t.cols)) (f.on.getD 0 default)).1))]) (cs := [(.int .i64 (kindX ((colsOf f.tb t.cols) ++ (colsOf f.join d24.t.cols)) ((kindsOf t.cols) ++ (kindsOf d24.t.cols)) (f.on.getD 0 default)).1)]) ⟨rfl, (zA hN rfl), trivial⟩ zy ?_
    intro w77 b78 lo_b78 hi_b78 hB80 E79
    have := E79.size
    have hT := hT.keep0 E79
    have hR := hR.keep0 E79
    have htc := htc.keep0 E79
    have hfo := hfo.keep0 E79
    have hfoR := hfoR.keep0 E79
    have hfw := hfw.keep0 E79
    have hfwR := hfwR.keep0 E79
    have hfr := hfr.keep0 E79
    have hfrR := hfrR.keep0 E79
    have hfi := hfi.keep0 E79
    have hO52 := hO52.keep0 E79
    have hO58 := hO58.keep0 E79
    obtain ⟨hB5, hB9, hB13⟩ := kb3 E79 hB5 hB9 hB13
    have hb := zP hb E79 hb.size
    have hP86 := (Own.nil w77 w.heap.size 3 1)
    refine op_append slt23 (zA hN rfl) hP86 (zA hN rfl) (Src.ofRd Try.underlying23 zz (RdC.ofBx (sz := 1) (n := 1) hB80 rfl zz) (by simp [Value.oneCell', u8v])) (by unfold maxLen; omega) zx hb.size ?_
    intro v81 w82 hO84 E83 hm85
    have E83 : w77.grownBy w82 (Value.slice none 0 0).ownBlock := E83
    have dj87 : DJ v55 (.slice none 0 0) := fun k hk hg => by simp [Value.ownBlock] at hg
    have dj88 : DJ v55 v81 := DJ.step hm85 (fun k hk => (hO58.lt k hk).2) dj87
    have := E83.size
    have hT := hT.keepO hP86 E83 zx
    have hR := hR.keepO hP86 E83 zx
    have htc := htc.keepO hP86 E83 zx
    have hfo := hfo.keepO hP86 E83 zx
    have hfoR := hfoR.keepO hP86 E83 zx
    have hfw := hfw.keepO hP86 E83 zx
    have hfwR := hfwR.keepO hP86 E83 zx
    have hfr := hfr.keepO hP86 E83 zx
    have hfrR := hfrR.keepO hP86 E83 zx
    have hfi := hfi.keepO hP86 E83 zx
    have hB5 := hB5.keep E83 (by simp [Value.ownBlock]; try omega)
    have hB9 := hB9.keep E83 (by simp [Value.ownBlock]; try omega)
    have hB13 := hB13.keep E83 (by simp [Value.ownBlock]; try omega)
    have hO52 := hO52.keepT hP86 E83 zz
    have hO58 := hO58.keepD E83 dj87
    have hb := below_stepO hb hP86 E83 hb.size zx
    have hO84 : Own w82 w.heap.size 3 1 v81 (0 + 1) (([(kindX ((colsOf f.tb t.cols) ++ (colsOf f.join d24.t.cols)) ((kindsOf t.cols) ++ (kindsOf d24.t.cols)) (f.on.getD 0 default)).1]).map (Value.int .i64)) := by simpa [u8v, u16v, sv, cellsI] using hO84
    refine zD (zA hN rfl) ?_
    refine zB ?_
    refine hK67 _ _ (zH ?_)
    refine zG (zA hN rfl) ?_
    refine op_add (r := 1) (zA hN rfl) rfl zz ?_
    refine zD (zA hN rfl) ?_
    refine zB ?_
    refine hK64 _ _ (rounds_any fun K89 hK89 => ?_)
    refine zF fun K90 hK90 => ?_
    refine zF fun K91 hK91 => ?_
    refine zH ?_
    skip
    refine zG (zA hN rfl) ?_
    refine op_bin (v := .bool true) (zA hN rfl) rfl (by rw [binOp_lss]; rfl) (zB ?_)
    refine hK91 _ _ (wp_cond_true (zA hN rfl) (wp_skip (hK90 _ _ (zF fun K92 hK92 => ?_))))
    refine wp_block ?_
    refine zF fun K93 hK93 => ?_
    refine zH ?_
    have c73a := c73
    refine zG (zA hN rfl) ?_
    refine zG (zA hN rfl) ?_
    refine zM fld45_8 (zA hN rfl) ?_
    refine zN (v := f.ov) one26 (zA hN rfl) (hB9.cell rfl) ?_
    refine zG (zA hN rfl) ?_
    refine zh slt26 (zA hN rfl) hfoR (zA hN rfl) zx zx ?_
    intro b94 o95 h0b94 h1b94 hc96
    refine zX (cs := [(.int .i64 (f.on.getD 1 default).op), (.int .i64 (f.on.getD 1 default).vk), (.int .i64 (f.on.getD 1 default).vi), (.string (bs (f.on.getD 1 default).vt)), (.string (bs (f.on.getD 1 default).tb)), (.string (bs (f.on.getD 1 default).nm)), (f.on.getD 1 default).av]) agg28 rfl (zA hN rfl) (fun j u hu => hc96 j u (by have := (List.getElem?_eq_some_iff.1 hu).1; simpa using this) ((el_xe (i := 1) zx zx) j u hu)) ?_
    refine zj ok15 (KindQ_ret (w := w82) (C := ((colsOf f.tb t.cols) ++ (colsOf f.join d24.t.cols))) (K := ((kindsOf t.cols) ++ (kindsOf d24.t.cols))) (f.on.getD 1 default) (by first | assumption | omega | (simp only [List.length_append, List.length_cons, List.length_nil, List.length_drop, List.length_take]; omega) | (dsimp only; omega) | decide | (simp [keyV, be8_len]; done)) (by first | assumption | omega | (simp only [List.length_append, List.length_cons, List.length_nil, List.length_drop, List.length_take]; omega) | (dsimp only; omega) | decide | (simp [keyV, be8_len]; done)) (hO52.rdw.mono (Nat.zero_le _) zx) (hO58.rdw.mono (Nat.zero_le _) zx) ((hfo.2 (f.on.getD 1 default) (getD_mem zx)).mono zx)) ⟨(zA hN rfl), ⟨(zA hN rfl), ⟨(zA hN rfl), trivial⟩⟩⟩ ?_
    rintro _ w97 ⟨E98, rfl⟩
    have E98 := zQ E98
    have := E98.size
    have hT := hT.keep0 E98
    have hR := hR.keep0 E98
    have htc := htc.keep0 E98
    have hfo := hfo.keep0 E98
    have hfoR := hfoR.keep0 E98
    have hfw := hfw.keep0 E98
    have hfwR := hfwR.keep0 E98
    have hfr := hfr.keep0 E98
    have hfrR := hfrR.keep0 E98
    have hfi := hfi.keep0 E98
    have hO52 := hO52.keep0 E98
    have hO58 := hO58.keep0 E98
    have hO84 := hO84.keep0 E98
    obtain ⟨hB5, hB9, hB13⟩ := kb3 E98 hB5 hB9 hB13
    have hb := zP hb E98 hb.size
    refine zG (zA hN rfl) ?_
    refine zW (zA hN rfl) rfl ?_
    refine zW (zA hN rfl) rfl ?_
    refine zD (zA hN rfl) ?_
    refine zD (zA hN rfl) ?_
    refine zB ?_
    refine hK93 _ _ (zF fun K99 hK99 => ?_)
    refine zF fun K100 hK100 => ?_
    refine zH ?_
    refine zG (zA hN rfl) ?_
    refine op_neq (zA hN rfl) rfl (fun c73 => ?_) (fun c73 => ?_)
    ·
     refine zB ?_
     refine hK100 _ _ (wp_cond_true (zA hN rfl) (zF fun K101 hK101 => ?_))
     refine zH ?_
     refine zG (zA hN rfl) ?_
     refine zD (zA hN rfl) ?_
     refine zB ?_
     refine hK101 _ _ (wp_ret (zO (zb (zO (zO (zb (zO (zO ( ?_)))))))))
     refine ret1 rfl hd (zA hN rfl) ⟨_, rfl, ?_⟩
     have e8 : (joinE (D.map DTab.t) f (colsOf f.tb t.cols) (kindsOf t.cols)) = (kindX ((colsOf f.tb t.cols) ++ colsOf f.join d24.t.cols) ((kindsOf t.cols) ++ kindsOf d24.t.cols) (f.on.getD 1 default)).2 := ((@joinE_s (D.map DTab.t) f (colsOf f.tb t.cols) (kindsOf t.cols) _ c31 ht24).1.trans (if_neg c45)).trans (by unfold onE; rw [if_neg (fun g => g c73a)]; exact if_pos c73)
     have e9 : selR (D.map DTab.t) t f = (kindX ((colsOf f.tb t.cols) ++ colsOf f.join d24.t.cols) ((kindsOf t.cols) ++ kindsOf d24.t.cols) (f.on.getD 1 default)).2 := by unfold selR; rw [e8, if_pos (by first | decide | assumption)]
     rw [e9]; exact ⟨hb, rfl⟩
    refine zB ?_
    refine hK100 _ _ (wp_cond_false (zA hN rfl) (wp_skip (hK99 _ _ (zH ?_))))
    refine zG (zA hN rfl) ?_
    refine zG (zA hN rfl) ?_
    refine op_bslice (e := 3) (pv := [(0, (.int .i64 (kindX ((colsOf f.tb t.cols) ++ (colsOf f.join d24.t.cols)) ((kindsOf t.cols) ++ (kindsOf d24.t.cols)) (f.on.getD 1 default)).1))]) (cs := [(.int .i64 (kindX ((colsOf f.tb t.cols) ++ (colsOf f.join d24.t.cols)) ((kindsOf t.cols) ++ (kindsOf d24.t.cols)) (f.on.getD 1 default)).1)]) ⟨rfl, (zA hN rfl), trivial⟩ zy ?_
    intro w102 b103 lo_b103 hi_b103 hB105 E104
    have := E104.size
    have hT := hT.keep0 E104
    have hR := hR.keep0 E104
    have htc := htc.keep0 E104
    have hfo := hfo.keep0 E104
    have hfoR := hfoR.keep0 E104
    have hfw := hfw.keep0 E104
    have hfwR := hfwR.keep0 E104
    have hfr := hfr.keep0 E104
    have hfrR := hfrR.keep0 E104
    have hfi := hfi.keep0 E104
    have hO52 := hO52.keep0 E104
    have hO58 := hO58.keep0 E104
    have hO84 := hO84.keep0 E104
    obtain ⟨hB5, hB9, hB13⟩ := kb3 E104 hB5 hB9 hB13
    have hb := zP hb E104 hb.size
    have hP111 := hO84
    refine op_append slt23 (zA hN rfl) hP111 (zA hN rfl) (Src.ofRd Try.underlying23 zz (RdC.ofBx (sz := 1) (n := 1) hB105 rfl zz) (by simp [Value.oneCell', u8v])) (by unfold maxLen; omega) zx hb.size ?_
    intro v106 w107 hO109 E108 hm110
    have := E108.size
    have hT := hT.keepO hP111 E108 zx
    have hR := hR.keepO hP111 E108 zx
    have htc := htc.keepO hP111 E108 zx
    have hfo := hfo.keepO hP111 E108 zx
    have hfoR := hfoR.keepO hP111 E108 zx
    have hfw := hfw.keepO hP111 E108 zx
    have hfwR := hfwR.keepO hP111 E108 zx
    have hfr := hfr.keepO hP111 E108 zx
    have hfrR := hfrR.keepO hP111 E108 zx
    have hfi := hfi.keepO hP111 E108 zx
    have hB5 := hB5.keepO hP111 E108 zz
    have hB9 := hB9.keepO hP111 E108 zz
    have hB13 := hB13.keepO hP111 E108 zz
    have hO52 := hO52.keepT hP111 E108 zz
    have hO58 := hO58.keepD E108 dj88
    have hb := below_stepO hb hP111 E108 hb.size zx
    have hO109 : Own w107 w.heap.size 3 1 v106 ((0 + 1) + 1) ((([(kindX ((colsOf f.tb t.cols) ++ (colsOf f.join d24.t.cols)) ((kindsOf t.cols) ++ (kindsOf d24.t.cols)) (f.on.getD 0 default)).1] ++ [(kindX ((colsOf f.tb t.cols) ++ (colsOf f.join d24.t.cols)) ((kindsOf t.cols) ++ (kindsOf d24.t.cols)) (f.on.getD 1 default)).1])).map (Value.int .i64)) := by simpa [u8v, u16v, sv, cellsI] using hO109
    refine zD (zA hN rfl) ?_
    refine zB ?_
    refine hK92 _ _ (zH ?_)
    refine zG (zA hN rfl) ?_
    refine op_add (r := 2) (zA hN rfl) rfl zz ?_
    refine zD (zA hN rfl) ?_
    refine zB ?_
    refine hK89 _ _ (rounds_any fun K113 hK113 => ?_)
    refine zF fun K114 hK114 => ?_
    refine zF fun K115 hK115 => ?_
    refine zH ?_
    skip
    refine zG (zA hN rfl) ?_
    refine op_bin (v := .bool false) (zA hN rfl) rfl (by rw [binOp_lss]; rfl) (zB ?_)
    refine hK115 _ _ (wp_cond_false (zA hN rfl) (wp_exit (then_exit (then_exit (blk_hit ?_)))))
    refine hK62 _ _ (zF fun K116 hK116 => ?_)
    refine reg_still mixed zy ?_
    intro w118 E117
    have := E117.size
    have hT := hT.keep0 E117
    have hR := hR.keep0 E117
    have htc := htc.keep0 E117
    have hfo := hfo.keep0 E117
    have hfoR := hfoR.keep0 E117
    have hfw := hfw.keep0 E117
    have hfwR := hfwR.keep0 E117
    have hfr := hfr.keep0 E117
    have hfrR := hfrR.keep0 E117
    have hfi := hfi.keep0 E117
    have hO52 := hO52.keep0 E117
    have hO58 := hO58.keep0 E117
    have hO109 := hO109.keep0 E117
    obtain ⟨hB5, hB9, hB13⟩ := kb3 E117 hB5 hB9 hB13
    have hb := zP hb E117 hb.size
    have hl9 : ([(kindX ((colsOf f.tb t.cols) ++ (colsOf f.join d24.t.cols)) ((kindsOf t.cols) ++ (kindsOf d24.t.cols)) (f.on.getD 0 default)).1] ++ [(kindX ((colsOf f.tb t.cols) ++ (colsOf f.join d24.t.cols)) ((kindsOf t.cols) ++ (kindsOf d24.t.cols)) (f.on.getD 1 default)).1]).length = 2 := rfl
    refine st_step rfl (fun _ h9 => zG (zA hN rfl) h9) ?_
    refine st_index_rd slt23 (zA hN rfl) hO109.rdw rfl zx zx ?_
    intro b119 o120 h0b119 h1b119 hc121
    refine st_step rfl (fun _ h9 => zN (v := (Value.int .i64 (([(kindX ((colsOf f.tb t.cols) ++ (colsOf f.join d24.t.cols)) ((kindsOf t.cols) ++ (kindsOf d24.t.cols)) (f.on.getD 0 default)).1] ++ [(kindX ((colsOf f.tb t.cols) ++ (colsOf f.join d24.t.cols)) ((kindsOf t.cols) ++ (kindsOf d24.t.cols)) (f.on.getD 1 default)).1]).getD 0 0))) one3 (zA hN rfl) (by have := hc121 0 (.int .i64 (([(kindX ((colsOf f.tb t.cols) ++ (colsOf f.join d24.t.cols)) ((kindsOf t.cols) ++ (kindsOf d24.t.cols)) (f.on.getD 0 default)).1] ++ [(kindX ((colsOf f.tb t.cols) ++ (colsOf f.join d24.t.cols)) ((kindsOf t.cols) ++ (kindsOf d24.t.cols)) (f.on.getD 1 default)).1]).getD 0 0)) zz (el_i64 (i := 0) zx zx); simpa using this) h9) ?_
    refine st_step rfl (fun _ h9 => zG (zA hN rfl) h9) ?_
    refine st_index_rd slt23 (zA hN rfl) hO109.rdw rfl zx zx ?_
    intro b122 o123 h0b122 h1b122 hc124
    refine st_step rfl (fun _ h9 => zN (v := (Value.int .i64 (([(kindX ((colsOf f.tb t.cols) ++ (colsOf f.join d24.t.cols)) ((kindsOf t.cols) ++ (kindsOf d24.t.cols)) (f.on.getD 0 default)).1] ++ [(kindX ((colsOf f.tb t.cols) ++ (colsOf f.join d24.t.cols)) ((kindsOf t.cols) ++ (kindsOf d24.t.cols)) (f.on.getD 1 default)).1]).getD 1 0))) one3 (zA hN rfl) (by have := hc124 0 (.int .i64 (([(kindX ((colsOf f.tb t.cols) ++ (colsOf f.join d24.t.cols)) ((kindsOf t.cols) ++ (kindsOf d24.t.cols)) (f.on.getD 0 default)).1] ++ [(kindX ((colsOf f.tb t.cols) ++ (colsOf f.join d24.t.cols)) ((kindsOf t.cols) ++ (kindsOf d24.t.cols)) (f.on.getD 1 default)).1]).getD 1 0)) zz (el_i64 (i := 1) zx zx); simpa using this) h9) ?_
    refine st_step rfl (fun _ h9 => op_cmp (b := (decide ((([(kindX ((colsOf f.tb t.cols) ++ (colsOf f.join d24.t.cols)) ((kindsOf t.cols) ++ (kindsOf d24.t.cols)) (f.on.getD 0 default)).1] ++ [(kindX ((colsOf f.tb t.cols) ++ (colsOf f.join d24.t.cols)) ((kindsOf t.cols) ++ (kindsOf d24.t.cols)) (f.on.getD 1 default)).1]).getD 0 0) ≠ (([(kindX ((colsOf f.tb t.cols) ++ (colsOf f.join d24.t.cols)) ((kindsOf t.cols) ++ (kindsOf d24.t.cols)) (f.on.getD 0 default)).1] ++ [(kindX ((colsOf f.tb t.cols) ++ (colsOf f.join d24.t.cols)) ((kindsOf t.cols) ++ (kindsOf d24.t.cols)) (f.on.getD 1 default)).1]).getD 1 0)))) (zA hN rfl) (zA hN rfl) (b_neq rfl) h9) ?_
    refine st_nil ?_
    refine hK116 _ _ (wp_cond_split (zA hN rfl) (fun c85 => ?_) (fun c85 => ?_))
    ·
     have c85 := of_decide_eq_true c85
     refine zF fun K125 hK125 => ?_
     refine zH ?_
     refine zD rfl ?_
     refine zB ?_
     refine hK125 _ _ (wp_ret (zO ( ?_)))
     refine ret1 rfl hd (zA hN rfl) ⟨_, rfl, ?_⟩
     have e8 : (joinE (D.map DTab.t) f (colsOf f.tb t.cols) (kindsOf t.cols)) = 11 := ((@joinE_s (D.map DTab.t) f (colsOf f.tb t.cols) (kindsOf t.cols) _ c31 ht24).1.trans (if_neg c45)).trans (by unfold onE; rw [if_neg (fun g => g c73a)]; exact must_t c73 (fun h => c85 (show (kindX ((colsOf f.tb t.cols) ++ colsOf f.join d24.t.cols) ((kindsOf t.cols) ++ kindsOf d24.t.cols) (f.on.getD 0 default)).1 = (kindX ((colsOf f.tb t.cols) ++ colsOf f.join d24.t.cols) ((kindsOf t.cols) ++ kindsOf d24.t.cols) (f.on.getD 1 default)).1 from h.symm)))
     have e9 : selR (D.map DTab.t) t f = 11 := by unfold selR; rw [e8, if_pos (by first | decide | assumption)]
     rw [e9]; exact ⟨hb, rfl⟩
    have c85 := of_decide_eq_false c85
    refine wp_skip (hK21 _ _ ?_)
    exact hJ18 _ _ _ hN hd ⟨v49, v55, (joinC (D.map DTab.t) f (colsOf f.tb t.cols)), (joinK (D.map DTab.t) f (kindsOf t.cols)), (zU hN rfl), (zU hN rfl), (zU hN rfl), rfl, rfl, zx, zx, (((@joinE_s (D.map DTab.t) f (colsOf f.tb t.cols) (kindsOf t.cols) _ c31 ht24).1.trans (if_neg c45)).trans (by unfold onE; rw [if_neg (fun g => g c73a)]; exact must_0 c73 (show (kindX ((colsOf f.tb t.cols) ++ colsOf f.join d24.t.cols) ((kindsOf t.cols) ++ kindsOf d24.t.cols) (f.on.getD 1 default)).1 = (kindX ((colsOf f.tb t.cols) ++ colsOf f.join d24.t.cols) ((kindsOf t.cols) ++ kindsOf d24.t.cols) (f.on.getD 0 default)).1 from (Classical.not_not.1 c85).symm))), hb, zx, hT, hR, htc, hfo, hfoR, hfw, hfwR, hfr, hfrR, hfi, hB5, hB9, hB13, (hO52.cast (by rw [(@joinE_s (D.map DTab.t) f (colsOf f.tb t.cols) (kindsOf t.cols) _ c31 ht24).2.1]) (by rw [(@joinE_s (D.map DTab.t) f (colsOf f.tb t.cols) (kindsOf t.cols) _ c31 ht24).2.1])), (hO58.cast (by rw [(@joinE_s (D.map DTab.t) f (colsOf f.tb t.cols) (kindsOf t.cols) _ c31 ht24).2.2]) (by rw [(@joinE_s (D.map DTab.t) f (colsOf f.tb t.cols) (kindsOf t.cols) _ c31 ht24).2.2]))⟩
   refine zj ok50 (Table9F k36 hT zx hD) ⟨(zA hN rfl), ⟨(zA hN rfl), trivial⟩⟩ ?_
   rintro _ w126 ⟨E127, rfl⟩
   have E127 := zQ E127
   have := E127.size
   have hc15 := hc15.keep0 E127
   have hb := zP hb E127 hb.size
   refine zG (zA hN rfl) ?_
   refine zW (zA hN rfl) rfl ?_
   refine zW (zA hN rfl) rfl ?_
   refine op_alloc (cs := [(.string (bs [])), (.slice none 0 0), (.slice none 0 0)]) zero55 rfl ?_
   intro w128 b129 lo_b129 hi_b129 hB131 E130
   have := E130.size
   have hc15 := hc15.keep0 E130
   have hb := zP hb E130 hb.size
   have hB131_old := hB131
   refine zZ size55 (zA hN rfl) (zA hN rfl) rfl rfl hB131 rfl ?_
   intro w134 hB131 E135
   have := E135.size
   have hc15 := hc15.keepX hB131_old E135 zz
   have hb := below_step1 hb E135 hb.size zx
   refine zD (zA hN rfl) ?_
   refine zB ?_
   refine hK23 _ _ (zF fun K136 hK136 => ?_)
   refine zF fun K137 hK137 => ?_
   refine zH ?_
   refine zG (zA hN rfl) ?_
   refine op_not (zA hN rfl) ?_
   refine zB ?_
   refine hK137 _ _ (wp_cond_true (zA hN rfl) (zF fun K138 hK138 => ?_))
   refine zH ?_
   refine zD rfl ?_
   refine zB ?_
   refine hK138 _ _ (wp_ret (zO (zO ( ?_))))
   refine ret1 rfl hd (zA hN rfl) ⟨_, rfl, ?_⟩
   have e8 : (joinE (D.map DTab.t) f (colsOf f.tb t.cols) (kindsOf t.cols)) = 9 := joinE_n c31 k36
   have e9 : selR (D.map DTab.t) t f = 9 := by unfold selR; rw [e8, if_pos (by first | decide | assumption)]
   rw [e9]; exact ⟨hb, rfl⟩
  refine zB ?_
  refine hK22 _ _ (wp_cond_false (zA hN rfl) (wp_skip (hK21 _ _ ?_)))
  exact hJ18 _ _ _ hN hd ⟨av15, bv15, (joinC (D.map DTab.t) f (colsOf f.tb t.cols)), (joinK (D.map DTab.t) f (kindsOf t.cols)), (zU hN rfl), (zU hN rfl), (zU hN rfl), rfl, rfl, zx, zx, ((@joinE_0 (D.map DTab.t) f (colsOf f.tb t.cols) (kindsOf t.cols) c31).1), hb, zx, hT, hR, htc, hfo, hfoR, hfw, hfwR, hfr, hfrR, hfi, hB5, hB9, hB13, (hc15.cast (by rw [(@joinE_0 (D.map DTab.t) f (colsOf f.tb t.cols) (kindsOf t.cols) c31).2.1]) (by rw [(@joinE_0 (D.map DTab.t) f (colsOf f.tb t.cols) (kindsOf t.cols) c31).2.1])), (hk15.cast (by rw [(@joinE_0 (D.map DTab.t) f (colsOf f.tb t.cols) (kindsOf t.cols) c31).2.2]) (by rw [(@joinE_0 (D.map DTab.t) f (colsOf f.tb t.cols) (kindsOf t.cols) c31).2.2]))⟩
 rintro a18 w18 hN18 hd18 ⟨av9, bv9, C9, K9, s18_4, s18_7, s18_8, hC9, hK9, hCl9, hKl9, hJ9, hb, zl_w18, hT, hR, htc, hfo, hfoR, hfw, hfwR, hfr, hfrR, hfi, hB5, hB9, hB13, hO19, hO20⟩
 have := hb.size
 refine zF fun K139 hK139 => ?_
 refine zH ?_
 refine zD rfl ?_
 refine zD rfl ?_
 refine zB ?_
 refine hK139 _ _ (zF fun K140 hK140 => ?_)
 refine zF fun K141 hK141 => ?_
 refine zH ?_
 refine zD rfl ?_
 refine zB ?_
 refine hK141 _ _ (wp_block ?_)
 refine loop_m (fun mz_ az_ w' => ∃ (i : Nat), mz_ = f.items.length - i ∧ (az_.tmps.getD 4 undef = (ptr b7 0)) ∧ (az_.tmps.getD 7 undef = av9) ∧ (az_.tmps.getD 8 undef = bv9) ∧ (az_.tmps.getD 19 undef = (.int .i64 ((i : Nat) : Int))) ∧ (az_.tmps.getD 17 undef = (.int .i64 ((aggsN (f.items.take i) : Nat) : Int))) ∧ (az_.tmps.getD 18 undef = (.int .i64 (((i - aggsN (f.items.take i)) : Nat) : Int))) ∧ (i ≤ f.items.length) ∧ (∀ j, j < i → (itemE C9 K9) (f.items.getD j default) = 0) ∧ (Below w.heap.size w w') ∧ (w18.heap.size ≤ w'.heap.size) ∧ (TsRd w' B tv D) ∧ (RdC w' 0 B 3 tv D.length (D.flatMap cellsT)) ∧ (RdC w' 0 B 3 cv t.cols.length (t.cols.flatMap cellsC)) ∧ (XsRd w' B f.ov f.on) ∧ (RdC w' 0 B 7 f.ov f.on.length (f.on.flatMap cellsX)) ∧ (XsRd w' B f.wv f.wh) ∧ (RdC w' 0 B 7 f.wv f.wh.length (f.wh.flatMap cellsX)) ∧ (XsRd w' B f.rv f.ord) ∧ (RdC w' 0 B 7 f.rv f.ord.length (f.ord.flatMap cellsX)) ∧ (RdC w' 0 B 3 f.iv f.items.length (f.items.flatMap cellsI)) ∧ (Bx w' b3 39 [tv, (.slice none 0 0)]) ∧ (Bx w' b7 45 [(.int .i64 f.kind), (.string (bs f.tb)), (.string (bs f.nm)), f.cv, f.gv, f.vv, f.iv, (.string (bs f.join)), f.ov, f.wv, f.rv, (.bool f.desc), nv]) ∧ (Bx w' b11 55 [(.string (bs f.tb)), cv, iv]) ∧ (Own w' w.heap.size 63 3 av9 C9.length (C9.flatMap cellsI)) ∧ (Own w' w.heap.size 3 1 bv9 K9.length (K9.map (Value.int .i64)))) _ hN18 hd18 ⟨0, rfl, (zL hN18 rfl s18_4), (zL hN18 rfl s18_7), (zL hN18 rfl s18_8), (zU hN18 rfl), (zU hN18 rfl).trans rfl, (zU hN18 rfl).trans rfl, (Nat.zero_le _), (fun _ h => absurd h (Nat.not_lt_zero _)), hb, (Nat.le_refl _), hT, hR, htc, hfo, hfoR, hfw, hfwR, hfr, hfrR, hfi, hB5, hB9, hB13, hO19, hO20⟩ ?_
 rintro _ a142 w142 hN142 hd142 ⟨i, rfl, s142_4, s142_7, s142_8, s142_19, s142_17, s142_18, hi, hall, hb, zl_w142, hT, hR, htc, hfo, hfoR, hfw, hfwR, hfr, hfrR, hfi, hB5, hB9, hB13, hO19, hO20⟩
 have := hb.size
 refine zF fun K143 hK143 => ?_
 refine zF fun K144 hK144 => ?_
 refine zH ?_
 refine zG (zC hN142 rfl s142_19) ?_
 refine zM fld45_6 (zC hN142 rfl s142_4) ?_
 refine zN (v := f.iv) one22 (zA hN142 rfl) (hB9.cell rfl) ?_
 refine op_len_rd Try.underlying22 (zA hN142 rfl) hfi ?_
 refine op_lss (zA hN142 rfl) (zA hN142 rfl) (fun c90 => ?_) (fun c90 => ?_)
 ·
  refine zB ?_
  refine hK144 _ _ (wp_cond_true (zA hN142 rfl) (wp_skip (hK143 _ _ (zF fun K145 hK145 => ?_))))
  refine wp_block ?_
  refine zF fun K146 hK146 => ?_
  refine zH ?_
  refine zM fld45_6 (zC hN142 rfl s142_4) ?_
  refine zN (v := f.iv) one22 (zA hN142 rfl) (hB9.cell rfl) ?_
  refine zG (zC hN142 rfl s142_19) ?_
  refine zh slt22 (zA hN142 rfl) hfi (zA hN142 rfl) zx zx ?_
  intro b147 o148 h0b147 h1b147 hc149
  refine zX (cs := [(.int .i64 (f.items.getD i default).agg), (.string (bs (f.items.getD i default).tb)), (.string (bs (f.items.getD i default).nm))]) agg63 rfl (zA hN142 rfl) (fun j u hu => hc149 j u (by have := (List.getElem?_eq_some_iff.1 hu).1; simpa using this) ((el_pi (i := i) zx zx) j u hu)) ?_
  refine op_alloc (cs := [(.int .i64 0), (.string (bs [])), (.string (bs []))]) zero63 rfl ?_
  intro w150 b151 lo_b151 hi_b151 hB153 E152
  have ne_b151_av9 : av9.ownBlock ≠ some b151 := fun hh => by have := (hO19.lt _ hh).2; omega
  have := E152.size
  have hT := hT.keep0 E152
  have hR := hR.keep0 E152
  have htc := htc.keep0 E152
  have hfo := hfo.keep0 E152
  have hfoR := hfoR.keep0 E152
  have hfw := hfw.keep0 E152
  have hfwR := hfwR.keep0 E152
  have hfr := hfr.keep0 E152
  have hfrR := hfrR.keep0 E152
  have hfi := hfi.keep0 E152
  have hO19 := hO19.keep0 E152
  have hO20 := hO20.keep0 E152
  obtain ⟨hB5, hB9, hB13⟩ := kb3 E152 hB5 hB9 hB13
  have hb := zP hb E152 hb.size
  have hB153_old := hB153
  refine zZ size63 (zA hN142 rfl) (zA hN142 rfl) rfl rfl hB153 rfl ?_
  intro w156 hB153 E157
  have := E157.size
  have hT := hT.keep E157 sR
  have hR := hR.keep E157 sR
  have htc := htc.keep E157 sR
  have hfo := hfo.keep E157 sR
  have hfoR := hfoR.keep E157 sR
  have hfw := hfw.keep E157 sR
  have hfwR := hfwR.keep E157 sR
  have hfr := hfr.keep E157 sR
  have hfrR := hfrR.keep E157 sR
  have hfi := hfi.keep E157 sR
  have hB5 := hB5.keep E157 (sN hB5 hB153_old)
  have hB9 := hB9.keep E157 (sN hB9 hB153_old)
  have hB13 := hB13.keep E157 (sN hB13 hB153_old)
  have hO19 := hO19.keep E157 (.inr ne_b151_av9)
  have hO20 := hO20.keepX hB153_old E157 zz
  have hb := below_step1 hb E157 hb.size zx
  refine zB ?_
  refine hK146 _ _ (seq_join1 (N := 189) (fun az_ w' => (az_.tmps.getD 4 undef = (ptr b7 0)) ∧ (az_.tmps.getD 7 undef = av9) ∧ (az_.tmps.getD 8 undef = bv9) ∧ (az_.tmps.getD 17 undef = (.int .i64 ((aggsN (f.items.take i) : Nat) : Int))) ∧ (az_.tmps.getD 18 undef = (.int .i64 (((i - aggsN (f.items.take i)) : Nat) : Int))) ∧ (az_.tmps.getD 19 undef = (.int .i64 ((i : Nat) : Int))) ∧ (az_.tmps.getD 20 undef = (ptr b151 0)) ∧ (¬ ((f.items.getD i default).agg < 0 ∨ 4 < (f.items.getD i default).agg ∨ ((f.items.getD i default).agg = 1 ∧ (f.items.getD i default).nm ≠ []))) ∧ (Below w.heap.size w w') ∧ (w156.heap.size ≤ w'.heap.size) ∧ (TsRd w' B tv D) ∧ (RdC w' 0 B 3 tv D.length (D.flatMap cellsT)) ∧ (RdC w' 0 B 3 cv t.cols.length (t.cols.flatMap cellsC)) ∧ (XsRd w' B f.ov f.on) ∧ (RdC w' 0 B 7 f.ov f.on.length (f.on.flatMap cellsX)) ∧ (XsRd w' B f.wv f.wh) ∧ (RdC w' 0 B 7 f.wv f.wh.length (f.wh.flatMap cellsX)) ∧ (XsRd w' B f.rv f.ord) ∧ (RdC w' 0 B 7 f.rv f.ord.length (f.ord.flatMap cellsX)) ∧ (RdC w' 0 B 3 f.iv f.items.length (f.items.flatMap cellsI)) ∧ (Bx w' b3 39 [tv, (.slice none 0 0)]) ∧ (Bx w' b7 45 [(.int .i64 f.kind), (.string (bs f.tb)), (.string (bs f.nm)), f.cv, f.gv, f.vv, f.iv, (.string (bs f.join)), f.ov, f.wv, f.rv, (.bool f.desc), nv]) ∧ (Bx w' b11 55 [(.string (bs f.tb)), cv, iv]) ∧ (Own w' w.heap.size 63 3 av9 C9.length (C9.flatMap cellsI)) ∧ (Own w' w.heap.size 3 1 bv9 K9.length (K9.map (Value.int .i64))) ∧ (Bx w' b151 63 [(.int .i64 (f.items.getD i default).agg), (.string (bs (f.items.getD i default).tb)), (.string (bs (f.items.getD i default).nm))])) (fun hJ158 => ?_) ?_)
  ·
   refine zF fun K159 hK159 => ?_
   refine zF fun K160 hK160 => ?_
   refine zH ?_
   refine zM fld63_0 (zA hN142 rfl) ?_
   refine zN (v := (Value.int .i64 (f.items.getD i default).agg)) one3 (zA hN142 rfl) (hB153.cell rfl) ?_
   refine op_lss (zA hN142 rfl) rfl (fun c100 => ?_) (fun c100 => ?_)
   ·
    refine zG (zA hN142 rfl) ?_
    refine zR (j := 3) (dj := 101) (b := false) rfl rfl rfl (zA hN142 rfl) rfl rfl ?_
    refine zR (j := 3) (dj := 101) (b := false) rfl rfl rfl (zA hN142 rfl) rfl rfl ?_
    refine zR (j := 3) (dj := 101) (b := false) rfl rfl rfl (zA hN142 rfl) rfl rfl ?_
    refine zc (zA hN142 rfl) rfl ?_
    refine zG (zA hN142 rfl) ?_
    refine zR (j := 8) (dj := 106) (b := false) rfl rfl rfl (zA hN142 rfl) rfl rfl ?_
    refine zR (j := 8) (dj := 106) (b := false) rfl rfl rfl (zA hN142 rfl) rfl rfl ?_
    refine zR (j := 8) (dj := 106) (b := false) rfl rfl rfl (zA hN142 rfl) rfl rfl ?_
    refine zR (j := 8) (dj := 106) (b := false) rfl rfl rfl (zA hN142 rfl) rfl rfl ?_
    refine g_undef (j := 12) (dj := 110) (b := true) rfl rfl rfl (zA hN142 rfl) rfl ?_
    refine g_undef (j := 12) (dj := 110) (b := true) rfl rfl rfl (zA hN142 rfl) rfl ?_
    refine g_undef (j := 12) (dj := 110) (b := true) rfl rfl rfl (zA hN142 rfl) rfl ?_
    refine zR (j := 8) (dj := 106) (b := false) rfl rfl rfl (zA hN142 rfl) rfl rfl ?_
    refine zc (zA hN142 rfl) rfl ?_
    refine zB ?_
    refine hK160 _ _ (wp_cond_true (zA hN142 rfl) (zF fun K161 hK161 => ?_))
    refine zH ?_
    refine zD rfl ?_
    refine zB ?_
    refine hK161 _ _ (wp_ret (zO (zb (zO (zO (zb (zO ( ?_))))))))
    refine ret1 rfl hd142 (zA hN142 rfl) ⟨_, rfl, ?_⟩
    have e8 : selR (D.map DTab.t) t f = selE f C9 K9 := by unfold selR; rw [if_neg (fun g => g hJ9), ← hC9, ← hK9]
    have h8 : (itemE C9 K9) (f.items.getD i default) = 1 := by unfold itemE; rw [if_pos zx]
    have h7 : firstE (f.items.map (itemE C9 K9)) = 1 := (firstE_hit zx hall (by rw [h8]; first | exact c139 | decide)).trans h8
    have e9 : selE f C9 K9 = 1 := (selE_1 (by rw [h7]; first | exact c139 | decide)).trans h7
    rw [e8, e9]; exact ⟨hb, rfl⟩
   refine zG (zA hN142 rfl) ?_
   refine zS (j := 3) (dj := 101) (b := false) rfl rfl rfl (zA hN142 rfl) ?_
   refine zM fld63_0 (zA hN142 rfl) ?_
   refine zS (j := 3) (dj := 101) (b := false) rfl rfl rfl (zA hN142 rfl) ?_
   refine zN (v := (Value.int .i64 (f.items.getD i default).agg)) one3 (zA hN142 rfl) (hB153.cell rfl) ?_
   refine zS (j := 3) (dj := 101) (b := false) rfl rfl rfl (zA hN142 rfl) ?_
   refine op_gtr (zA hN142 rfl) rfl (fun c104 => ?_) (fun c104 => ?_)
   ·
    refine zd (zA hN142 rfl) (zA hN142 rfl) ?_
    refine zG (zA hN142 rfl) ?_
    refine zR (j := 8) (dj := 106) (b := false) rfl rfl rfl (zA hN142 rfl) rfl rfl ?_
    refine zR (j := 8) (dj := 106) (b := false) rfl rfl rfl (zA hN142 rfl) rfl rfl ?_
    refine zR (j := 8) (dj := 106) (b := false) rfl rfl rfl (zA hN142 rfl) rfl rfl ?_
    refine zR (j := 8) (dj := 106) (b := false) rfl rfl rfl (zA hN142 rfl) rfl rfl ?_
    refine g_undef (j := 12) (dj := 110) (b := true) rfl rfl rfl (zA hN142 rfl) rfl ?_
    refine g_undef (j := 12) (dj := 110) (b := true) rfl rfl rfl (zA hN142 rfl) rfl ?_
    refine g_undef (j := 12) (dj := 110) (b := true) rfl rfl rfl (zA hN142 rfl) rfl ?_
    refine zR (j := 8) (dj := 106) (b := false) rfl rfl rfl (zA hN142 rfl) rfl rfl ?_
    refine zc (zA hN142 rfl) rfl ?_
    refine zB ?_
    refine hK160 _ _ (wp_cond_true (zA hN142 rfl) (zF fun K162 hK162 => ?_))
    refine zH ?_
    refine zD rfl ?_
    refine zB ?_
    refine hK162 _ _ (wp_ret (zO (zb (zO (zO (zb (zO ( ?_))))))))
    refine ret1 rfl hd142 (zA hN142 rfl) ⟨_, rfl, ?_⟩
    have e8 : selR (D.map DTab.t) t f = selE f C9 K9 := by unfold selR; rw [if_neg (fun g => g hJ9), ← hC9, ← hK9]
    have h8 : (itemE C9 K9) (f.items.getD i default) = 1 := by unfold itemE; rw [if_pos zx]
    have h7 : firstE (f.items.map (itemE C9 K9)) = 1 := (firstE_hit zx hall (by rw [h8]; first | exact c139 | decide)).trans h8
    have e9 : selE f C9 K9 = 1 := (selE_1 (by rw [h7]; first | exact c139 | decide)).trans h7
    rw [e8, e9]; exact ⟨hb, rfl⟩
   refine zd (zA hN142 rfl) (zA hN142 rfl) ?_
   refine zG (zA hN142 rfl) ?_
   refine zS (j := 8) (dj := 106) (b := false) rfl rfl rfl (zA hN142 rfl) ?_
   refine zM fld63_0 (zA hN142 rfl) ?_
   refine zS (j := 8) (dj := 106) (b := false) rfl rfl rfl (zA hN142 rfl) ?_
   refine zN (v := (Value.int .i64 (f.items.getD i default).agg)) one3 (zA hN142 rfl) (hB153.cell rfl) ?_
   refine zS (j := 8) (dj := 106) (b := false) rfl rfl rfl (zA hN142 rfl) ?_
   refine op_eql (zA hN142 rfl) rfl (fun c109 => ?_) (fun c109 => ?_)
   ·
    refine zS (j := 8) (dj := 106) (b := false) rfl rfl rfl (zA hN142 rfl) ?_
    refine zG (zA hN142 rfl) ?_
    refine zS (j := 12) (dj := 110) (b := true) rfl rfl rfl (zA hN142 rfl) ?_
    refine zM fld63_2 (zA hN142 rfl) ?_
    refine zS (j := 12) (dj := 110) (b := true) rfl rfl rfl (zA hN142 rfl) ?_
    refine zN (v := (Value.string (bs (f.items.getD i default).nm))) one9 (zA hN142 rfl) (hB153.cell rfl) ?_
    refine zS (j := 12) (dj := 110) (b := true) rfl rfl rfl (zA hN142 rfl) ?_
    refine op_sneq (zA hN142 rfl) rfl (fun c113 => ?_) (fun c113 => ?_)
    ·
     refine zS (j := 8) (dj := 106) (b := false) rfl rfl rfl (zA hN142 rfl) ?_
     refine zc (zA hN142 rfl) (zA hN142 rfl) ?_
     refine zd (zA hN142 rfl) (zA hN142 rfl) ?_
     refine zB ?_
     refine hK160 _ _ (wp_cond_true (zA hN142 rfl) (zF fun K163 hK163 => ?_))
     refine zH ?_
     refine zD rfl ?_
     refine zB ?_
     refine hK163 _ _ (wp_ret (zO (zb (zO (zO (zb (zO ( ?_))))))))
     refine ret1 rfl hd142 (zA hN142 rfl) ⟨_, rfl, ?_⟩
     have e8 : selR (D.map DTab.t) t f = selE f C9 K9 := by unfold selR; rw [if_neg (fun g => g hJ9), ← hC9, ← hK9]
     have h8 : (itemE C9 K9) (f.items.getD i default) = 1 := by unfold itemE; rw [if_pos (.inr (.inr ⟨c109, c113⟩))]
     have h7 : firstE (f.items.map (itemE C9 K9)) = 1 := (firstE_hit zx hall (by rw [h8]; first | exact c139 | decide)).trans h8
     have e9 : selE f C9 K9 = 1 := (selE_1 (by rw [h7]; first | exact c139 | decide)).trans h7
     rw [e8, e9]; exact ⟨hb, rfl⟩
    refine zS (j := 8) (dj := 106) (b := false) rfl rfl rfl (zA hN142 rfl) ?_
    refine zc (zA hN142 rfl) (zA hN142 rfl) ?_
    refine zd (zA hN142 rfl) (zA hN142 rfl) ?_
    refine zB ?_
    refine hK160 _ _ (wp_cond_false (zA hN142 rfl) (wp_skip (hK159 _ _ ?_)))
    exact hJ158 _ _ _ hN142 hd142 ⟨(zL hN142 rfl s142_4), (zL hN142 rfl s142_7), (zL hN142 rfl s142_8), (zL hN142 rfl s142_17), (zL hN142 rfl s142_18), (zL hN142 rfl s142_19), (zU hN142 rfl), (fun g => g.elim (fun g => by omega) fun g => g.elim (fun g => by omega) fun g => g.2 c113), hb, zx, hT, hR, htc, hfo, hfoR, hfw, hfwR, hfr, hfrR, hfi, hB5, hB9, hB13, hO19, hO20, hB153⟩
   refine zS (j := 8) (dj := 106) (b := false) rfl rfl rfl (zA hN142 rfl) ?_
   refine zG (zA hN142 rfl) ?_
   refine zR (j := 12) (dj := 110) (b := true) rfl rfl rfl (zA hN142 rfl) rfl rfl ?_
   refine zR (j := 12) (dj := 110) (b := true) rfl rfl rfl (zA hN142 rfl) rfl rfl ?_
   refine zR (j := 12) (dj := 110) (b := true) rfl rfl rfl (zA hN142 rfl) rfl rfl ?_
   refine zS (j := 8) (dj := 106) (b := false) rfl rfl rfl (zA hN142 rfl) ?_
   refine zd (zA hN142 rfl) rfl ?_
   refine zd (zA hN142 rfl) (zA hN142 rfl) ?_
   refine zB ?_
   refine hK160 _ _ (wp_cond_false (zA hN142 rfl) (wp_skip (hK159 _ _ ?_)))
   exact hJ158 _ _ _ hN142 hd142 ⟨(zL hN142 rfl s142_4), (zL hN142 rfl s142_7), (zL hN142 rfl s142_8), (zL hN142 rfl s142_17), (zL hN142 rfl s142_18), (zL hN142 rfl s142_19), (zU hN142 rfl), (fun g => g.elim (fun g => by omega) fun g => g.elim (fun g => by omega) fun g => c109 g.1), hb, zx, hT, hR, htc, hfo, hfoR, hfw, hfwR, hfr, hfrR, hfi, hB5, hB9, hB13, hO19, hO20, hB153⟩
  rintro a158 w158 hN158 hd158 ⟨s158_4, s158_7, s158_8, s158_17, s158_18, s158_19, s158_20, hn1, hb, zl_w158, hT, hR, htc, hfo, hfoR, hfw, hfwR, hfr, hfrR, hfi, hB5, hB9, hB13, hO19, hO20, hB153⟩
  have := hb.size
  refine seq_join1 (N := 189) (fun az_ w' => ∃ (a9 p9 : Nat), (az_.tmps.getD 4 undef = (ptr b7 0)) ∧ (az_.tmps.getD 7 undef = av9) ∧ (az_.tmps.getD 8 undef = bv9) ∧ (az_.tmps.getD 19 undef = (.int .i64 ((i : Nat) : Int))) ∧ (az_.tmps.getD 20 undef = (ptr b151 0)) ∧ (az_.tmps.getD 17 undef = (.int .i64 ((a9 : Nat) : Int))) ∧ (az_.tmps.getD 18 undef = (.int .i64 ((p9 : Nat) : Int))) ∧ (a9 = aggsN (f.items.take (i + 1))) ∧ (p9 = i + 1 - aggsN (f.items.take (i + 1))) ∧ (Below w.heap.size w w') ∧ (w158.heap.size ≤ w'.heap.size) ∧ (TsRd w' B tv D) ∧ (RdC w' 0 B 3 tv D.length (D.flatMap cellsT)) ∧ (RdC w' 0 B 3 cv t.cols.length (t.cols.flatMap cellsC)) ∧ (XsRd w' B f.ov f.on) ∧ (RdC w' 0 B 7 f.ov f.on.length (f.on.flatMap cellsX)) ∧ (XsRd w' B f.wv f.wh) ∧ (RdC w' 0 B 7 f.wv f.wh.length (f.wh.flatMap cellsX)) ∧ (XsRd w' B f.rv f.ord) ∧ (RdC w' 0 B 7 f.rv f.ord.length (f.ord.flatMap cellsX)) ∧ (RdC w' 0 B 3 f.iv f.items.length (f.items.flatMap cellsI)) ∧ (Bx w' b3 39 [tv, (.slice none 0 0)]) ∧ (Bx w' b7 45 [(.int .i64 f.kind), (.string (bs f.tb)), (.string (bs f.nm)), f.cv, f.gv, f.vv, f.iv, (.string (bs f.join)), f.ov, f.wv, f.rv, (.bool f.desc), nv]) ∧ (Bx w' b11 55 [(.string (bs f.tb)), cv, iv]) ∧ (Own w' w.heap.size 63 3 av9 C9.length (C9.flatMap cellsI)) ∧ (Own w' w.heap.size 3 1 bv9 K9.length (K9.map (Value.int .i64))) ∧ (Bx w' b151 63 [(.int .i64 (f.items.getD i default).agg), (.string (bs (f.items.getD i default).tb)), (.string (bs (f.items.getD i default).nm))])) (fun hJ164 => ?_) ?_
  ·
   refine zF fun K165 hK165 => ?_
   refine zF fun K166 hK166 => ?_
   refine zH ?_
   have hag := aggs_le (f.items.take i)
   rw [List.length_take] at hag
   refine zM fld63_0 (zC hN158 rfl s158_20) ?_
   refine zN (v := (Value.int .i64 (f.items.getD i default).agg)) one3 (zA hN158 rfl) (hB153.cell rfl) ?_
   refine op_eql (zA hN158 rfl) rfl (fun c118 => ?_) (fun c118 => ?_)
   ·
    refine zB ?_
    refine hK166 _ _ (wp_cond_true (zA hN158 rfl) (zH ?_))
    refine zG (zC hN158 rfl s158_18) ?_
    refine op_add (zA hN158 rfl) rfl (add64 zx) ?_
    refine zD (zA hN158 rfl) ?_
    refine zB ?_
    refine hK165 _ _ ?_
    exact hJ164 _ _ _ hN158 hd158 ⟨(aggsN (f.items.take i)), (i - aggsN (f.items.take i) + 1), (zL hN158 rfl s158_4), (zL hN158 rfl s158_7), (zL hN158 rfl s158_8), (zL hN158 rfl s158_19), (zL hN158 rfl s158_20), (zL hN158 rfl s158_17), (zU hN158 rfl).trans (congrArg (Value.int .i64) zx), (aggs_f zx c118).symm, (by rw [aggs_f zx c118]; omega), hb, zx, hT, hR, htc, hfo, hfoR, hfw, hfwR, hfr, hfrR, hfi, hB5, hB9, hB13, hO19, hO20, hB153⟩
   refine zB ?_
   refine hK166 _ _ (wp_cond_false (zA hN158 rfl) (zH ?_))
   refine zG (zC hN158 rfl s158_17) ?_
   refine op_add (zA hN158 rfl) rfl (add64 zx) ?_
   refine zD (zA hN158 rfl) ?_
   refine zB ?_
   refine hK165 _ _ ?_
   exact hJ164 _ _ _ hN158 hd158 ⟨(aggsN (f.items.take i) + 1), (i - aggsN (f.items.take i)), (zL hN158 rfl s158_4), (zL hN158 rfl s158_7), (zL hN158 rfl s158_8), (zL hN158 rfl s158_19), (zL hN158 rfl s158_20), (zU hN158 rfl).trans (congrArg (Value.int .i64) zx), (zL hN158 rfl s158_18), (aggs_t zx c118).symm, (by rw [aggs_t zx c118]; omega), hb, zx, hT, hR, htc, hfo, hfoR, hfw, hfwR, hfr, hfrR, hfi, hB5, hB9, hB13, hO19, hO20, hB153⟩
  rintro a164 w164 hN164 hd164 ⟨a9, p9, s164_4, s164_7, s164_8, s164_19, s164_20, s164_17, s164_18, ha9, hp9, hb, zl_w164, hT, hR, htc, hfo, hfoR, hfw, hfwR, hfr, hfrR, hfi, hB5, hB9, hB13, hO19, hO20, hB153⟩
  have := hb.size
  refine zF fun K167 hK167 => ?_
  refine zF fun K168 hK168 => ?_
  refine zH ?_
  refine zM fld63_0 (zC hN164 rfl s164_20) ?_
  refine zN (v := (Value.int .i64 (f.items.getD i default).agg)) one3 (zA hN164 rfl) (hB153.cell rfl) ?_
  refine op_eql (zA hN164 rfl) rfl (fun c125 => ?_) (fun c125 => ?_)
  ·
   refine zB ?_
   refine hK168 _ _ (wp_cond_true (zA hN164 rfl) (wp_exit (then_exit (blk_hit ?_))))
   refine hK145 _ _ (zH ?_)
   refine zG (zC hN164 rfl s164_19) ?_
   refine op_add (zA hN164 rfl) rfl (add64 zx) ?_
   refine zD (zA hN164 rfl) ?_
   refine zB ?_
   -- round 90T 125T
   exact zg _ hN164 hd164 ⟨(i + 1), rfl, (zL hN164 rfl s164_4), (zL hN164 rfl s164_7), (zL hN164 rfl s164_8), (zU hN164 rfl).trans (congrArg (Value.int .i64) zx), (zL hN164 rfl s164_17).trans (congrArg (Value.int .i64) zx), (zL hN164 rfl s164_18).trans (congrArg (Value.int .i64) zx), zx, (all_next hall (show (itemE C9 K9) (f.items.getD i default) = 0 from by unfold itemE; rw [if_neg hn1]; rw [if_pos c125])), hb, zx, hT, hR, htc, hfo, hfoR, hfw, hfwR, hfr, hfrR, hfi, hB5, hB9, hB13, hO19, hO20⟩ zx
  refine zB ?_
  refine hK168 _ _ (wp_cond_false (zA hN164 rfl) (wp_skip (hK167 _ _ (zF fun K169 hK169 => ?_))))
  refine zH ?_
  refine zG (zC hN164 rfl s164_7) ?_
  refine zG (zC hN164 rfl s164_8) ?_
  refine op_len_rd Try.underlying23 (zA hN164 rfl) hO20.rdw ?_
  refine zM fld63_1 (zC hN164 rfl s164_20) ?_
  refine zN (v := (Value.string (bs (f.items.getD i default).tb))) one9 (zA hN164 rfl) (hB153.cell rfl) ?_
  refine zM fld63_2 (zC hN164 rfl s164_20) ?_
  refine zN (v := (Value.string (bs (f.items.getD i default).nm))) one9 (zA hN164 rfl) (hB153.cell rfl) ?_
  refine zf (pv := [(2, (.string (bs (f.items.getD i default).tb))), (3, (.string (bs (f.items.getD i default).nm)))]) (v := (Value.agg #[(.int .i64 0), (.int .i64 0), (.int .i64 0), (.string (bs [])), (.string (bs (f.items.getD i default).tb)), (.string (bs (f.items.getD i default).nm)), (.slice none 0 0)])) ⟨rfl, (zA hN164 rfl), ⟨rfl, (zA hN164 rfl), trivial⟩⟩ zy ?_
  refine zj ok34 (at_lit (C := C9) (n := (K9.length)) ((f.items.getD i default).tb) ((f.items.getD i default).nm) zx zx (hO19.rdw.mono (Nat.zero_le _) zx)) ⟨(zA hN164 rfl), ⟨(zA hN164 rfl), ⟨(zA hN164 rfl), trivial⟩⟩⟩ ?_
  rintro _ w170 ⟨E171, rfl⟩
  have E171 := zQ E171
  have := E171.size
  have hT := hT.keep0 E171
  have hR := hR.keep0 E171
  have htc := htc.keep0 E171
  have hfo := hfo.keep0 E171
  have hfoR := hfoR.keep0 E171
  have hfw := hfw.keep0 E171
  have hfwR := hfwR.keep0 E171
  have hfr := hfr.keep0 E171
  have hfrR := hfrR.keep0 E171
  have hfi := hfi.keep0 E171
  have hO19 := hO19.keep0 E171
  have hO20 := hO20.keep0 E171
  obtain ⟨hB5, hB9, hB13, hB153⟩ := kb4 E171 hB5 hB9 hB13 hB153
  have hb := zP hb E171 hb.size
  refine zG (zA hN164 rfl) ?_
  refine zW (zA hN164 rfl) rfl ?_
  refine zW (zA hN164 rfl) rfl ?_
  refine zD (zA hN164 rfl) ?_
  refine zD (zA hN164 rfl) ?_
  refine zB ?_
  refine hK169 _ _ (zF fun K172 hK172 => ?_)
  refine zF fun K173 hK173 => ?_
  refine zH ?_
  refine zG (zA hN164 rfl) ?_
  refine op_neq (zA hN164 rfl) rfl (fun c139 => ?_) (fun c139 => ?_)
  ·
   refine zB ?_
   refine hK173 _ _ (wp_cond_true (zA hN164 rfl) (zF fun K174 hK174 => ?_))
   refine zH ?_
   refine zG (zA hN164 rfl) ?_
   refine zD (zA hN164 rfl) ?_
   refine zB ?_
   refine hK174 _ _ (wp_ret (zO (zb (zO (zO (zb (zO ( ?_))))))))
   refine ret1 rfl hd164 (zA hN164 rfl) ⟨_, rfl, ?_⟩
   have e8 : selR (D.map DTab.t) t f = selE f C9 K9 := by unfold selR; rw [if_neg (fun g => g hJ9), ← hC9, ← hK9]
   have h8 : (itemE C9 K9) (f.items.getD i default) = (atX C9 K9.length (f.items.getD i default).tb (f.items.getD i default).nm).2 := by unfold itemE; rw [if_neg hn1]; rw [if_neg c125, if_pos (by rw [col_err]; exact (show (atX C9 K9.length (f.items.getD i default).tb (f.items.getD i default).nm).2 ≠ 0 from c139)), col_err]
   have h7 : firstE (f.items.map (itemE C9 K9)) = (atX C9 K9.length (f.items.getD i default).tb (f.items.getD i default).nm).2 := (firstE_hit zx hall (by rw [h8]; first | exact c139 | decide)).trans h8
   have e9 : selE f C9 K9 = (atX C9 K9.length (f.items.getD i default).tb (f.items.getD i default).nm).2 := (selE_1 (by rw [h7]; first | exact c139 | decide)).trans h7
   rw [e8, e9]; exact ⟨hb, rfl⟩
  refine zB ?_
  refine hK173 _ _ (wp_cond_false (zA hN164 rfl) (wp_skip (hK172 _ _ (zF fun K175 hK175 => ?_))))
  refine zH ?_
  refine zM fld63_0 (zC hN164 rfl s164_20) ?_
  have h139 : (atX C9 K9.length (f.items.getD i default).tb (f.items.getD i default).nm).2 = 0 := c139
  refine zN (v := (Value.int .i64 (f.items.getD i default).agg)) one3 (zA hN164 rfl) (hB153.cell rfl) ?_
  refine op_eql (zA hN164 rfl) rfl (fun c143 => ?_) (fun c143 => ?_)
  ·
   refine zG (zA hN164 rfl) ?_
   obtain ⟨k9, hk9, hk1, hk2, hk3⟩ := atX_ok (C := C9) (n := K9.length) (tb := (f.items.getD i default).tb) (nm := (f.items.getD i default).nm) h139
   refine zS (j := 3) (dj := 144) (b := true) rfl rfl rfl (zA hN164 rfl) ?_
   refine zG (zC hN164 rfl s164_8) ?_
   refine zS (j := 3) (dj := 144) (b := true) rfl rfl rfl (zA hN164 rfl) ?_
   refine zG (zA hN164 rfl) ?_
   refine zS (j := 3) (dj := 144) (b := true) rfl rfl rfl (zA hN164 rfl) ?_
   refine zh slt23 (zA hN164 rfl) hO20.rdw (zA hN164 rfl) zx zx ?_
   intro b176 o177 h0b176 h1b176 hc178
   refine zS (j := 3) (dj := 144) (b := true) rfl rfl rfl (zA hN164 rfl) ?_
   refine zN (v := (Value.int .i64 (K9.getD (atX C9 (K9.length) ((f.items.getD i default).tb) ((f.items.getD i default).nm)).1.toNat 0))) one3 (zA hN164 rfl) (by have := hc178 0 (.int .i64 (K9.getD (atX C9 (K9.length) ((f.items.getD i default).tb) ((f.items.getD i default).nm)).1.toNat 0)) zz (el_i64 (i := (atX C9 (K9.length) ((f.items.getD i default).tb) ((f.items.getD i default).nm)).1.toNat) zx zx); simpa using this) ?_
   refine zS (j := 3) (dj := 144) (b := true) rfl rfl rfl (zA hN164 rfl) ?_
   refine op_eql (zA hN164 rfl) rfl (fun c149 => ?_) (fun c149 => ?_)
   ·
    refine zc (zA hN164 rfl) (zA hN164 rfl) ?_
    refine zB ?_
    refine hK175 _ _ (wp_cond_true (zA hN164 rfl) (zF fun K179 hK179 => ?_))
    refine zH ?_
    refine zD rfl ?_
    refine zB ?_
    refine hK179 _ _ (wp_ret (zb (zO (zO (zb (zO ( ?_)))))))
    refine ret1 rfl hd164 (zA hN164 rfl) ⟨_, rfl, ?_⟩
    have e8 : selR (D.map DTab.t) t f = selE f C9 K9 := by unfold selR; rw [if_neg (fun g => g hJ9), ← hC9, ← hK9]
    have h8 : (itemE C9 K9) (f.items.getD i default) = 11 := by unfold itemE; rw [if_neg hn1]; rw [if_neg c125, if_neg (fun g => g (by rw [col_err]; exact h139))]; rw [if_pos ⟨c143, by rw [col_val h139]; exact c149⟩]
    have h7 : firstE (f.items.map (itemE C9 K9)) = 11 := (firstE_hit zx hall (by rw [h8]; first | exact c139 | decide)).trans h8
    have e9 : selE f C9 K9 = 11 := (selE_1 (by rw [h7]; first | exact c139 | decide)).trans h7
    rw [e8, e9]; exact ⟨hb, rfl⟩
   refine zc (zA hN164 rfl) (zA hN164 rfl) ?_
   refine zB ?_
   refine hK175 _ _ (wp_cond_false (zA hN164 rfl) (wp_skip (hK145 _ _ (zH ?_))))
   refine zG (zC hN164 rfl s164_19) ?_
   refine op_add (zA hN164 rfl) rfl (add64 zx) ?_
   refine zD (zA hN164 rfl) ?_
   refine zB ?_
   -- round 90T 125F 139F 143T 149F
   exact zg _ hN164 hd164 ⟨(i + 1), rfl, (zL hN164 rfl s164_4), (zL hN164 rfl s164_7), (zL hN164 rfl s164_8), (zU hN164 rfl).trans (congrArg (Value.int .i64) zx), (zL hN164 rfl s164_17).trans (congrArg (Value.int .i64) zx), (zL hN164 rfl s164_18).trans (congrArg (Value.int .i64) zx), zx, (all_next hall (show (itemE C9 K9) (f.items.getD i default) = 0 from by unfold itemE; rw [if_neg hn1]; rw [if_neg c125, if_neg (fun g => g (by rw [col_err]; exact h139))]; rw [if_neg (fun g => c149 (by rw [← col_val h139]; exact g.2))])), hb, zx, hT, hR, htc, hfo, hfoR, hfw, hfwR, hfr, hfrR, hfi, hB5, hB9, hB13, hO19, hO20⟩ zx
  refine zG (zA hN164 rfl) ?_
  obtain ⟨k9, hk9, hk1, hk2, hk3⟩ := atX_ok (C := C9) (n := K9.length) (tb := (f.items.getD i default).tb) (nm := (f.items.getD i default).nm) h139
  refine zR (j := 3) (dj := 144) (b := true) rfl rfl rfl (zA hN164 rfl) rfl rfl ?_
  refine zR (j := 3) (dj := 144) (b := true) rfl rfl rfl (zA hN164 rfl) rfl rfl ?_
  refine zR (j := 3) (dj := 144) (b := true) rfl rfl rfl (zA hN164 rfl) rfl rfl ?_
  refine zR (j := 3) (dj := 144) (b := true) rfl rfl rfl (zA hN164 rfl) rfl rfl ?_
  refine zR (j := 3) (dj := 144) (b := true) rfl rfl rfl (zA hN164 rfl) rfl rfl ?_
  refine zd (zA hN164 rfl) rfl ?_
  refine zB ?_
  refine hK175 _ _ (wp_cond_false (zA hN164 rfl) (wp_skip (hK145 _ _ (zH ?_))))
  refine zG (zC hN164 rfl s164_19) ?_
  refine op_add (zA hN164 rfl) rfl (add64 zx) ?_
  refine zD (zA hN164 rfl) ?_
  refine zB ?_
  -- round 90T 125F 139F 143F
  exact zg _ hN164 hd164 ⟨(i + 1), rfl, (zL hN164 rfl s164_4), (zL hN164 rfl s164_7), (zL hN164 rfl s164_8), (zU hN164 rfl).trans (congrArg (Value.int .i64) zx), (zL hN164 rfl s164_17).trans (congrArg (Value.int .i64) zx), (zL hN164 rfl s164_18).trans (congrArg (Value.int .i64) zx), zx, (all_next hall (show (itemE C9 K9) (f.items.getD i default) = 0 from by unfold itemE; rw [if_neg hn1]; rw [if_neg c125, if_neg (fun g => g (by rw [col_err]; exact h139))]; rw [if_neg (fun g => c143 g.1)])), hb, zx, hT, hR, htc, hfo, hfoR, hfw, hfwR, hfr, hfrR, hfi, hB5, hB9, hB13, hO19, hO20⟩ zx
 refine zB ?_
 refine hK144 _ _ (wp_cond_false (zA hN142 rfl) (wp_exit (then_exit (then_exit (blk_hit ?_)))))
 refine hK140 _ _ (zF fun K180 hK180 => ?_)
 refine zF fun K181 hK181 => ?_
 refine zH ?_
 have hag := aggs_le (f.items.take i)
 rw [List.length_take] at hag
 refine zG (zC hN142 rfl s142_17) ?_
 refine op_gtr (zA hN142 rfl) rfl (fun c152 => ?_) (fun c152 => ?_)
 ·
  refine zG (zA hN142 rfl) ?_
  refine zS (j := 2) (dj := 153) (b := true) rfl rfl rfl (zA hN142 rfl) ?_
  refine zG (zC hN142 rfl s142_18) ?_
  refine zS (j := 2) (dj := 153) (b := true) rfl rfl rfl (zA hN142 rfl) ?_
  refine op_gtr (zA hN142 rfl) rfl (fun c155 => ?_) (fun c155 => ?_)
  ·
   refine zS (j := 2) (dj := 153) (b := true) rfl rfl rfl (zA hN142 rfl) ?_
   refine zG (zA hN142 rfl) ?_
   refine zR (j := 5) (dj := 156) (b := false) rfl rfl rfl (zA hN142 rfl) rfl rfl ?_
   refine zR (j := 5) (dj := 156) (b := false) rfl rfl rfl (zA hN142 rfl) rfl rfl ?_
   refine zR (j := 5) (dj := 156) (b := false) rfl rfl rfl (zA hN142 rfl) rfl rfl ?_
   refine zR (j := 5) (dj := 156) (b := false) rfl rfl rfl (zA hN142 rfl) rfl rfl ?_
   refine zS (j := 2) (dj := 153) (b := true) rfl rfl rfl (zA hN142 rfl) ?_
   refine zc (zA hN142 rfl) rfl ?_
   refine zc (zA hN142 rfl) (zA hN142 rfl) ?_
   refine zB ?_
   refine hK181 _ _ (wp_cond_true (zA hN142 rfl) (zF fun K182 hK182 => ?_))
   refine zH ?_
   refine zD rfl ?_
   refine zB ?_
   refine hK182 _ _ (wp_ret (zO ( ?_)))
   refine ret1 rfl hd142 (zA hN142 rfl) ⟨_, rfl, ?_⟩
   have e8 : selR (D.map DTab.t) t f = selE f C9 K9 := by unfold selR; rw [if_neg (fun g => g hJ9), ← hC9, ← hK9]
   have h7 : firstE (f.items.map (itemE C9 K9)) = 0 := firstE_none zx hall
   have hag9 : aggsN (f.items.take i) = aggsN f.items := by rw [show f.items.take i = f.items from List.take_of_length_le zx]
   have e9 : selE f C9 K9 = 11 := selE_2 h7 zx
   rw [e8, e9]; exact ⟨hb, rfl⟩
  refine zS (j := 2) (dj := 153) (b := true) rfl rfl rfl (zA hN142 rfl) ?_
  refine zG (zA hN142 rfl) ?_
  refine zS (j := 5) (dj := 156) (b := false) rfl rfl rfl (zA hN142 rfl) ?_
  refine zM fld45_10 (zC hN142 rfl s142_4) ?_
  refine zS (j := 5) (dj := 156) (b := false) rfl rfl rfl (zA hN142 rfl) ?_
  refine zN (v := f.rv) one26 (zA hN142 rfl) (hB9.cell rfl) ?_
  refine zS (j := 5) (dj := 156) (b := false) rfl rfl rfl (zA hN142 rfl) ?_
  refine op_len_rd Try.underlying26 (zA hN142 rfl) hfrR ?_
  refine zS (j := 5) (dj := 156) (b := false) rfl rfl rfl (zA hN142 rfl) ?_
  refine op_gtr (zA hN142 rfl) rfl (fun c160 => ?_) (fun c160 => ?_)
  ·
   refine zS (j := 2) (dj := 153) (b := true) rfl rfl rfl (zA hN142 rfl) ?_
   refine zd (zA hN142 rfl) (zA hN142 rfl) ?_
   refine zc (zA hN142 rfl) (zA hN142 rfl) ?_
   refine zB ?_
   refine hK181 _ _ (wp_cond_true (zA hN142 rfl) (zF fun K183 hK183 => ?_))
   refine zH ?_
   refine zD rfl ?_
   refine zB ?_
   refine hK183 _ _ (wp_ret (zO ( ?_)))
   refine ret1 rfl hd142 (zA hN142 rfl) ⟨_, rfl, ?_⟩
   have e8 : selR (D.map DTab.t) t f = selE f C9 K9 := by unfold selR; rw [if_neg (fun g => g hJ9), ← hC9, ← hK9]
   have h7 : firstE (f.items.map (itemE C9 K9)) = 0 := firstE_none zx hall
   have hag9 : aggsN (f.items.take i) = aggsN f.items := by rw [show f.items.take i = f.items from List.take_of_length_le zx]
   have e9 : selE f C9 K9 = 11 := selE_2 h7 zx
   rw [e8, e9]; exact ⟨hb, rfl⟩
  refine zS (j := 2) (dj := 153) (b := true) rfl rfl rfl (zA hN142 rfl) ?_
  refine zd (zA hN142 rfl) (zA hN142 rfl) ?_
  refine zc (zA hN142 rfl) (zA hN142 rfl) ?_
  refine zB ?_
  refine hK181 _ _ (wp_cond_false (zA hN142 rfl) (wp_skip (hK180 _ _ (zF fun K184 hK184 => ?_))))
  refine zH ?_
  refine zG (zC hN142 rfl s142_7) ?_
  refine zG (zC hN142 rfl s142_8) ?_
  refine zM fld45_9 (zC hN142 rfl s142_4) ?_
  refine zN (v := f.wv) one26 (zA hN142 rfl) (hB9.cell rfl) ?_
  refine zj ok81 (where9_ret zx zx (hO19.rdw.mono (Nat.zero_le _) zx) (hO20.rdw.mono (Nat.zero_le _) zx) (hfw.mono zx)) ⟨(zA hN142 rfl), ⟨(zA hN142 rfl), ⟨(zA hN142 rfl), trivial⟩⟩⟩ ?_
  rintro _ w185 ⟨E186, rfl⟩
  have E186 := zQ E186
  have := E186.size
  have hfr := hfr.keep0 E186
  have hfrR := hfrR.keep0 E186
  have hB9 := hB9.keep0 E186
  have hO19 := hO19.keep0 E186
  have hO20 := hO20.keep0 E186
  have hb := zP hb E186 hb.size
  refine zD (zA hN142 rfl) ?_
  refine zB ?_
  refine hK184 _ _ (zF fun K187 hK187 => ?_)
  refine zF fun K188 hK188 => ?_
  refine zH ?_
  refine zG (zA hN142 rfl) ?_
  refine op_neq (zA hN142 rfl) rfl (fun c169 => ?_) (fun c169 => ?_)
  ·
   refine zG (zA hN142 rfl) ?_
   refine zR (j := 2) (dj := 170) (b := false) rfl rfl rfl (zA hN142 rfl) rfl rfl ?_
   refine zR (j := 2) (dj := 170) (b := false) rfl rfl rfl (zA hN142 rfl) rfl rfl ?_
   refine zR (j := 2) (dj := 170) (b := false) rfl rfl rfl (zA hN142 rfl) rfl rfl ?_
   refine zR (j := 2) (dj := 170) (b := false) rfl rfl rfl (zA hN142 rfl) rfl rfl ?_
   refine zc (zA hN142 rfl) rfl ?_
   refine zB ?_
   refine hK188 _ _ (wp_cond_true (zA hN142 rfl) (zF fun K189 hK189 => ?_))
   refine zH ?_
   refine zG (zA hN142 rfl) ?_
   refine zD (zA hN142 rfl) ?_
   refine zB ?_
   refine hK189 _ _ (wp_ret (zO ( ?_)))
   refine ret1 rfl hd142 (zA hN142 rfl) ⟨_, rfl, ?_⟩
   have e8 : selR (D.map DTab.t) t f = selE f C9 K9 := by unfold selR; rw [if_neg (fun g => g hJ9), ← hC9, ← hK9]
   have h7 : firstE (f.items.map (itemE C9 K9)) = 0 := firstE_none zx hall
   have hag9 : aggsN (f.items.take i) = aggsN f.items := by rw [show f.items.take i = f.items from List.take_of_length_le zx]
   have h6 : ¬ (0 < aggsN f.items ∧ (aggsN f.items < f.items.length ∨ 0 < f.ord.length)) := by omega
   have e9 : selE f C9 K9 = whereX C9 K9 f.wh := selE_3 h7 h6 c169
   rw [e8, e9]; exact ⟨hb, rfl⟩
  refine zG (zA hN142 rfl) ?_
  refine zS (j := 2) (dj := 170) (b := false) rfl rfl rfl (zA hN142 rfl) ?_
  refine zM fld45_10 (zC hN142 rfl s142_4) ?_
  refine zS (j := 2) (dj := 170) (b := false) rfl rfl rfl (zA hN142 rfl) ?_
  refine zN (v := f.rv) one26 (zA hN142 rfl) (hB9.cell rfl) ?_
  refine zS (j := 2) (dj := 170) (b := false) rfl rfl rfl (zA hN142 rfl) ?_
  refine op_len_rd Try.underlying26 (zA hN142 rfl) hfrR ?_
  refine zS (j := 2) (dj := 170) (b := false) rfl rfl rfl (zA hN142 rfl) ?_
  refine op_eql (zA hN142 rfl) rfl (fun c174 => ?_) (fun c174 => ?_)
  ·
   refine zd (zA hN142 rfl) (zA hN142 rfl) ?_
   refine zB ?_
   refine hK188 _ _ (wp_cond_true (zA hN142 rfl) (zF fun K190 hK190 => ?_))
   refine zH ?_
   refine zG (zA hN142 rfl) ?_
   refine zD (zA hN142 rfl) ?_
   refine zB ?_
   refine hK190 _ _ (wp_ret (zO ( ?_)))
   refine ret1 rfl hd142 (zA hN142 rfl) ⟨_, rfl, ?_⟩
   have e8 : selR (D.map DTab.t) t f = selE f C9 K9 := by unfold selR; rw [if_neg (fun g => g hJ9), ← hC9, ← hK9]
   have h7 : firstE (f.items.map (itemE C9 K9)) = 0 := firstE_none zx hall
   have hag9 : aggsN (f.items.take i) = aggsN f.items := by rw [show f.items.take i = f.items from List.take_of_length_le zx]
   have h6 : ¬ (0 < aggsN f.items ∧ (aggsN f.items < f.items.length ∨ 0 < f.ord.length)) := by omega
   have e9 : selE f C9 K9 = whereX C9 K9 f.wh := (selE_4 h7 h6 c169).trans ((by rw [List.length_eq_zero_iff.1 (show f.ord.length = 0 by omega)]; rfl : firstE (f.ord.map fun e => (colAt C9 K9 e.tb e.nm).2) = 0).trans c169.symm)
   rw [e8, e9]; exact ⟨hb, rfl⟩
  refine zd (zA hN142 rfl) (zA hN142 rfl) ?_
  refine zB ?_
  refine hK188 _ _ (wp_cond_false (zA hN142 rfl) (wp_skip (hK187 _ _ (zF fun K191 hK191 => ?_))))
  refine zH ?_
  refine zG (zC hN142 rfl s142_7) ?_
  refine zG (zC hN142 rfl s142_8) ?_
  refine op_len_rd Try.underlying23 (zA hN142 rfl) hO20.rdw ?_
  refine zM fld45_10 (zC hN142 rfl s142_4) ?_
  refine zN (v := f.rv) one26 (zA hN142 rfl) (hB9.cell rfl) ?_
  refine zh slt26 (zA hN142 rfl) hfrR rfl zx zx ?_
  intro b192 o193 h0b192 h1b192 hc194
  refine zX (cs := [(.int .i64 (f.ord.getD 0 default).op), (.int .i64 (f.ord.getD 0 default).vk), (.int .i64 (f.ord.getD 0 default).vi), (.string (bs (f.ord.getD 0 default).vt)), (.string (bs (f.ord.getD 0 default).tb)), (.string (bs (f.ord.getD 0 default).nm)), (f.ord.getD 0 default).av]) agg28 rfl (zA hN142 rfl) (fun j u hu => hc194 j u (by have := (List.getElem?_eq_some_iff.1 hu).1; simpa using this) ((el_xe (i := 0) zx zx) j u hu)) ?_
  refine zj ok34 (at_ret C9 (K9.length) _ (f.ord.getD 0 default) _ zx zx (hO19.rdw.mono (Nat.zero_le _) zx) ((hfr.2 (f.ord.getD 0 default) (getD_mem zx)).list.1.one)) ⟨(zA hN142 rfl), ⟨(zA hN142 rfl), ⟨(zA hN142 rfl), trivial⟩⟩⟩ ?_
  rintro _ w195 ⟨E196, rfl⟩
  have E196 := zQ E196
  have := E196.size
  have hb := zP hb E196 hb.size
  refine zG (zA hN142 rfl) ?_
  refine zW (zA hN142 rfl) rfl ?_
  refine zW (zA hN142 rfl) rfl ?_
  refine zD (zA hN142 rfl) ?_
  refine zB ?_
  refine hK191 _ _ (zF fun K197 hK197 => ?_)
  refine zH ?_
  refine zG (zA hN142 rfl) ?_
  refine zD (zA hN142 rfl) ?_
  refine zB ?_
  refine hK197 _ _ (wp_ret ?_)
  refine ret1 rfl hd142 (zA hN142 rfl) ⟨_, rfl, ?_⟩
  have e8 : selR (D.map DTab.t) t f = selE f C9 K9 := by unfold selR; rw [if_neg (fun g => g hJ9), ← hC9, ← hK9]
  have h7 : firstE (f.items.map (itemE C9 K9)) = 0 := firstE_none zx hall
  have hag9 : aggsN (f.items.take i) = aggsN f.items := by rw [show f.items.take i = f.items from List.take_of_length_le zx]
  have h6 : ¬ (0 < aggsN f.items ∧ (aggsN f.items < f.items.length ∨ 0 < f.ord.length)) := by omega
  have e9 : selE f C9 K9 = (atX C9 K9.length (f.ord.getD 0 default).tb (f.ord.getD 0 default).nm).2 := by rw [selE_4 h7 h6 c169, ord1 (fun e : XE => (colAt C9 K9 e.tb e.nm).2) hord zx]; exact col_err
  rw [e8, e9]; exact ⟨hb, rfl⟩
 refine zG (zA hN142 rfl) ?_
 refine zR (j := 2) (dj := 153) (b := true) rfl rfl rfl (zA hN142 rfl) rfl rfl ?_
 refine zR (j := 2) (dj := 153) (b := true) rfl rfl rfl (zA hN142 rfl) rfl rfl ?_
 refine zR (j := 2) (dj := 153) (b := true) rfl rfl rfl (zA hN142 rfl) rfl rfl ?_
 refine g_undef (j := 5) (dj := 156) (b := false) rfl rfl rfl (zA hN142 rfl) rfl ?_
 refine g_undef (j := 5) (dj := 156) (b := false) rfl rfl rfl (zA hN142 rfl) rfl ?_
 refine g_undef (j := 5) (dj := 156) (b := false) rfl rfl rfl (zA hN142 rfl) rfl ?_
 refine g_undef (j := 5) (dj := 156) (b := false) rfl rfl rfl (zA hN142 rfl) rfl ?_
 refine zR (j := 2) (dj := 153) (b := true) rfl rfl rfl (zA hN142 rfl) rfl rfl ?_
 refine zd (zA hN142 rfl) rfl ?_
 refine zB ?_
 refine hK181 _ _ (wp_cond_false (zA hN142 rfl) (wp_skip (hK180 _ _ (zF fun K198 hK198 => ?_))))
 refine zH ?_
 refine zG (zC hN142 rfl s142_7) ?_
 refine zG (zC hN142 rfl s142_8) ?_
 refine zM fld45_9 (zC hN142 rfl s142_4) ?_
 refine zN (v := f.wv) one26 (zA hN142 rfl) (hB9.cell rfl) ?_
 refine zj ok81 (where9_ret zx zx (hO19.rdw.mono (Nat.zero_le _) zx) (hO20.rdw.mono (Nat.zero_le _) zx) (hfw.mono zx)) ⟨(zA hN142 rfl), ⟨(zA hN142 rfl), ⟨(zA hN142 rfl), trivial⟩⟩⟩ ?_
 rintro _ w199 ⟨E200, rfl⟩
 have E200 := zQ E200
 have := E200.size
 have hfr := hfr.keep0 E200
 have hfrR := hfrR.keep0 E200
 have hB9 := hB9.keep0 E200
 have hO19 := hO19.keep0 E200
 have hO20 := hO20.keep0 E200
 have hb := zP hb E200 hb.size
 refine zD (zA hN142 rfl) ?_
 refine zB ?_
 refine hK198 _ _ (zF fun K201 hK201 => ?_)
 refine zF fun K202 hK202 => ?_
 refine zH ?_
 refine zG (zA hN142 rfl) ?_
 refine op_neq (zA hN142 rfl) rfl (fun c169 => ?_) (fun c169 => ?_)
 ·
  refine zG (zA hN142 rfl) ?_
  refine zR (j := 2) (dj := 170) (b := false) rfl rfl rfl (zA hN142 rfl) rfl rfl ?_
  refine zR (j := 2) (dj := 170) (b := false) rfl rfl rfl (zA hN142 rfl) rfl rfl ?_
  refine zR (j := 2) (dj := 170) (b := false) rfl rfl rfl (zA hN142 rfl) rfl rfl ?_
  refine zR (j := 2) (dj := 170) (b := false) rfl rfl rfl (zA hN142 rfl) rfl rfl ?_
  refine zc (zA hN142 rfl) rfl ?_
  refine zB ?_
  refine hK202 _ _ (wp_cond_true (zA hN142 rfl) (zF fun K203 hK203 => ?_))
  refine zH ?_
  refine zG (zA hN142 rfl) ?_
  refine zD (zA hN142 rfl) ?_
  refine zB ?_
  refine hK203 _ _ (wp_ret (zO ( ?_)))
  refine ret1 rfl hd142 (zA hN142 rfl) ⟨_, rfl, ?_⟩
  have e8 : selR (D.map DTab.t) t f = selE f C9 K9 := by unfold selR; rw [if_neg (fun g => g hJ9), ← hC9, ← hK9]
  have h7 : firstE (f.items.map (itemE C9 K9)) = 0 := firstE_none zx hall
  have hag9 : aggsN (f.items.take i) = aggsN f.items := by rw [show f.items.take i = f.items from List.take_of_length_le zx]
  have h6 : ¬ (0 < aggsN f.items ∧ (aggsN f.items < f.items.length ∨ 0 < f.ord.length)) := by omega
  have e9 : selE f C9 K9 = whereX C9 K9 f.wh := selE_3 h7 h6 c169
  rw [e8, e9]; exact ⟨hb, rfl⟩
 refine zG (zA hN142 rfl) ?_
 refine zS (j := 2) (dj := 170) (b := false) rfl rfl rfl (zA hN142 rfl) ?_
 refine zM fld45_10 (zC hN142 rfl s142_4) ?_
 refine zS (j := 2) (dj := 170) (b := false) rfl rfl rfl (zA hN142 rfl) ?_
 refine zN (v := f.rv) one26 (zA hN142 rfl) (hB9.cell rfl) ?_
 refine zS (j := 2) (dj := 170) (b := false) rfl rfl rfl (zA hN142 rfl) ?_
 refine op_len_rd Try.underlying26 (zA hN142 rfl) hfrR ?_
 refine zS (j := 2) (dj := 170) (b := false) rfl rfl rfl (zA hN142 rfl) ?_
 refine op_eql (zA hN142 rfl) rfl (fun c174 => ?_) (fun c174 => ?_)
 ·
  refine zd (zA hN142 rfl) (zA hN142 rfl) ?_
  refine zB ?_
  refine hK202 _ _ (wp_cond_true (zA hN142 rfl) (zF fun K204 hK204 => ?_))
  refine zH ?_
  refine zG (zA hN142 rfl) ?_
  refine zD (zA hN142 rfl) ?_
  refine zB ?_
  refine hK204 _ _ (wp_ret (zO ( ?_)))
  refine ret1 rfl hd142 (zA hN142 rfl) ⟨_, rfl, ?_⟩
  have e8 : selR (D.map DTab.t) t f = selE f C9 K9 := by unfold selR; rw [if_neg (fun g => g hJ9), ← hC9, ← hK9]
  have h7 : firstE (f.items.map (itemE C9 K9)) = 0 := firstE_none zx hall
  have hag9 : aggsN (f.items.take i) = aggsN f.items := by rw [show f.items.take i = f.items from List.take_of_length_le zx]
  have h6 : ¬ (0 < aggsN f.items ∧ (aggsN f.items < f.items.length ∨ 0 < f.ord.length)) := by omega
  have e9 : selE f C9 K9 = whereX C9 K9 f.wh := (selE_4 h7 h6 c169).trans ((by rw [List.length_eq_zero_iff.1 (show f.ord.length = 0 by omega)]; rfl : firstE (f.ord.map fun e => (colAt C9 K9 e.tb e.nm).2) = 0).trans c169.symm)
  rw [e8, e9]; exact ⟨hb, rfl⟩
 refine zd (zA hN142 rfl) (zA hN142 rfl) ?_
 refine zB ?_
 refine hK202 _ _ (wp_cond_false (zA hN142 rfl) (wp_skip (hK201 _ _ (zF fun K205 hK205 => ?_))))
 refine zH ?_
 refine zG (zC hN142 rfl s142_7) ?_
 refine zG (zC hN142 rfl s142_8) ?_
 refine op_len_rd Try.underlying23 (zA hN142 rfl) hO20.rdw ?_
 refine zM fld45_10 (zC hN142 rfl s142_4) ?_
 refine zN (v := f.rv) one26 (zA hN142 rfl) (hB9.cell rfl) ?_
 refine zh slt26 (zA hN142 rfl) hfrR rfl zx zx ?_
 intro b206 o207 h0b206 h1b206 hc208
 refine zX (cs := [(.int .i64 (f.ord.getD 0 default).op), (.int .i64 (f.ord.getD 0 default).vk), (.int .i64 (f.ord.getD 0 default).vi), (.string (bs (f.ord.getD 0 default).vt)), (.string (bs (f.ord.getD 0 default).tb)), (.string (bs (f.ord.getD 0 default).nm)), (f.ord.getD 0 default).av]) agg28 rfl (zA hN142 rfl) (fun j u hu => hc208 j u (by have := (List.getElem?_eq_some_iff.1 hu).1; simpa using this) ((el_xe (i := 0) zx zx) j u hu)) ?_
 refine zj ok34 (at_ret C9 (K9.length) _ (f.ord.getD 0 default) _ zx zx (hO19.rdw.mono (Nat.zero_le _) zx) ((hfr.2 (f.ord.getD 0 default) (getD_mem zx)).list.1.one)) ⟨(zA hN142 rfl), ⟨(zA hN142 rfl), ⟨(zA hN142 rfl), trivial⟩⟩⟩ ?_
 rintro _ w209 ⟨E210, rfl⟩
 have E210 := zQ E210
 have := E210.size
 have hb := zP hb E210 hb.size
 refine zG (zA hN142 rfl) ?_
 refine zW (zA hN142 rfl) rfl ?_
 refine zW (zA hN142 rfl) rfl ?_
 refine zD (zA hN142 rfl) ?_
 refine zB ?_
 refine hK205 _ _ (zF fun K211 hK211 => ?_)
 refine zH ?_
 refine zG (zA hN142 rfl) ?_
 refine zD (zA hN142 rfl) ?_
 refine zB ?_
 refine hK211 _ _ (wp_ret ?_)
 refine ret1 rfl hd142 (zA hN142 rfl) ⟨_, rfl, ?_⟩
 have e8 : selR (D.map DTab.t) t f = selE f C9 K9 := by unfold selR; rw [if_neg (fun g => g hJ9), ← hC9, ← hK9]
 have h7 : firstE (f.items.map (itemE C9 K9)) = 0 := firstE_none zx hall
 have hag9 : aggsN (f.items.take i) = aggsN f.items := by rw [show f.items.take i = f.items from List.take_of_length_le zx]
 have h6 : ¬ (0 < aggsN f.items ∧ (aggsN f.items < f.items.length ∨ 0 < f.ord.length)) := by omega
 have e9 : selE f C9 K9 = (atX C9 K9.length (f.ord.getD 0 default).tb (f.ord.getD 0 default).nm).2 := by rw [selE_4 h7 h6 c169, ord1 (fun e : XE => (colAt C9 K9 e.tb e.nm).2) hord zx]; exact col_err
 rw [e8, e9]; exact ⟨hb, rfl⟩
def CheckQ (s : XS) : Prop := ∀ ⦃tv : Value⦄ ⦃D : List DTab⦄ ⦃w : World⦄, TsRd w w.heap.size tv D → D.length ≤ 1000000 → (∀ d ∈ D, d.t.cols.length ≤ 1000000 ∧ d.t.idx.length ≤ 1000000) → SRd w w.heap.size s →
  Ret Try.prog 20 #[.agg #[tv, .slice none 0 0], (Value.agg #[(Value.int .i64 s.f.kind), (Value.string (bs s.f.tb)), (Value.string (bs s.f.nm)), s.f.cv, s.f.gv, s.f.vv, s.f.iv, (Value.string (bs s.f.join)), s.f.ov, s.f.wv, s.f.rv, (Value.bool s.f.desc), s.nv])] w (fun v' w' => Below w.heap.size w w' ∧ v' = .int .i64 (checkE (D.map DTab.t) [] s))
theorem tab_sel {T : List PTab} {f : StF} {t : PTab} (h : tabAt T f.tb = some t) : selsE T f = selR T t f := by rw [selsE_some h]; rfl
theorem lists_ord {f : StF} {n : Nat} (h : listsOk f n = true) (hk : f.kind = 6) : f.ord.length ≤ 1 := by
  unfold listsOk at h; rw [if_pos hk] at h
  simp only [Bool.and_eq_true, decide_eq_true_eq] at h
  exact h.1.1.1.2
theorem flat_sel9 {T : List PTab} {f : StF} {t : PTab} (hk : f.kind = 6) (h : tabAt T f.tb = some t) : flatE T [] f = selR T t f := (flat_sel hk).trans (tab_sel h)
theorem flat_wr9 {T : List PTab} {f : StF} {t : PTab} (hk : f.kind = 5 ∨ f.kind = 7 ∨ f.kind = 8) (h : tabAt T f.tb = some t) : flatE T [] f = wrE t f := by
  rcases hk with hk | hk | hk
  · rw [flat_ins hk, h]; unfold wrE; rw [if_pos hk]
  · rw [flat_upd hk, h]; unfold wrE; rw [if_neg zx, if_pos hk]
  · rw [flat_del hk h]; unfold wrE; rw [if_neg zx, if_neg zx]
theorem flat_none9 {T : List PTab} {f : StF} (hk : f.kind = 5 ∨ f.kind = 6 ∨ f.kind = 7 ∨ f.kind = 8) (h : (tabAt T f.tb).isSome = false) : flatE T [] f = 9 := by
  have h0 : tabAt T f.tb = none := by
    cases hh : tabAt T f.tb with
    | none => rfl
    | some u => rw [hh] at h; cases h
  rcases hk with hk | hk | hk | hk
  · rw [flat_ins hk, h0]
  · rw [flat_sel hk, selsE_none h]
  · rw [flat_upd hk, h0]
  · exact flat_del0 hk h

theorem Check9_in {tv : Value} {D : List DTab} (s : XS) {w : World} (ih : ∀ a ∈ s.inner, CheckQ a) (hT : TsRd w w.heap.size tv D) (hD : D.length ≤ 1000000) (hsz : ∀ d ∈ D, d.t.cols.length ≤ 1000000 ∧ d.t.idx.length ≤ 1000000) (he : SRd w w.heap.size s) : Ret Try.prog 20 #[(.agg #[tv, (.slice none 0 0)]), (.agg #[(.int .i64 s.f.kind), (.string (bs s.f.tb)), (.string (bs s.f.nm)), s.f.cv, s.f.gv, s.f.vv, s.f.iv, (.string (bs s.f.join)), s.f.ov, s.f.wv, s.f.rv, (.bool s.f.desc), s.nv])] w (fun v' w' => Below w.heap.size w w' ∧ v' = .int .i64 (checkE (D.map DTab.t) [] s)) := by
 have hR := hT.1
 have hs := he.ff
 obtain ⟨hfc, hfg, hfv, hfi, hfo, hfw, hfr⟩ := hs
 have hfn := he.rd
 have hfvR := hfv.1
 have hfoR := hfo.1
 have hfwR := hfw.1
 have hfrR := hfr.1
 have hnall : SsRd w w.heap.size s.inner := he.all
 have hsz9 : ∀ t ∈ D.map DTab.t, t.cols.length ≤ 1000000 ∧ t.idx.length ≤ 1000000 := fun t ht => by obtain ⟨d, hd, rfl⟩ := List.mem_map.1 ht; exact hsz d hd
 have hb := Below.refl w.heap.size w
 refine enter (N := 58) Try.func20 rfl rfl (by simp) fun a0 hN hd hA => ?_
 have s0 : a0.tmps.getD 0 undef = (.agg #[tv, (.slice none 0 0)]) := hA 0 (by simp)
 have s1 : a0.tmps.getD 1 undef = (.agg #[(.int .i64 s.f.kind), (.string (bs s.f.tb)), (.string (bs s.f.nm)), s.f.cv, s.f.gv, s.f.vv, s.f.iv, (.string (bs s.f.join)), s.f.ov, s.f.wv, s.f.rv, (.bool s.f.desc), s.nv]) := hA 1 (by simp)
 clear hA
 refine zF fun K1 hK1 => ?_
 refine zH ?_
 refine op_box (cs := [tv, (.slice none 0 0)]) (zC hN rfl s0) rfl ?_
 intro w2 b3 lo_b3 hi_b3 hB5 E4
 have := E4.size
 have hT := hT.keep0 E4
 have hR := hR.keep0 E4
 have hfv := hfv.keep0 E4
 have hfvR := hfvR.keep0 E4
 have hfo := hfo.keep0 E4
 have hfoR := hfoR.keep0 E4
 have hfw := hfw.keep0 E4
 have hfwR := hfwR.keep0 E4
 have hfr := hfr.keep0 E4
 have hfrR := hfrR.keep0 E4
 have hfi := hfi.keep0 E4
 have hfc := hfc.keep0 E4
 have hfn := hfn.keep0 E4
 have hnall := hnall.keep0 E4
 have hb := zP hb E4 hb.size
 refine op_box (cs := [(.int .i64 s.f.kind), (.string (bs s.f.tb)), (.string (bs s.f.nm)), s.f.cv, s.f.gv, s.f.vv, s.f.iv, (.string (bs s.f.join)), s.f.ov, s.f.wv, s.f.rv, (.bool s.f.desc), s.nv]) (zC hN rfl s1) rfl ?_
 intro w6 b7 lo_b7 hi_b7 hB9 E8
 have := E8.size
 have hT := hT.keep0 E8
 have hR := hR.keep0 E8
 have hfv := hfv.keep0 E8
 have hfvR := hfvR.keep0 E8
 have hfo := hfo.keep0 E8
 have hfoR := hfoR.keep0 E8
 have hfw := hfw.keep0 E8
 have hfwR := hfwR.keep0 E8
 have hfr := hfr.keep0 E8
 have hfrR := hfrR.keep0 E8
 have hfi := hfi.keep0 E8
 have hfc := hfc.keep0 E8
 have hfn := hfn.keep0 E8
 have hnall := hnall.keep0 E8
 have hB5 := hB5.keep0 E8
 have hb := zP hb E8 hb.size
 refine zD rfl ?_
 refine zB ?_
 refine hK1 _ _ (zF fun K10 hK10 => ?_)
 refine zF fun K11 hK11 => ?_
 refine zH ?_
 refine zY agg45 rfl (zA hN rfl) hB9 ?_
 refine zj ok48 (lists9_ret hfv hfo hfw hfr hfn zx) ⟨(zA hN rfl), trivial⟩ ?_
 rintro _ w12 ⟨E13, rfl⟩
 have E13 := zQ E13
 have := E13.size
 have hT := hT.keep0 E13
 have hR := hR.keep0 E13
 have hfv := hfv.keep0 E13
 have hfvR := hfvR.keep0 E13
 have hfo := hfo.keep0 E13
 have hfoR := hfoR.keep0 E13
 have hfw := hfw.keep0 E13
 have hfwR := hfwR.keep0 E13
 have hfr := hfr.keep0 E13
 have hfrR := hfrR.keep0 E13
 have hfi := hfi.keep0 E13
 have hfc := hfc.keep0 E13
 have hfn := hfn.keep0 E13
 have hnall := hnall.keep0 E13
 obtain ⟨hB5, hB9⟩ := kb2 E13 hB5 hB9
 have hb := zP hb E13 hb.size
 rcases Bool.eq_false_or_eq_true ((listsOk s.f s.inner.length)) with c10 | c10
 ·
  rw [c10]
  refine op_not (zA hN rfl) ?_
  refine zB ?_
  refine hK11 _ _ (wp_cond_false (zA hN rfl) (wp_skip (hK10 _ _ (zF fun K14 hK14 => ?_))))
  refine zF fun K15 hK15 => ?_
  refine zH ?_
  refine zM fld45_0 (zA hN rfl) ?_
  refine zN (v := (Value.int .i64 s.f.kind)) one3 (zA hN rfl) (hB9.cell rfl) ?_
  refine zB ?_
  refine hK15 _ _ (wp_block ?_)
  refine zF fun K16 hK16 => ?_
  refine zF fun K17 hK17 => ?_
  refine zH ?_
  refine op_eql (zA hN rfl) rfl (fun c15 => ?_) (fun c15 => ?_)
  ·
   refine zD (zA hN rfl) ?_
   refine zB ?_
   refine hK17 _ _ (wp_cond_true (zA hN rfl) (wp_skip (hK16 _ _ (wp_cond_true (zA hN rfl) (zF fun K18 hK18 => ?_)))))
   have hin := lists_in c10 zx
   refine reg_quiet (Φ := phiL [(fun uz _ => uz = (.agg #[tv, (.slice none 0 0)])), (fun uz _ => uz = (ptr b7 12)), (fun uz _ => uz = s.nv), (fun uz w' => ∃ (b19 : (Nat)) (o20 : (Nat)), uz = (ptr b19 o20) ∧ PtC w' 0 w.heap.size b19 o20 [(.int .i64 (s.inner.getD 0 default).f.kind), (.string (bs (s.inner.getD 0 default).f.tb)), (.string (bs (s.inner.getD 0 default).f.nm)), (s.inner.getD 0 default).f.cv, (s.inner.getD 0 default).f.gv, (s.inner.getD 0 default).f.vv, (s.inner.getD 0 default).f.iv, (.string (bs (s.inner.getD 0 default).f.join)), (s.inner.getD 0 default).f.ov, (s.inner.getD 0 default).f.wv, (s.inner.getD 0 default).f.rv, (.bool (s.inner.getD 0 default).f.desc), (s.inner.getD 0 default).nv]), (fun uz _ => uz = (.agg #[(.int .i64 (s.inner.getD 0 default).f.kind), (.string (bs (s.inner.getD 0 default).f.tb)), (.string (bs (s.inner.getD 0 default).f.nm)), (s.inner.getD 0 default).f.cv, (s.inner.getD 0 default).f.gv, (s.inner.getD 0 default).f.vv, (s.inner.getD 0 default).f.iv, (.string (bs (s.inner.getD 0 default).f.join)), (s.inner.getD 0 default).f.ov, (s.inner.getD 0 default).f.wv, (s.inner.getD 0 default).f.rv, (.bool (s.inner.getD 0 default).f.desc), (s.inner.getD 0 default).nv])), (fun uz _ => uz = (.int .i64 (checkE (D.map DTab.t) [] (s.inner.getD 0 default)))), (fun uz _ => uz = (.int .i64 (checkE (D.map DTab.t) [] (s.inner.getD 0 default))))]) mixed zy zy zy hN (StL.get (StL.eq (StL.eq (StL.eq (StL.cons (fun u w1 w2 E h => by obtain ⟨x0, x1, hv, f0⟩ := h; exact ⟨x0, x1, hv, f0.keep0 E⟩) (StL.eq (StL.eq (StL.eq (StL.nil _))))))))) (ObL.get (s := 7) (ObL.cons ?_ (ObL.cons ?_ (ObL.cons ?_ (ObL.cons ?_ (ObL.cons ?_ (ObL.cons ?_ (ObL.cons ?_ (ObL.nil)))))))) rfl) ?_
   ·
    intro aA wA hNA hRA hbsA hdpA
    have hRA : w12.grownBy wA none := hRA
    have := hRA.size
    have hnall := hnall.keep0 hRA
    have hB5 := hB5.keep0 hRA
    have qA_2 := (hbsA 2 rfl).trans (zU hN rfl)
    clear hbsA hdpA
    refine zY agg39 rfl (zC hNA rfl qA_2) hB5 ?_
    exact obN_end rfl rfl (grown_refl _ _)
   ·
    intro aA wA hNA hRA hbsA hdpA
    have qA_3 := (hbsA 3 rfl).trans (zU hN rfl)
    refine zM fld45_12 (zC hNA rfl qA_3) ?_
    exact obN_end rfl rfl (grown_refl _ _)
   ·
    intro aA wA hNA hRA hbsA hdpA
    have hRA : w12.grownBy wA none := hRA
    have := hRA.size
    have hnall := hnall.keep0 hRA
    have hB9 := hB9.keep0 hRA
    have qA_18 : Sl aA 18 (ptr b7 12) := hdpA 1 _ 18 zy rfl rfl
    clear hbsA hdpA
    refine zN (v := s.nv) one43 (zC hNA rfl qA_18) (hB9.cell rfl) ?_
    exact obN_end rfl rfl (grown_refl _ _)
   ·
    intro aA wA hNA hRA hbsA hdpA
    have hRA : w12.grownBy wA none := hRA
    have := hRA.size
    have hfn := hfn.keep0 hRA
    have hnall := hnall.keep0 hRA
    have qA_19 : Sl aA 19 s.nv := hdpA 2 _ 19 zy rfl rfl
    clear hbsA hdpA
    refine zh slt43 (zC hNA rfl qA_19) hfn rfl zx zx ?_
    intro b19 o20 h0b19 h1b19 hc21
    have hp22 : PtC wA 0 w.heap.size b19 o20 [(.int .i64 (s.inner.getD 0 default).f.kind), (.string (bs (s.inner.getD 0 default).f.tb)), (.string (bs (s.inner.getD 0 default).f.nm)), (s.inner.getD 0 default).f.cv, (s.inner.getD 0 default).f.gv, (s.inner.getD 0 default).f.vv, (s.inner.getD 0 default).f.iv, (.string (bs (s.inner.getD 0 default).f.join)), (s.inner.getD 0 default).f.ov, (s.inner.getD 0 default).f.wv, (s.inner.getD 0 default).f.rv, (.bool (s.inner.getD 0 default).f.desc), (s.inner.getD 0 default).nv] := ⟨by omega, by omega, fun j u hu => hc21 j u (by have := (List.getElem?_eq_some_iff.1 hu).1; simpa using this) ((el_xs (i := 0) zx zx) j u hu)⟩
    exact obN_end rfl ⟨b19, o20, rfl, hp22⟩ (grown_refl _ _)
   ·
    intro aA wA hNA hRA hbsA hdpA
    have hRA : w12.grownBy wA none := hRA
    have := hRA.size
    have hnall := hnall.keep0 hRA
    obtain ⟨b19, o20, qA_20, hp22⟩ := hdpA 3 _ 20 zy rfl rfl
    have hp22 : PtC wA 0 w.heap.size b19 o20 [(.int .i64 (s.inner.getD 0 default).f.kind), (.string (bs (s.inner.getD 0 default).f.tb)), (.string (bs (s.inner.getD 0 default).f.nm)), (s.inner.getD 0 default).f.cv, (s.inner.getD 0 default).f.gv, (s.inner.getD 0 default).f.vv, (s.inner.getD 0 default).f.iv, (.string (bs (s.inner.getD 0 default).f.join)), (s.inner.getD 0 default).f.ov, (s.inner.getD 0 default).f.wv, (s.inner.getD 0 default).f.rv, (.bool (s.inner.getD 0 default).f.desc), (s.inner.getD 0 default).nv] := hp22
    clear hbsA hdpA
    refine zX (cs := [(.int .i64 (s.inner.getD 0 default).f.kind), (.string (bs (s.inner.getD 0 default).f.tb)), (.string (bs (s.inner.getD 0 default).f.nm)), (s.inner.getD 0 default).f.cv, (s.inner.getD 0 default).f.gv, (s.inner.getD 0 default).f.vv, (s.inner.getD 0 default).f.iv, (.string (bs (s.inner.getD 0 default).f.join)), (s.inner.getD 0 default).f.ov, (s.inner.getD 0 default).f.wv, (s.inner.getD 0 default).f.rv, (.bool (s.inner.getD 0 default).f.desc), (s.inner.getD 0 default).nv]) agg45 rfl (zC hNA rfl qA_20) (fun j u hu => hp22.2.2 j u hu) ?_
    exact obN_end rfl rfl (grown_refl _ _)
   ·
    intro aA wA hNA hRA hbsA hdpA
    have hRA : w12.grownBy wA none := hRA
    have := hRA.size
    have hT := hT.keep0 hRA
    have hnall := hnall.keep0 hRA
    have qA_17 : Sl aA 17 (.agg #[tv, (.slice none 0 0)]) := hdpA 0 _ 17 zy rfl rfl
    have qA_21 : Sl aA 21 (.agg #[(.int .i64 (s.inner.getD 0 default).f.kind), (.string (bs (s.inner.getD 0 default).f.tb)), (.string (bs (s.inner.getD 0 default).f.nm)), (s.inner.getD 0 default).f.cv, (s.inner.getD 0 default).f.gv, (s.inner.getD 0 default).f.vv, (s.inner.getD 0 default).f.iv, (.string (bs (s.inner.getD 0 default).f.join)), (s.inner.getD 0 default).f.ov, (s.inner.getD 0 default).f.wv, (s.inner.getD 0 default).f.rv, (.bool (s.inner.getD 0 default).f.desc), (s.inner.getD 0 default).nv]) := hdpA 4 _ 21 zy rfl rfl
    clear hbsA hdpA
    refine zj ok20 (ih _ (getD_mem zx) (hT.mono zx) hD hsz ((hnall _ (getD_mem zx)).mono zx)) ⟨(zC hNA rfl qA_17), ⟨(zC hNA rfl qA_21), trivial⟩⟩ ?_
    rintro _ w23 ⟨E24, rfl⟩
    have E24 := zQ E24
    have := E24.size
    have hnall := hnall.keep0 E24
    exact obN_end rfl rfl (E24)
   ·
    intro aA wA hNA hRA hbsA hdpA
    have qA_22 : Sl aA 22 (.int .i64 (checkE (D.map DTab.t) [] (s.inner.getD 0 default))) := hdpA 5 _ 22 zy rfl rfl
    refine zD (zC hNA rfl qA_22) ?_
    exact obN_end rfl rfl (grown_refl _ _)
   intro a25 w25 hN25 hd25 hbs25 hph25 E25
   have hd25 := hd25.trans hd
   have s25_4 : Sl a25 4 (.int .i64 (checkE (D.map DTab.t) [] (s.inner.getD 0 default))) := hph25 6 _ 4 rfl rfl
   clear hbs25 hph25
   have E25 : w12.grownBy w25 none := E25
   have := E25.size
   have hnall := hnall.keep0 E25
   have hb := zP hb E25 hb.size
   refine hK18 _ _ (wp_ret (zb (zO ( ?_))))
   refine ret1 rfl hd25 (zC hN25 rfl s25_4) ⟨_, rfl, ?_⟩
   have e9 : checkE (D.map DTab.t) [] s = (checkE (D.map DTab.t) [] (s.inner.getD 0 default)) := check_in c10 zx
   rw [e9]; exact ⟨hb, rfl⟩
  refine zD (zA hN rfl) ?_
  refine zB ?_
  refine hK17 _ _ (wp_cond_false (zA hN rfl) (zH ?_))
  refine op_eql (zA hN rfl) rfl (fun c16 => ?_) (fun c16 => ?_)
  ·
   refine zD (zA hN rfl) ?_
   refine zB ?_
   refine hK16 _ _ (wp_cond_true (zA hN rfl) (zF fun K26 hK26 => ?_))
   have hin := lists_in c10 zx
   refine reg_quiet (Φ := phiL [(fun uz _ => uz = (.agg #[tv, (.slice none 0 0)])), (fun uz _ => uz = (ptr b7 12)), (fun uz _ => uz = s.nv), (fun uz w' => ∃ (b27 : (Nat)) (o28 : (Nat)), uz = (ptr b27 o28) ∧ PtC w' 0 w.heap.size b27 o28 [(.int .i64 (s.inner.getD 0 default).f.kind), (.string (bs (s.inner.getD 0 default).f.tb)), (.string (bs (s.inner.getD 0 default).f.nm)), (s.inner.getD 0 default).f.cv, (s.inner.getD 0 default).f.gv, (s.inner.getD 0 default).f.vv, (s.inner.getD 0 default).f.iv, (.string (bs (s.inner.getD 0 default).f.join)), (s.inner.getD 0 default).f.ov, (s.inner.getD 0 default).f.wv, (s.inner.getD 0 default).f.rv, (.bool (s.inner.getD 0 default).f.desc), (s.inner.getD 0 default).nv]), (fun uz _ => uz = (.agg #[(.int .i64 (s.inner.getD 0 default).f.kind), (.string (bs (s.inner.getD 0 default).f.tb)), (.string (bs (s.inner.getD 0 default).f.nm)), (s.inner.getD 0 default).f.cv, (s.inner.getD 0 default).f.gv, (s.inner.getD 0 default).f.vv, (s.inner.getD 0 default).f.iv, (.string (bs (s.inner.getD 0 default).f.join)), (s.inner.getD 0 default).f.ov, (s.inner.getD 0 default).f.wv, (s.inner.getD 0 default).f.rv, (.bool (s.inner.getD 0 default).f.desc), (s.inner.getD 0 default).nv])), (fun uz _ => uz = (.int .i64 (checkE (D.map DTab.t) [] (s.inner.getD 0 default)))), (fun uz _ => uz = (.int .i64 (checkE (D.map DTab.t) [] (s.inner.getD 0 default))))]) mixed zy zy zy hN (StL.get (StL.eq (StL.eq (StL.eq (StL.cons (fun u w1 w2 E h => by obtain ⟨x0, x1, hv, f0⟩ := h; exact ⟨x0, x1, hv, f0.keep0 E⟩) (StL.eq (StL.eq (StL.eq (StL.nil _))))))))) (ObL.get (s := 7) (ObL.cons ?_ (ObL.cons ?_ (ObL.cons ?_ (ObL.cons ?_ (ObL.cons ?_ (ObL.cons ?_ (ObL.cons ?_ (ObL.nil)))))))) rfl) ?_
   ·
    intro aA wA hNA hRA hbsA hdpA
    have hRA : w12.grownBy wA none := hRA
    have := hRA.size
    have hnall := hnall.keep0 hRA
    have hB5 := hB5.keep0 hRA
    have qA_2 := (hbsA 2 rfl).trans (zU hN rfl)
    clear hbsA hdpA
    refine zY agg39 rfl (zC hNA rfl qA_2) hB5 ?_
    exact obN_end rfl rfl (grown_refl _ _)
   ·
    intro aA wA hNA hRA hbsA hdpA
    have qA_3 := (hbsA 3 rfl).trans (zU hN rfl)
    refine zM fld45_12 (zC hNA rfl qA_3) ?_
    exact obN_end rfl rfl (grown_refl _ _)
   ·
    intro aA wA hNA hRA hbsA hdpA
    have hRA : w12.grownBy wA none := hRA
    have := hRA.size
    have hnall := hnall.keep0 hRA
    have hB9 := hB9.keep0 hRA
    have qA_18 : Sl aA 18 (ptr b7 12) := hdpA 1 _ 18 zy rfl rfl
    clear hbsA hdpA
    refine zN (v := s.nv) one43 (zC hNA rfl qA_18) (hB9.cell rfl) ?_
    exact obN_end rfl rfl (grown_refl _ _)
   ·
    intro aA wA hNA hRA hbsA hdpA
    have hRA : w12.grownBy wA none := hRA
    have := hRA.size
    have hfn := hfn.keep0 hRA
    have hnall := hnall.keep0 hRA
    have qA_19 : Sl aA 19 s.nv := hdpA 2 _ 19 zy rfl rfl
    clear hbsA hdpA
    refine zh slt43 (zC hNA rfl qA_19) hfn rfl zx zx ?_
    intro b27 o28 h0b27 h1b27 hc29
    have hp30 : PtC wA 0 w.heap.size b27 o28 [(.int .i64 (s.inner.getD 0 default).f.kind), (.string (bs (s.inner.getD 0 default).f.tb)), (.string (bs (s.inner.getD 0 default).f.nm)), (s.inner.getD 0 default).f.cv, (s.inner.getD 0 default).f.gv, (s.inner.getD 0 default).f.vv, (s.inner.getD 0 default).f.iv, (.string (bs (s.inner.getD 0 default).f.join)), (s.inner.getD 0 default).f.ov, (s.inner.getD 0 default).f.wv, (s.inner.getD 0 default).f.rv, (.bool (s.inner.getD 0 default).f.desc), (s.inner.getD 0 default).nv] := ⟨by omega, by omega, fun j u hu => hc29 j u (by have := (List.getElem?_eq_some_iff.1 hu).1; simpa using this) ((el_xs (i := 0) zx zx) j u hu)⟩
    exact obN_end rfl ⟨b27, o28, rfl, hp30⟩ (grown_refl _ _)
   ·
    intro aA wA hNA hRA hbsA hdpA
    have hRA : w12.grownBy wA none := hRA
    have := hRA.size
    have hnall := hnall.keep0 hRA
    obtain ⟨b27, o28, qA_20, hp30⟩ := hdpA 3 _ 20 zy rfl rfl
    have hp30 : PtC wA 0 w.heap.size b27 o28 [(.int .i64 (s.inner.getD 0 default).f.kind), (.string (bs (s.inner.getD 0 default).f.tb)), (.string (bs (s.inner.getD 0 default).f.nm)), (s.inner.getD 0 default).f.cv, (s.inner.getD 0 default).f.gv, (s.inner.getD 0 default).f.vv, (s.inner.getD 0 default).f.iv, (.string (bs (s.inner.getD 0 default).f.join)), (s.inner.getD 0 default).f.ov, (s.inner.getD 0 default).f.wv, (s.inner.getD 0 default).f.rv, (.bool (s.inner.getD 0 default).f.desc), (s.inner.getD 0 default).nv] := hp30
    clear hbsA hdpA
    refine zX (cs := [(.int .i64 (s.inner.getD 0 default).f.kind), (.string (bs (s.inner.getD 0 default).f.tb)), (.string (bs (s.inner.getD 0 default).f.nm)), (s.inner.getD 0 default).f.cv, (s.inner.getD 0 default).f.gv, (s.inner.getD 0 default).f.vv, (s.inner.getD 0 default).f.iv, (.string (bs (s.inner.getD 0 default).f.join)), (s.inner.getD 0 default).f.ov, (s.inner.getD 0 default).f.wv, (s.inner.getD 0 default).f.rv, (.bool (s.inner.getD 0 default).f.desc), (s.inner.getD 0 default).nv]) agg45 rfl (zC hNA rfl qA_20) (fun j u hu => hp30.2.2 j u hu) ?_
    exact obN_end rfl rfl (grown_refl _ _)
   ·
    intro aA wA hNA hRA hbsA hdpA
    have hRA : w12.grownBy wA none := hRA
    have := hRA.size
    have hT := hT.keep0 hRA
    have hnall := hnall.keep0 hRA
    have qA_17 : Sl aA 17 (.agg #[tv, (.slice none 0 0)]) := hdpA 0 _ 17 zy rfl rfl
    have qA_21 : Sl aA 21 (.agg #[(.int .i64 (s.inner.getD 0 default).f.kind), (.string (bs (s.inner.getD 0 default).f.tb)), (.string (bs (s.inner.getD 0 default).f.nm)), (s.inner.getD 0 default).f.cv, (s.inner.getD 0 default).f.gv, (s.inner.getD 0 default).f.vv, (s.inner.getD 0 default).f.iv, (.string (bs (s.inner.getD 0 default).f.join)), (s.inner.getD 0 default).f.ov, (s.inner.getD 0 default).f.wv, (s.inner.getD 0 default).f.rv, (.bool (s.inner.getD 0 default).f.desc), (s.inner.getD 0 default).nv]) := hdpA 4 _ 21 zy rfl rfl
    clear hbsA hdpA
    refine zj ok20 (ih _ (getD_mem zx) (hT.mono zx) hD hsz ((hnall _ (getD_mem zx)).mono zx)) ⟨(zC hNA rfl qA_17), ⟨(zC hNA rfl qA_21), trivial⟩⟩ ?_
    rintro _ w31 ⟨E32, rfl⟩
    have E32 := zQ E32
    have := E32.size
    have hnall := hnall.keep0 E32
    exact obN_end rfl rfl (E32)
   ·
    intro aA wA hNA hRA hbsA hdpA
    have qA_22 : Sl aA 22 (.int .i64 (checkE (D.map DTab.t) [] (s.inner.getD 0 default))) := hdpA 5 _ 22 zy rfl rfl
    refine zD (zC hNA rfl qA_22) ?_
    exact obN_end rfl rfl (grown_refl _ _)
   intro a33 w33 hN33 hd33 hbs33 hph33 E33
   have hd33 := hd33.trans hd
   have s33_4 : Sl a33 4 (.int .i64 (checkE (D.map DTab.t) [] (s.inner.getD 0 default))) := hph33 6 _ 4 rfl rfl
   clear hbs33 hph33
   have E33 : w12.grownBy w33 none := E33
   have := E33.size
   have hnall := hnall.keep0 E33
   have hb := zP hb E33 hb.size
   refine hK26 _ _ (wp_ret (zb (zO ( ?_))))
   refine ret1 rfl hd33 (zC hN33 rfl s33_4) ⟨_, rfl, ?_⟩
   have e9 : checkE (D.map DTab.t) [] s = (checkE (D.map DTab.t) [] (s.inner.getD 0 default)) := check_in c10 zx
   rw [e9]; exact ⟨hb, rfl⟩
  refine zD (zA hN rfl) ?_
  refine zB ?_
  refine hK16 _ _ (wp_cond_false (zA hN rfl) (zF fun K34 hK34 => ?_))
  refine zH ?_
  refine op_eql (zA hN rfl) rfl (fun c24 => ?_) (fun c24 => ?_)
  ·
   refine zD (zA hN rfl) ?_
   refine zB ?_
   refine hK34 _ _ (wp_cond_true (zA hN rfl) (zF fun K35 hK35 => ?_))
   refine zH ?_
   refine zY agg39 rfl (zA hN rfl) hB5 ?_
   refine zM fld45_2 (zA hN rfl) ?_
   refine zN (v := (Value.string (bs s.f.nm))) one9 (zA hN rfl) (hB9.cell rfl) ?_
   refine zj ok49 (View90 tv s.f.nm _) ⟨(zA hN rfl), ⟨(zA hN rfl), trivial⟩⟩ ?_
   rintro _ w36 ⟨E37, rfl⟩
   have E37 := zQ E37
   have := E37.size
   have hnall := hnall.keep0 E37
   have hb := zP hb E37 hb.size
   refine zG (zA hN rfl) ?_
   refine zW (zA hN rfl) rfl ?_
   refine zW (zA hN rfl) rfl ?_
   refine op_alloc (cs := [(.string (bs [])), (.slice none 0 0), (.int .i64 0), (.string (bs [])), (.string (bs [])), (.slice none 0 0), (.slice none 0 0), (.slice none 0 0), (.slice none 0 0), (.string (bs [])), (.slice none 0 0), (.slice none 0 0), (.slice none 0 0), (.bool false), (.slice none 0 0)]) zero98 rfl ?_
   intro w38 b39 lo_b39 hi_b39 hB41 E40
   have := E40.size
   have hnall := hnall.keep0 E40
   have hb := zP hb E40 hb.size
   refine zZ size98 (zA hN rfl) (zA hN rfl) rfl rfl hB41 rfl ?_
   intro w44 hB41 E45
   have := E45.size
   have hnall := hnall.keep E45 sR
   have hb := below_step1 hb E45 hb.size zx
   refine zD (zA hN rfl) ?_
   refine zB ?_
   refine hK35 _ _ (zF fun K46 hK46 => ?_)
   refine zF fun K47 hK47 => ?_
   refine zH ?_
   refine zG (zA hN rfl) ?_
   refine op_not (zA hN rfl) ?_
   refine zB ?_
   refine hK47 _ _ (wp_cond_true (zA hN rfl) (zF fun K48 hK48 => ?_))
   refine zH ?_
   refine zD rfl ?_
   refine zB ?_
   refine hK48 _ _ (wp_ret (zO (zb (zO ( ?_)))))
   refine ret1 rfl hd (zA hN rfl) ⟨_, rfl, ?_⟩
   have e9 : checkE (D.map DTab.t) [] s = 22 := (check_flat c10 zx).trans (flat_call c24)
   rw [e9]; exact ⟨hb, rfl⟩
  refine zD (zA hN rfl) ?_
  refine zB ?_
  refine hK34 _ _ (wp_cond_false (zA hN rfl) (seq_join1 (N := 58) (fun az_ w' => ∃ (b34 : Bool), (az_.tmps.getD 2 undef = (ptr b3 0)) ∧ (az_.tmps.getD 3 undef = (ptr b7 0)) ∧ (az_.tmps.getD 4 undef = (.int .i64 0)) ∧ (az_.tmps.getD 34 undef = (.bool b34)) ∧ (b34 = true → s.f.kind = 5 ∨ s.f.kind = 6 ∨ s.f.kind = 7 ∨ s.f.kind = 8) ∧ (b34 = false → ¬ (s.f.kind = 5 ∨ s.f.kind = 6 ∨ s.f.kind = 7 ∨ s.f.kind = 8)) ∧ (Below w.heap.size w w') ∧ (w12.heap.size ≤ w'.heap.size) ∧ (TsRd w' w.heap.size tv D) ∧ (RdC w' 0 w.heap.size 3 tv D.length (D.flatMap cellsT)) ∧ (XsRd w' w.heap.size s.f.vv s.f.vals) ∧ (RdC w' 0 w.heap.size 7 s.f.vv s.f.vals.length (s.f.vals.flatMap cellsX)) ∧ (XsRd w' w.heap.size s.f.ov s.f.on) ∧ (RdC w' 0 w.heap.size 7 s.f.ov s.f.on.length (s.f.on.flatMap cellsX)) ∧ (XsRd w' w.heap.size s.f.wv s.f.wh) ∧ (RdC w' 0 w.heap.size 7 s.f.wv s.f.wh.length (s.f.wh.flatMap cellsX)) ∧ (XsRd w' w.heap.size s.f.rv s.f.ord) ∧ (RdC w' 0 w.heap.size 7 s.f.rv s.f.ord.length (s.f.ord.flatMap cellsX)) ∧ (RdC w' 0 w.heap.size 3 s.f.iv s.f.items.length (s.f.items.flatMap cellsI)) ∧ (RdC w' 0 w.heap.size 3 s.f.cv s.f.cols.length (s.f.cols.flatMap cellsC)) ∧ (RdC w' 0 w.heap.size 13 s.nv s.inner.length (s.inner.flatMap cellsS)) ∧ (SsRd w' w.heap.size s.inner) ∧ (Bx w' b3 39 [tv, (.slice none 0 0)]) ∧ (Bx w' b7 45 [(.int .i64 s.f.kind), (.string (bs s.f.tb)), (.string (bs s.f.nm)), s.f.cv, s.f.gv, s.f.vv, s.f.iv, (.string (bs s.f.join)), s.f.ov, s.f.wv, s.f.rv, (.bool s.f.desc), s.nv])) (fun hJ49 => ?_) ?_))
  ·
   refine zF fun K50 hK50 => ?_
   refine zF fun K51 hK51 => ?_
   refine zH ?_
   refine op_eql (zA hN rfl) rfl (fun c35 => ?_) (fun c35 => ?_)
   ·
    refine zD (zA hN rfl) ?_
    refine zB ?_
    refine hK51 _ _ (wp_cond_true (zA hN rfl) (wp_skip (hK50 _ _ ?_)))
    exact hJ49 _ _ _ hN hd ⟨true, (zU hN rfl), (zU hN rfl), (zU hN rfl), (zU hN rfl), (fun _ => by omega), (fun h => (by cases h)), hb, zx, hT, hR, hfv, hfvR, hfo, hfoR, hfw, hfwR, hfr, hfrR, hfi, hfc, hfn, hnall, hB5, hB9⟩
   refine zD (zA hN rfl) ?_
   refine zB ?_
   refine hK51 _ _ (wp_cond_false (zA hN rfl) (zF fun K52 hK52 => ?_))
   refine zH ?_
   refine op_eql (zA hN rfl) rfl (fun c36 => ?_) (fun c36 => ?_)
   ·
    refine zD (zA hN rfl) ?_
    refine zB ?_
    refine hK52 _ _ (wp_cond_true (zA hN rfl) (wp_skip (hK50 _ _ ?_)))
    exact hJ49 _ _ _ hN hd ⟨true, (zU hN rfl), (zU hN rfl), (zU hN rfl), (zU hN rfl), (fun _ => by omega), (fun h => (by cases h)), hb, zx, hT, hR, hfv, hfvR, hfo, hfoR, hfw, hfwR, hfr, hfrR, hfi, hfc, hfn, hnall, hB5, hB9⟩
   refine zD (zA hN rfl) ?_
   refine zB ?_
   refine hK52 _ _ (wp_cond_false (zA hN rfl) (zF fun K53 hK53 => ?_))
   refine zH ?_
   refine op_eql (zA hN rfl) rfl (fun c37 => ?_) (fun c37 => ?_)
   ·
    refine zD (zA hN rfl) ?_
    refine zB ?_
    refine hK53 _ _ (wp_cond_true (zA hN rfl) (wp_skip (hK50 _ _ ?_)))
    exact hJ49 _ _ _ hN hd ⟨true, (zU hN rfl), (zU hN rfl), (zU hN rfl), (zU hN rfl), (fun _ => by omega), (fun h => (by cases h)), hb, zx, hT, hR, hfv, hfvR, hfo, hfoR, hfw, hfwR, hfr, hfrR, hfi, hfc, hfn, hnall, hB5, hB9⟩
   refine zD (zA hN rfl) ?_
   refine zB ?_
   refine hK53 _ _ (wp_cond_false (zA hN rfl) (zH ?_))
   refine op_eql (zA hN rfl) rfl (fun c38 => ?_) (fun c38 => ?_)
   ·
    refine zD (zA hN rfl) ?_
    refine zB ?_
    refine hK50 _ _ ?_
    exact hJ49 _ _ _ hN hd ⟨true, (zU hN rfl), (zU hN rfl), (zU hN rfl), (zU hN rfl), (fun _ => by omega), (fun h => (by cases h)), hb, zx, hT, hR, hfv, hfvR, hfo, hfoR, hfw, hfwR, hfr, hfrR, hfi, hfc, hfn, hnall, hB5, hB9⟩
   refine zD (zA hN rfl) ?_
   refine zB ?_
   refine hK50 _ _ ?_
   exact hJ49 _ _ _ hN hd ⟨false, (zU hN rfl), (zU hN rfl), (zU hN rfl), (zU hN rfl), (fun h => (by cases h)), (fun _ => by omega), hb, zx, hT, hR, hfv, hfvR, hfo, hfoR, hfw, hfwR, hfr, hfrR, hfi, hfc, hfn, hnall, hB5, hB9⟩
  rintro a49 w49 hN49 hd49 ⟨b34, s49_2, s49_3, s49_4, s49_34, hb34, hb35, hb, zl_w49, hT, hR, hfv, hfvR, hfo, hfoR, hfw, hfwR, hfr, hfrR, hfi, hfc, hfn, hnall, hB5, hB9⟩
  have := hb.size
  refine wp_cond_split (zC hN49 rfl s49_34) (fun c34 => ?_) (fun c34 => ?_)
  ·
   refine zF fun K54 hK54 => ?_
   refine zH ?_
   refine zY agg39 rfl (zC hN49 rfl s49_2) hB5 ?_
   refine zM fld45_1 (zC hN49 rfl s49_3) ?_
   refine zN (v := (Value.string (bs s.f.tb))) one9 (zA hN49 rfl) (hB9.cell rfl) ?_
   rcases Bool.eq_false_or_eq_true ((tabAt (D.map DTab.t) s.f.tb).isSome) with k43 | k43
   ·
    refine zj ok50 (Table9T k43 hT zx hD) ⟨(zA hN49 rfl), ⟨(zA hN49 rfl), trivial⟩⟩ ?_
    rintro _ w56 ⟨E57, d55, rfl, ht55, hO55, hP55⟩
    have E57 := zQ E57
    have := E57.size
    have hT := hT.keep0 E57
    have hfv := hfv.keep0 E57
    have hfo := hfo.keep0 E57
    have hfw := hfw.keep0 E57
    have hfr := hfr.keep0 E57
    have hfi := hfi.keep0 E57
    have hnall := hnall.keep0 E57
    obtain ⟨hB5, hB9⟩ := kb2 E57 hB5 hB9
    have hb := zP hb E57 hb.size
    refine zG (zA hN49 rfl) ?_
    refine zW (zA hN49 rfl) rfl ?_
    refine zW (zA hN49 rfl) rfl ?_
    refine op_alloc (cs := [(.string (bs [])), (.slice none 0 0), (.slice none 0 0)]) zero55 rfl ?_
    intro w58 b59 lo_b59 hi_b59 hB61 E60
    have := E60.size
    have hT := hT.keep0 E60
    have hfv := hfv.keep0 E60
    have hfo := hfo.keep0 E60
    have hfw := hfw.keep0 E60
    have hfr := hfr.keep0 E60
    have hfi := hfi.keep0 E60
    have hnall := hnall.keep0 E60
    have hO55 := hO55.keep0 E60
    have hP55 := hP55.keep0 E60
    obtain ⟨hB5, hB9⟩ := kb2 E60 hB5 hB9
    have hb := zP hb E60 hb.size
    have hB61_old := hB61
    refine zZ size55 (zA hN49 rfl) (zA hN49 rfl) rfl (by simp only [List.all_cons, List.all_nil, Bool.true_and, Bool.and_true, hO55.one, hP55.one]; try rfl) hB61 rfl ?_
    intro w64 hB61 E65
    have := E65.size
    have hT := hT.keep E65 sR
    have hfv := hfv.keep E65 sR
    have hfo := hfo.keep E65 sR
    have hfw := hfw.keep E65 sR
    have hfr := hfr.keep E65 sR
    have hfi := hfi.keep E65 sR
    have hnall := hnall.keep E65 sR
    have hB5 := hB5.keep E65 (sN hB5 hB61_old)
    have hB9 := hB9.keep E65 (sN hB9 hB61_old)
    have hO55 := hO55.keep E65 sR
    have hb := below_step1 hb E65 hb.size zx
    refine zD (zA hN49 rfl) ?_
    refine zB ?_
    refine hK54 _ _ (zF fun K66 hK66 => ?_)
    refine zF fun K67 hK67 => ?_
    refine zH ?_
    refine zG (zA hN49 rfl) ?_
    refine op_not (zA hN49 rfl) ?_
    refine zB ?_
    refine hK67 _ _ (wp_cond_false (zA hN49 rfl) (wp_skip (hK66 _ _ (zF fun K68 hK68 => ?_))))
    refine zF fun K69 hK69 => ?_
    refine zH ?_
    have hdl := (hsz9 _ (tab_mem ht55)).1
    refine zM fld45_0 (zC hN49 rfl s49_3) ?_
    refine zN (v := (Value.int .i64 s.f.kind)) one3 (zA hN49 rfl) (hB9.cell rfl) ?_
    refine op_eql (zA hN49 rfl) rfl (fun c50 => ?_) (fun c50 => ?_)
    ·
     refine zB ?_
     refine hK69 _ _ (wp_cond_true (zA hN49 rfl) (zF fun K70 hK70 => ?_))
     refine zH ?_
     refine zY agg39 rfl (zC hN49 rfl s49_2) hB5 ?_
     refine zY agg45 rfl (zC hN49 rfl s49_3) hB9 ?_
     refine zY agg55 rfl (zA hN49 rfl) hB61 ?_
     refine zj ok51 (selected9 (f := s.f) (t := d55.t) (hT.mono zx) zx hD hsz (hO55.mono (Nat.zero_le _) zx) (hfo.mono zx) (hfw.mono zx) (hfr.mono zx) (hfi.mono (Nat.zero_le _) zx) zx (lists_on c10 c50) (lists_ord c10 c50)) ⟨(zA hN49 rfl), ⟨(zA hN49 rfl), ⟨(zA hN49 rfl), trivial⟩⟩⟩ ?_
     rintro _ w71 ⟨E72, rfl⟩
     have E72 := zQ E72
     have := E72.size
     have hnall := hnall.keep0 E72
     have hb := zP hb E72 hb.size
     refine zD (zA hN49 rfl) ?_
     refine zB ?_
     refine hK70 _ _ (wp_ret (zO (zb (zO ( ?_)))))
     refine ret1 rfl hd49 (zA hN49 rfl) ⟨_, rfl, ?_⟩
     have e9 : checkE (D.map DTab.t) [] s = (selR (D.map DTab.t) d55.t s.f) := (check_flat c10 zx).trans (flat_sel9 c50 ht55)
     rw [e9]; exact ⟨hb, rfl⟩
    refine zB ?_
    refine hK69 _ _ (wp_cond_false (zA hN49 rfl) (wp_skip (hK68 _ _ (zF fun K73 hK73 => ?_))))
    refine zH ?_
    refine zY agg45 rfl (zC hN49 rfl s49_3) hB9 ?_
    refine zY agg55 rfl (zA hN49 rfl) hB61 ?_
    refine zj ok52 (writes_ret (f := s.f) (t := d55.t) zx (hO55.mono (Nat.zero_le _) zx) (hfv.mono zx) (hfw.mono zx) zx (lists_upd c10)) ⟨(zA hN49 rfl), ⟨(zA hN49 rfl), trivial⟩⟩ ?_
    rintro _ w74 ⟨E75, rfl⟩
    have E75 := zQ E75
    have := E75.size
    have hnall := hnall.keep0 E75
    have hb := zP hb E75 hb.size
    refine zD (zA hN49 rfl) ?_
    refine zB ?_
    refine hK73 _ _ (wp_ret (zb (zO ( ?_))))
    refine ret1 rfl hd49 (zA hN49 rfl) ⟨_, rfl, ?_⟩
    have e9 : checkE (D.map DTab.t) [] s = (wrE d55.t s.f) := (check_flat c10 zx).trans (flat_wr9 (by have h9 := hb34 c34; omega) ht55)
    rw [e9]; exact ⟨hb, rfl⟩
   refine zj ok50 (Table9F k43 hT zx hD) ⟨(zA hN49 rfl), ⟨(zA hN49 rfl), trivial⟩⟩ ?_
   rintro _ w76 ⟨E77, rfl⟩
   have E77 := zQ E77
   have := E77.size
   have hnall := hnall.keep0 E77
   have hb := zP hb E77 hb.size
   refine zG (zA hN49 rfl) ?_
   refine zW (zA hN49 rfl) rfl ?_
   refine zW (zA hN49 rfl) rfl ?_
   refine op_alloc (cs := [(.string (bs [])), (.slice none 0 0), (.slice none 0 0)]) zero55 rfl ?_
   intro w78 b79 lo_b79 hi_b79 hB81 E80
   have := E80.size
   have hnall := hnall.keep0 E80
   have hb := zP hb E80 hb.size
   refine zZ size55 (zA hN49 rfl) (zA hN49 rfl) rfl rfl hB81 rfl ?_
   intro w84 hB81 E85
   have := E85.size
   have hnall := hnall.keep E85 sR
   have hb := below_step1 hb E85 hb.size zx
   refine zD (zA hN49 rfl) ?_
   refine zB ?_
   refine hK54 _ _ (zF fun K86 hK86 => ?_)
   refine zF fun K87 hK87 => ?_
   refine zH ?_
   refine zG (zA hN49 rfl) ?_
   refine op_not (zA hN49 rfl) ?_
   refine zB ?_
   refine hK87 _ _ (wp_cond_true (zA hN49 rfl) (zF fun K88 hK88 => ?_))
   refine zH ?_
   refine zD rfl ?_
   refine zB ?_
   refine hK88 _ _ (wp_ret (zO (zb (zO ( ?_)))))
   refine ret1 rfl hd49 (zA hN49 rfl) ⟨_, rfl, ?_⟩
   have e9 : checkE (D.map DTab.t) [] s = 9 := (check_flat c10 zx).trans (flat_none9 (hb34 c34) k43)
   rw [e9]; exact ⟨hb, rfl⟩
  refine wp_skip (hK14 _ _ (zF fun K89 hK89 => ?_))
  refine zH ?_
  refine zD rfl ?_
  refine zB ?_
  refine hK89 _ _ (wp_ret ?_)
  refine ret1 rfl hd49 (zA hN49 rfl) ⟨_, rfl, ?_⟩
  have e9 : checkE (D.map DTab.t) [] s = 0 := (check_flat c10 zx).trans (flat_else (by have h9 := hb35 c34; omega))
  rw [e9]; exact ⟨hb, rfl⟩
 rw [c10]
 refine op_not (zA hN rfl) ?_
 refine zB ?_
 refine hK11 _ _ (wp_cond_true (zA hN rfl) (zF fun K90 hK90 => ?_))
 refine zH ?_
 refine zD rfl ?_
 refine zB ?_
 refine hK90 _ _ (wp_ret (zO ( ?_)))
 refine ret1 rfl hd (zA hN rfl) ⟨_, rfl, ?_⟩
 have e9 : checkE (D.map DTab.t) [] s = 1 := check_bad c10
 rw [e9]; exact ⟨hb, rfl⟩

theorem CheckQ_all : ∀ s, CheckQ s := XS.ind fun s ih tv D w hT hD hsz he => Check9_in s ih hT hD hsz he
end Go.Proofs.Ythflnkfghogaoaa
