/- Walks, written by a program: what each function of the translation hands back. -/
import Derived.Test.YtkkongnmcfdioaaR1
namespace Go.Proofs.Ytkkongnmcfdioaa
open Go.Gx Go.RowKit
attribute [local irreducible] wpList Code.wp Calls

theorem light_ret (l : List Vl) (v : Value) (w : World) (hl : l.length ≤ 9223372036854775807) (ho : ∀ x ∈ l, OkV x) (h : RdC w 0 w.heap.size 3 v l.length (l.flatMap cellsV)) : Ret Try.prog 44 #[v] w (fun v' w' => Below w.heap.size w w' ∧ v' = .bool (lightR l)) := by
  have hb := Below.refl w.heap.size w
  refine enter (N := 20) Try.func44 rfl rfl (by simp) fun a0 hN hd hA => ?_
  have s0 : a0.tmps.getD 0 undef = v := hA 0 (by simp)
  clear hA
  refine seq_any fun K1 hK1 => ?_
  refine one_reg ?_
  refine op_assign rfl ?_
  refine reg_nil ?_
  refine hK1 _ _ ?_
  refine seq_any fun K2 hK2 => ?_
  refine seq_any fun K3 hK3 => ?_
  refine one_reg ?_
  refine op_move (ev_base hN rfl s0) ?_
  refine op_len_rd Try.underlying65 (ev_hit hN rfl) h ?_
  refine op_gtr (ev_hit hN rfl) rfl (fun c6 => ?_) (fun c6 => ?_)
  · -- 6 True
    refine reg_nil ?_
    refine hK3 _ _ ?_
    refine wp_cond_true (ev_hit hN rfl) ?_
    refine seq_any fun K4 hK4 => ?_
    refine one_reg ?_
    refine op_assign rfl ?_
    refine reg_nil ?_
    refine hK4 _ _ ?_
    refine wp_ret (then_ret ( ?_))
    refine ret1 rfl hd (ev_hit hN rfl) ⟨_, rfl, ?_⟩
    -- path 6T
    exact ⟨hb, congrArg Value.bool (by rw [lightR, Bool.and_comm, show decide (l.length ≤ 20) = false from decide_eq_false (by omega), Bool.false_and])⟩
  · -- 6 False
    refine reg_nil ?_
    refine hK3 _ _ ?_
    refine wp_cond_false (ev_hit hN rfl) ?_
    refine wp_skip ?_
    refine hK2 _ _ ?_
    refine seq_any fun K5 hK5 => ?_
    refine seq_any fun K6 hK6 => ?_
    refine one_reg ?_
    refine op_assign rfl ?_
    refine reg_nil ?_
    refine hK6 _ _ ?_
    refine wp_block ?_
    refine loop_m (fun mz_ a w' => ∃ (i : Nat), mz_ = l.length - i ∧ (a.tmps.getD 0 undef = v) ∧ (a.tmps.getD 4 undef = v) ∧ (a.tmps.getD 5 undef = (Value.int .i64 ((l.length : Nat) : Int))) ∧ (a.tmps.getD 6 undef = (Value.bool false)) ∧ (a.tmps.getD 3 undef = (Value.int .i64 ((i : Nat) : Int))) ∧ (i ≤ l.length) ∧ ((l.take i).all (fun x : Vl => decide (x.s.length ≤ 200)) = true) ∧ (Below w.heap.size w w') ∧ (RdC w' 0 w.heap.size 3 v l.length (l.flatMap cellsV))) _ hN hd ⟨0, rfl, (sl_base hN rfl s0), (sl_hit hN rfl), (sl_hit hN rfl), (sl_hit hN rfl), (sl_hit hN rfl), Nat.zero_le _, (by simp), hb, h⟩ ?_
    rintro _ a7 w7 hN7 hd7 ⟨i, rfl, s7_0, s7_4, s7_5, s7_6, s7_3, hi, hall, hb, h⟩
    have z_w7 := hb.size
    refine seq_any fun K8 hK8 => ?_
    refine seq_any fun K9 hK9 => ?_
    refine one_reg ?_
    refine op_move (ev_base hN7 rfl s7_3) ?_
    refine op_move (ev_base hN7 rfl s7_0) ?_
    refine op_len_rd Try.underlying65 (ev_hit hN7 rfl) h ?_
    refine op_lss (ev_hit hN7 rfl) (ev_hit hN7 rfl) (fun c10 => ?_) (fun c10 => ?_)
    · -- 10 True
      refine reg_nil ?_
      refine hK9 _ _ ?_
      refine wp_cond_true (ev_hit hN7 rfl) ?_
      refine wp_skip ?_
      refine hK8 _ _ ?_
      refine seq_any fun K10 hK10 => ?_
      refine wp_block ?_
      refine seq_any fun K11 hK11 => ?_
      refine one_reg ?_
      refine op_move (ev_base hN7 rfl s7_0) ?_
      refine op_move (ev_base hN7 rfl s7_3) ?_
      refine op_index_rd slt65 (ev_hit hN7 rfl) h (ev_hit hN7 rfl) (by omega) (by omega) ?_
      intro b12 o13 h0b12 h1b12 hc14
      refine op_field fld50_2 (ev_hit hN7 rfl) ?_
      refine op_load1 (v := (Value.string (bs (l.getD i V0).s))) one9 (ev_hit hN7 rfl) (hc14 2 ((Value.string (bs (l.getD i V0).s))) (by decide) ((fun j u hu => el_val (l := l) (i := i) (by omega) (by omega) hu) 2 ((Value.string (bs (l.getD i V0).s))) rfl)) ?_
      refine op_len_str Try.underlying9 (ev_hit hN7 rfl) ?_
      refine op_gtr (ev_hit hN7 rfl) rfl (fun c19 => ?_) (fun c19 => ?_)
      · -- 19 True
        refine reg_nil ?_
        refine hK11 _ _ ?_
        refine wp_cond_true (ev_hit hN7 rfl) ?_
        refine seq_any fun K15 hK15 => ?_
        refine one_reg ?_
        refine op_assign rfl ?_
        refine reg_nil ?_
        refine hK15 _ _ ?_
        refine wp_ret (blk_ret (then_ret (then_ret (blk_ret (then_ret ( ?_))))))
        refine ret1 rfl hd7 (ev_hit hN7 rfl) ⟨_, rfl, ?_⟩
        -- path 6F 10T 19T
        exact ⟨hb, congrArg Value.bool (by rw [lightR, allbad (d := V0) (i := i) (by omega) (decide_eq_false (by omega)), Bool.false_and])⟩
      · -- 19 False
        refine reg_nil ?_
        refine hK11 _ _ ?_
        refine wp_cond_false (ev_hit hN7 rfl) ?_
        refine wp_skip ?_
        refine hK10 _ _ ?_
        refine one_reg ?_
        refine op_move (ev_base hN7 rfl s7_3) ?_
        refine op_add (ev_hit hN7 rfl) rfl (add64 (by omega)) ?_
        refine op_assign (ev_hit hN7 rfl) ?_
        refine reg_nil ?_
        -- round 6F 10T 19F
        exact loop_next _ hN7 hd7 ⟨i + 1, rfl, (sl_base hN7 rfl s7_0), (sl_base hN7 rfl s7_4), (sl_base hN7 rfl s7_5), (sl_base hN7 rfl s7_6), (sl_hit hN7 rfl).trans (congrArg (Value.int .i64) (by omega)), (by omega), (allsnoc (d := V0) (by omega) hall (decide_eq_true (by omega))), hb, h⟩ (by omega)
    · -- 10 False
      refine reg_nil ?_
      refine hK9 _ _ ?_
      refine wp_cond_false (ev_hit hN7 rfl) ?_
      refine wp_exit (then_exit (then_exit (blk_hit ?_)))
      refine hK5 _ _ ?_
      refine seq_any fun K16 hK16 => ?_
      refine one_reg ?_
      refine op_assign rfl ?_
      refine reg_nil ?_
      refine hK16 _ _ ?_
      refine wp_ret ?_
      refine ret1 rfl hd7 (ev_hit hN7 rfl) ⟨_, rfl, ?_⟩
      -- path 6F 10F
      exact ⟨hb, congrArg Value.bool (by rw [lightR, allwhole (by omega) hall, Bool.true_and]; exact (decide_eq_true (by omega)).symm)⟩

theorem SameRow_ret (l m : List Vl) (v u : Value) (w : World) (hl : l.length ≤ 9223372036854775807) (h : RdC w 0 w.heap.size 3 v l.length (l.flatMap cellsV)) (h2 : RdC w 0 w.heap.size 3 u m.length (m.flatMap cellsV)) : Ret Try.prog 51 #[v, u] w (fun v' w' => Below w.heap.size w w' ∧ v' = .bool (decide (l = m))) := by
  have hb := Below.refl w.heap.size w
  refine enter (N := 26) Try.func51 rfl rfl (by simp) fun a0 hN hd hA => ?_
  have s0 : a0.tmps.getD 0 undef = v := hA 0 (by simp)
  have s1 : a0.tmps.getD 1 undef = u := hA 1 (by simp)
  clear hA
  refine seq_any fun K17 hK17 => ?_
  refine one_reg ?_
  refine op_assign rfl ?_
  refine reg_nil ?_
  refine hK17 _ _ ?_
  refine seq_any fun K18 hK18 => ?_
  refine seq_any fun K19 hK19 => ?_
  refine one_reg ?_
  refine op_move (ev_base hN rfl s0) ?_
  refine op_len_rd Try.underlying65 (ev_hit hN rfl) h ?_
  refine op_move (ev_base hN rfl s1) ?_
  refine op_len_rd Try.underlying65 (ev_hit hN rfl) h2 ?_
  refine op_neq (ev_hit hN rfl) (ev_hit hN rfl) (fun c10 => ?_) (fun c10 => ?_)
  · -- 10 True
    refine reg_nil ?_
    refine hK19 _ _ ?_
    refine wp_cond_true (ev_hit hN rfl) ?_
    refine seq_any fun K20 hK20 => ?_
    refine one_reg ?_
    refine op_assign rfl ?_
    refine reg_nil ?_
    refine hK20 _ _ ?_
    refine wp_ret (then_ret ( ?_))
    refine ret1 rfl hd (ev_hit hN rfl) ⟨_, rfl, ?_⟩
    -- path 10T
    exact ⟨hb, congrArg Value.bool (decide_eq_false (fun hh => by subst hh; omega)).symm⟩
  · -- 10 False
    refine reg_nil ?_
    refine hK19 _ _ ?_
    refine wp_cond_false (ev_hit hN rfl) ?_
    refine wp_skip ?_
    refine hK18 _ _ ?_
    refine seq_any fun K21 hK21 => ?_
    refine seq_any fun K22 hK22 => ?_
    refine one_reg ?_
    refine op_assign rfl ?_
    refine reg_nil ?_
    refine hK22 _ _ ?_
    refine wp_block ?_
    refine loop_m (fun mz_ a w' => ∃ (i : Nat), mz_ = l.length - i ∧ (a.tmps.getD 0 undef = v) ∧ (a.tmps.getD 1 undef = u) ∧ (a.tmps.getD 6 undef = v) ∧ (a.tmps.getD 7 undef = (Value.int .i64 ((l.length : Nat) : Int))) ∧ (a.tmps.getD 8 undef = u) ∧ (a.tmps.getD 9 undef = (Value.int .i64 ((m.length : Nat) : Int))) ∧ (a.tmps.getD 10 undef = (Value.bool false)) ∧ (a.tmps.getD 5 undef = (Value.int .i64 ((i : Nat) : Int))) ∧ (i ≤ l.length) ∧ (l.take i = m.take i) ∧ (Below w.heap.size w w') ∧ (RdC w' 0 w.heap.size 3 v l.length (l.flatMap cellsV)) ∧ (RdC w' 0 w.heap.size 3 u m.length (m.flatMap cellsV))) _ hN hd ⟨0, rfl, (sl_base hN rfl s0), (sl_base hN rfl s1), (sl_hit hN rfl), (sl_hit hN rfl), (sl_hit hN rfl), (sl_hit hN rfl), (sl_hit hN rfl), (sl_hit hN rfl), Nat.zero_le _, rfl, hb, h, h2⟩ ?_
    rintro _ a23 w23 hN23 hd23 ⟨i, rfl, s23_0, s23_1, s23_6, s23_7, s23_8, s23_9, s23_10, s23_5, hi, htk, hb, h, h2⟩
    have z_w23 := hb.size
    refine seq_any fun K24 hK24 => ?_
    refine seq_any fun K25 hK25 => ?_
    refine one_reg ?_
    refine op_move (ev_base hN23 rfl s23_5) ?_
    refine op_move (ev_base hN23 rfl s23_0) ?_
    refine op_len_rd Try.underlying65 (ev_hit hN23 rfl) h ?_
    refine op_lss (ev_hit hN23 rfl) (ev_hit hN23 rfl) (fun c14 => ?_) (fun c14 => ?_)
    · -- 14 True
      refine reg_nil ?_
      refine hK25 _ _ ?_
      refine wp_cond_true (ev_hit hN23 rfl) ?_
      refine wp_skip ?_
      refine hK24 _ _ ?_
      refine seq_any fun K26 hK26 => ?_
      refine wp_block ?_
      refine seq_any fun K27 hK27 => ?_
      refine reg_quiet (Φ := phiL [(fun uz _ => uz = v), (fun uz _ => uz = (Value.int .i64 ((i : Nat) : Int))), (fun uz w' => ∃ (b28 : (Nat)) (o29 : (Nat)), uz = (ptr b28 o29) ∧ PtC w' 0 w.heap.size b28 o29 [(Value.int .i64 (l.getD i V0).k), (Value.int .i64 (l.getD i V0).n), (Value.string (bs (l.getD i V0).s))]), (fun uz _ => uz = (Value.agg #[(Value.int .i64 (l.getD i V0).k), (Value.int .i64 (l.getD i V0).n), (Value.string (bs (l.getD i V0).s))])), (fun uz _ => uz = u), (fun uz _ => uz = (Value.int .i64 ((i : Nat) : Int))), (fun uz w' => ∃ (b32 : (Nat)) (o33 : (Nat)), uz = (ptr b32 o33) ∧ PtC w' 0 w.heap.size b32 o33 [(Value.int .i64 (m.getD i V0).k), (Value.int .i64 (m.getD i V0).n), (Value.string (bs (m.getD i V0).s))]), (fun uz _ => uz = (Value.agg #[(Value.int .i64 (m.getD i V0).k), (Value.int .i64 (m.getD i V0).n), (Value.string (bs (m.getD i V0).s))])), (fun uz _ => uz = (Value.bool (!decide ((l.getD i V0).k = (m.getD i V0).k ∧ (l.getD i V0).n = (m.getD i V0).n ∧ (l.getD i V0).s = (m.getD i V0).s))))]) mixed (by kernel_rfl) (by kernel_rfl) (by kernel_rfl) hN23 (StL.get (StL.eq (StL.eq (StL.cons (fun u w1 w2 E h => by obtain ⟨x0, x1, hv, f0⟩ := h; exact ⟨x0, x1, hv, f0.keep0 E⟩) (StL.eq (StL.eq (StL.eq (StL.cons (fun u w1 w2 E h => by obtain ⟨x0, x1, hv, f0⟩ := h; exact ⟨x0, x1, hv, f0.keep0 E⟩) (StL.eq (StL.eq (StL.nil _))))))))))) (ObL.get (s := 9) (ObL.cons ?_ (ObL.cons ?_ (ObL.cons ?_ (ObL.cons ?_ (ObL.cons ?_ (ObL.cons ?_ (ObL.cons ?_ (ObL.cons ?_ (ObL.cons ?_ (ObL.nil)))))))))) rfl) ?_
      · -- operation 0, slot 17
        intro a28 w28 hN28 hR28 hbs28 hdp28
        have hR28 : w23.grownBy w28 none := hR28
        have q28_0 : a28.tmps.getD 0 undef = v := (hbs28 0 rfl).trans (sl_base hN23 rfl s23_0)
        clear hbs28 hdp28
        refine op_move (ev_base hN28 rfl q28_0) ?_
        exact obN_end rfl rfl ((grown_refl _ _))
      · -- operation 1, slot 18
        intro a29 w29 hN29 hR29 hbs29 hdp29
        have hR29 : w23.grownBy w29 none := hR29
        have q29_5 : a29.tmps.getD 5 undef = (Value.int .i64 ((i : Nat) : Int)) := (hbs29 5 rfl).trans (sl_base hN23 rfl s23_5)
        clear hbs29 hdp29
        refine op_move (ev_base hN29 rfl q29_5) ?_
        exact obN_end rfl rfl ((grown_refl _ _))
      · -- operation 2, slot 19
        intro a30 w30 hN30 hR30 hbs30 hdp30
        have hR30 : w23.grownBy w30 none := hR30
        have z_w30 := hR30.size
        have h := h.keep0 hR30
        have h2 := h2.keep0 hR30
        have hb := below_step0 hb hR30 hb.size
        have q30_17 : a30.tmps.getD 17 undef = v := hdp30 0 _ 17 (by kernel_rfl) rfl rfl
        have q30_18 : a30.tmps.getD 18 undef = (Value.int .i64 ((i : Nat) : Int)) := hdp30 1 _ 18 (by kernel_rfl) rfl rfl
        clear hbs30 hdp30
        refine op_index_rd slt65 (ev_base hN30 rfl q30_17) h (ev_base hN30 rfl q30_18) (by omega) (by omega) ?_
        intro b31 o32 h0b31 h1b31 hc33
        have hp34 : PtC w30 0 w.heap.size b31 o32 [(Value.int .i64 (l.getD i V0).k), (Value.int .i64 (l.getD i V0).n), (Value.string (bs (l.getD i V0).s))] := ⟨h0b31, h1b31, fun j u hu => hc33 j u (by have := (List.getElem?_eq_some_iff.1 hu).1; simpa using this) ((fun j u hu => el_val (l := l) (i := i) (by omega) (by omega) hu) j u hu)⟩
        exact obN_end rfl ⟨b31, o32, rfl, hp34⟩ ((grown_refl _ _))
      · -- operation 3, slot 20
        intro a35 w35 hN35 hR35 hbs35 hdp35
        have hR35 : w23.grownBy w35 none := hR35
        have z_w35 := hR35.size
        have h := h.keep0 hR35
        have h2 := h2.keep0 hR35
        have hb := below_step0 hb hR35 hb.size
        obtain ⟨b28, o29, q35_19, hp31⟩ := hdp35 2 _ 19 (by kernel_rfl) rfl rfl
        have hp31 : PtC w35 0 w.heap.size b28 o29 [(Value.int .i64 (l.getD i V0).k), (Value.int .i64 (l.getD i V0).n), (Value.string (bs (l.getD i V0).s))] := hp31
        clear hbs35 hdp35
        refine op_loadA (cs := [(Value.int .i64 (l.getD i V0).k), (Value.int .i64 (l.getD i V0).n), (Value.string (bs (l.getD i V0).s))]) agg50 rfl (ev_base hN35 rfl q35_19) (fun j u hu => hp31.2.2 j u hu) ?_
        exact obN_end rfl rfl ((grown_refl _ _))
      · -- operation 4, slot 21
        intro a36 w36 hN36 hR36 hbs36 hdp36
        have hR36 : w23.grownBy w36 none := hR36
        have q36_1 : a36.tmps.getD 1 undef = u := (hbs36 1 rfl).trans (sl_base hN23 rfl s23_1)
        clear hbs36 hdp36
        refine op_move (ev_base hN36 rfl q36_1) ?_
        exact obN_end rfl rfl ((grown_refl _ _))
      · -- operation 5, slot 22
        intro a37 w37 hN37 hR37 hbs37 hdp37
        have hR37 : w23.grownBy w37 none := hR37
        have q37_5 : a37.tmps.getD 5 undef = (Value.int .i64 ((i : Nat) : Int)) := (hbs37 5 rfl).trans (sl_base hN23 rfl s23_5)
        clear hbs37 hdp37
        refine op_move (ev_base hN37 rfl q37_5) ?_
        exact obN_end rfl rfl ((grown_refl _ _))
      · -- operation 6, slot 23
        intro a38 w38 hN38 hR38 hbs38 hdp38
        have hR38 : w23.grownBy w38 none := hR38
        have z_w38 := hR38.size
        have h := h.keep0 hR38
        have h2 := h2.keep0 hR38
        have hb := below_step0 hb hR38 hb.size
        have q38_21 : a38.tmps.getD 21 undef = u := hdp38 4 _ 21 (by kernel_rfl) rfl rfl
        have q38_22 : a38.tmps.getD 22 undef = (Value.int .i64 ((i : Nat) : Int)) := hdp38 5 _ 22 (by kernel_rfl) rfl rfl
        clear hbs38 hdp38
        refine op_index_rd slt65 (ev_base hN38 rfl q38_21) h2 (ev_base hN38 rfl q38_22) (by omega) (by omega) ?_
        intro b39 o40 h0b39 h1b39 hc41
        have hp42 : PtC w38 0 w.heap.size b39 o40 [(Value.int .i64 (m.getD i V0).k), (Value.int .i64 (m.getD i V0).n), (Value.string (bs (m.getD i V0).s))] := ⟨h0b39, h1b39, fun j u hu => hc41 j u (by have := (List.getElem?_eq_some_iff.1 hu).1; simpa using this) ((fun j u hu => el_val (l := m) (i := i) (by omega) (by omega) hu) j u hu)⟩
        exact obN_end rfl ⟨b39, o40, rfl, hp42⟩ ((grown_refl _ _))
      · -- operation 7, slot 24
        intro a43 w43 hN43 hR43 hbs43 hdp43
        have hR43 : w23.grownBy w43 none := hR43
        have z_w43 := hR43.size
        have h := h.keep0 hR43
        have h2 := h2.keep0 hR43
        have hb := below_step0 hb hR43 hb.size
        obtain ⟨b32, o33, q43_23, hp35⟩ := hdp43 6 _ 23 (by kernel_rfl) rfl rfl
        have hp35 : PtC w43 0 w.heap.size b32 o33 [(Value.int .i64 (m.getD i V0).k), (Value.int .i64 (m.getD i V0).n), (Value.string (bs (m.getD i V0).s))] := hp35
        clear hbs43 hdp43
        refine op_loadA (cs := [(Value.int .i64 (m.getD i V0).k), (Value.int .i64 (m.getD i V0).n), (Value.string (bs (m.getD i V0).s))]) agg50 rfl (ev_base hN43 rfl q43_23) (fun j u hu => hp35.2.2 j u hu) ?_
        exact obN_end rfl rfl ((grown_refl _ _))
      · -- operation 8, slot 25
        intro a44 w44 hN44 hR44 hbs44 hdp44
        have hR44 : w23.grownBy w44 none := hR44
        have q44_20 : a44.tmps.getD 20 undef = (Value.agg #[(Value.int .i64 (l.getD i V0).k), (Value.int .i64 (l.getD i V0).n), (Value.string (bs (l.getD i V0).s))]) := hdp44 3 _ 20 (by kernel_rfl) rfl rfl
        have q44_24 : a44.tmps.getD 24 undef = (Value.agg #[(Value.int .i64 (m.getD i V0).k), (Value.int .i64 (m.getD i V0).n), (Value.string (bs (m.getD i V0).s))]) := hdp44 7 _ 24 (by kernel_rfl) rfl rfl
        clear hbs44 hdp44
        refine op_aneq (xs := [(Value.int .i64 (l.getD i V0).k), (Value.int .i64 (l.getD i V0).n), (Value.string (bs (l.getD i V0).s))]) (ys := [(Value.int .i64 (m.getD i V0).k), (Value.int .i64 (m.getD i V0).n), (Value.string (bs (m.getD i V0).s))]) (b' := (!decide ((l.getD i V0).k = (m.getD i V0).k ∧ (l.getD i V0).n = (m.getD i V0).n ∧ (l.getD i V0).s = (m.getD i V0).s))) (ev_base hN44 rfl q44_20) (ev_base hN44 rfl q44_24) (eq50 (l.getD i V0).k (m.getD i V0).k (l.getD i V0).n (m.getD i V0).n (l.getD i V0).s (m.getD i V0).s) rfl ?_
        exact obN_end rfl rfl ((grown_refl _ _))
      · -- behind the region
        intro a45 w45 hN45 hd45 hbs45 hph45 E45
        have hd45 := hd45.trans hd23
        have s45_0 : a45.tmps.getD 0 undef = v := (hbs45 0 rfl).trans (sl_base hN23 rfl s23_0)
        have s45_1 : a45.tmps.getD 1 undef = u := (hbs45 1 rfl).trans (sl_base hN23 rfl s23_1)
        have s45_5 : a45.tmps.getD 5 undef = (Value.int .i64 ((i : Nat) : Int)) := (hbs45 5 rfl).trans (sl_base hN23 rfl s23_5)
        have s45_6 : a45.tmps.getD 6 undef = v := (hbs45 6 rfl).trans (sl_base hN23 rfl s23_6)
        have s45_7 : a45.tmps.getD 7 undef = (Value.int .i64 ((l.length : Nat) : Int)) := (hbs45 7 rfl).trans (sl_base hN23 rfl s23_7)
        have s45_8 : a45.tmps.getD 8 undef = u := (hbs45 8 rfl).trans (sl_base hN23 rfl s23_8)
        have s45_9 : a45.tmps.getD 9 undef = (Value.int .i64 ((m.length : Nat) : Int)) := (hbs45 9 rfl).trans (sl_base hN23 rfl s23_9)
        have s45_10 : a45.tmps.getD 10 undef = (Value.bool false) := (hbs45 10 rfl).trans (sl_base hN23 rfl s23_10)
        have s45_11 : a45.tmps.getD 11 undef = (Value.int .i64 ((i : Nat) : Int)) := (hbs45 11 rfl).trans (sl_hit hN23 rfl)
        have s45_12 : a45.tmps.getD 12 undef = v := (hbs45 12 rfl).trans (sl_hit hN23 rfl)
        have s45_13 : a45.tmps.getD 13 undef = (Value.int .i64 ((l.length : Nat) : Int)) := (hbs45 13 rfl).trans (sl_hit hN23 rfl)
        have s45_14 : a45.tmps.getD 14 undef = (Value.bool true) := (hbs45 14 rfl).trans (sl_hit hN23 rfl)
        have s45_17 : a45.tmps.getD 17 undef = v := hph45 0 _ 17 rfl rfl
        have s45_18 : a45.tmps.getD 18 undef = (Value.int .i64 ((i : Nat) : Int)) := hph45 1 _ 18 rfl rfl
        obtain ⟨b28, o29, s45_19, hp31⟩ := hph45 2 _ 19 rfl rfl
        have hp31 : PtC w45 0 w.heap.size b28 o29 [(Value.int .i64 (l.getD i V0).k), (Value.int .i64 (l.getD i V0).n), (Value.string (bs (l.getD i V0).s))] := hp31
        have s45_20 : a45.tmps.getD 20 undef = (Value.agg #[(Value.int .i64 (l.getD i V0).k), (Value.int .i64 (l.getD i V0).n), (Value.string (bs (l.getD i V0).s))]) := hph45 3 _ 20 rfl rfl
        have s45_21 : a45.tmps.getD 21 undef = u := hph45 4 _ 21 rfl rfl
        have s45_22 : a45.tmps.getD 22 undef = (Value.int .i64 ((i : Nat) : Int)) := hph45 5 _ 22 rfl rfl
        obtain ⟨b32, o33, s45_23, hp35⟩ := hph45 6 _ 23 rfl rfl
        have hp35 : PtC w45 0 w.heap.size b32 o33 [(Value.int .i64 (m.getD i V0).k), (Value.int .i64 (m.getD i V0).n), (Value.string (bs (m.getD i V0).s))] := hp35
        have s45_24 : a45.tmps.getD 24 undef = (Value.agg #[(Value.int .i64 (m.getD i V0).k), (Value.int .i64 (m.getD i V0).n), (Value.string (bs (m.getD i V0).s))]) := hph45 7 _ 24 rfl rfl
        have s45_25 : a45.tmps.getD 25 undef = (Value.bool (!decide ((l.getD i V0).k = (m.getD i V0).k ∧ (l.getD i V0).n = (m.getD i V0).n ∧ (l.getD i V0).s = (m.getD i V0).s))) := hph45 8 _ 25 rfl rfl
        clear hbs45 hph45
        have E45 : w23.grownBy w45 none := E45
        have z_w45 := E45.size
        have h := h.keep0 E45
        have h2 := h2.keep0 E45
        have hb := below_step0 hb E45 hb.size
        refine hK27 _ _ ?_
        refine wp_cond_split (ev_base hN45 rfl s45_25) (fun c25 => ?_) (fun c25 => ?_)
        · -- 25 True
          refine seq_any fun K46 hK46 => ?_
          refine one_reg ?_
          refine op_assign rfl ?_
          refine reg_nil ?_
          refine hK46 _ _ ?_
          refine wp_ret (blk_ret (then_ret (then_ret (blk_ret (then_ret ( ?_))))))
          refine ret1 rfl hd45 (ev_hit hN45 rfl) ⟨_, rfl, ?_⟩
          -- path 10F 14T 25T
          exact ⟨hb, congrArg Value.bool (decide_eq_false (fun hh => by subst hh; simp at c25)).symm⟩
        · -- 25 False
          refine wp_skip ?_
          refine hK26 _ _ ?_
          refine one_reg ?_
          refine op_move (ev_base hN45 rfl s45_5) ?_
          refine op_add (ev_hit hN45 rfl) rfl (add64 (by omega)) ?_
          refine op_assign (ev_hit hN45 rfl) ?_
          refine reg_nil ?_
          -- round 10F 14T 25F
          exact loop_next _ hN45 hd45 ⟨i + 1, rfl, (sl_base hN45 rfl s45_0), (sl_base hN45 rfl s45_1), (sl_base hN45 rfl s45_6), (sl_base hN45 rfl s45_7), (sl_base hN45 rfl s45_8), (sl_base hN45 rfl s45_9), (sl_base hN45 rfl s45_10), (sl_hit hN45 rfl).trans (congrArg (Value.int .i64) (by omega)), (by omega), (by rw [snoc (d := V0) (by omega), snoc (l := m) (d := V0) (by omega), htk, vl_ext (x := l.getD i V0) (y := m.getD i V0) (by simpa using c25)]), hb, h, h2⟩ (by omega)
    · -- 14 False
      refine reg_nil ?_
      refine hK25 _ _ ?_
      refine wp_cond_false (ev_hit hN23 rfl) ?_
      refine wp_exit (then_exit (then_exit (blk_hit ?_)))
      refine hK21 _ _ ?_
      refine seq_any fun K47 hK47 => ?_
      refine one_reg ?_
      refine op_assign rfl ?_
      refine reg_nil ?_
      refine hK47 _ _ ?_
      refine wp_ret ?_
      refine ret1 rfl hd23 (ev_hit hN23 rfl) ⟨_, rfl, ?_⟩
      -- path 10F 14F
      exact ⟨hb, congrArg Value.bool (decide_eq_true (by have h3 := htk; rwa [List.take_of_length_le (by omega), List.take_of_length_le (by omega)] at h3)).symm⟩

end Go.Proofs.Ytkkongnmcfdioaa
