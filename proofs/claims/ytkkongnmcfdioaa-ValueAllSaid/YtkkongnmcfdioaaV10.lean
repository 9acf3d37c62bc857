/- Walks, written by a program: what each function of the translation hands back. -/
import Derived.Test.YtkkongnmcfdioaaV9
namespace Go.Proofs.Ytkkongnmcfdioaa
open Go.Gx Go.RowKit
attribute [local irreducible] wpList Code.wp Calls

theorem ValueAll_ret (bl : List UInt8) (x y : Vl) (v : Value) (w : World) (hl : bl.length ≤ 9223372036854775807) (ox : OkV x) (oy : OkV y) (hv : RdC w 0 w.heap.size 1 v bl.length (bl.map u8v)) : Ret Try.prog 5 #[v, (Value.agg #[(Value.int .i64 x.k), (Value.int .i64 x.n), (Value.string (bs x.s))]), (Value.agg #[(Value.int .i64 y.k), (Value.int .i64 y.n), (Value.string (bs y.s))])] w (fun v' w' => Below w.heap.size w w' ∧ v' = .bool true) := by
  have oxk := ox.2.1
  have oxs := ox.2.2
  have oys := oy.2.2
  have hb := Below.refl w.heap.size w
  refine enter (N := 74) Try.func5 rfl rfl (by simp) fun a0 hN hd hA => ?_
  have s0 : a0.tmps.getD 0 undef = v := hA 0 (by simp)
  have s1 : a0.tmps.getD 1 undef = (Value.agg #[(Value.int .i64 x.k), (Value.int .i64 x.n), (Value.string (bs x.s))]) := hA 1 (by simp)
  have s2 : a0.tmps.getD 2 undef = (Value.agg #[(Value.int .i64 y.k), (Value.int .i64 y.n), (Value.string (bs y.s))]) := hA 2 (by simp)
  clear hA
  refine seq_any fun K1 hK1 => ?_
  refine one_reg ?_
  refine op_box (cs := [(Value.int .i64 x.k), (Value.int .i64 x.n), (Value.string (bs x.s))]) (ev_base hN rfl s1) rfl ?_
  intro w2 b3 lo_b3 hi_b3 hB5 E4
  have z_w2 := E4.size
  have hv := hv.keep0 E4
  have hb := below_step0 hb E4 hb.size
  refine op_box (cs := [(Value.int .i64 y.k), (Value.int .i64 y.n), (Value.string (bs y.s))]) (ev_base hN rfl s2) rfl ?_
  intro w6 b7 lo_b7 hi_b7 hB9 E8
  have z_w6 := E8.size
  have hv := hv.keep0 E8
  have hB5 := hB5.keep0 E8
  have hb := below_step0 hb E8 hb.size
  refine op_assign rfl ?_
  refine reg_nil ?_
  refine hK1 _ _ ?_
  refine seq_any fun K10 hK10 => ?_
  refine seq_any fun K11 hK11 => ?_
  refine one_reg ?_
  refine op_fn (vs := []) ok30 trivial (begun4_ret _) ?_
  rintro _ w12 ⟨E13, rfl⟩
  have E13 := grown_of_below E13
  have z_w12 := E13.size
  have hv := hv.keep0 E13
  have hB5 := hB5.keep0 E13
  have hB9 := hB9.keep0 E13
  have hb := below_step0 hb E13 hb.size
  refine op_not (ev_hit hN rfl) ?_
  refine reg_nil ?_
  refine hK11 _ _ ?_
  refine wp_cond_false (ev_hit hN rfl) ?_
  refine wp_skip ?_
  refine hK10 _ _ ?_
  refine seq_any fun K14 hK14 => ?_
  refine seq_any fun K15 hK15 => ?_
  refine one_reg ?_
  refine op_move (ev_base hN rfl s0) ?_
  refine op_len_rd Try.underlying22 (ev_hit hN rfl) hv ?_
  refine op_gtr (ev_hit hN rfl) rfl (fun c14 => ?_) (fun c14 => ?_)
  · -- 14 True
    refine op_move (ev_hit hN rfl) ?_
    refine g_false (j := 3) (dj := 15) (b := false) rfl rfl rfl (ev_hit hN rfl) rfl rfl ?_
    refine g_false (j := 3) (dj := 15) (b := false) rfl rfl rfl (ev_hit hN rfl) rfl rfl ?_
    refine g_false (j := 3) (dj := 15) (b := false) rfl rfl rfl (ev_hit hN rfl) rfl rfl ?_
    refine g_false (j := 3) (dj := 15) (b := false) rfl rfl rfl (ev_hit hN rfl) rfl rfl ?_
    refine op_pick_t (ev_hit hN rfl) rfl ?_
    refine op_move (ev_hit hN rfl) ?_
    refine g_false (j := 9) (dj := 21) (b := false) rfl rfl rfl (ev_hit hN rfl) rfl rfl ?_
    refine g_false (j := 9) (dj := 21) (b := false) rfl rfl rfl (ev_hit hN rfl) rfl rfl ?_
    refine g_false (j := 9) (dj := 21) (b := false) rfl rfl rfl (ev_hit hN rfl) rfl rfl ?_
    refine g_false (j := 9) (dj := 21) (b := false) rfl rfl rfl (ev_hit hN rfl) rfl rfl ?_
    refine op_pick_t (ev_hit hN rfl) rfl ?_
    refine reg_nil ?_
    refine hK15 _ _ ?_
    refine wp_cond_true (ev_hit hN rfl) ?_
    refine seq_any fun K16 hK16 => ?_
    refine one_reg ?_
    refine op_assign rfl ?_
    refine reg_nil ?_
    refine hK16 _ _ ?_
    refine wp_ret (then_ret ( ?_))
    refine ret1 rfl hd (ev_hit hN rfl) ⟨_, rfl, ?_⟩
    -- path 14T
    exact ⟨hb, rfl⟩
  · -- 14 False
    refine op_move (ev_hit hN rfl) ?_
    refine g_true (j := 3) (dj := 15) (b := false) rfl rfl rfl (ev_hit hN rfl) ?_
    refine op_field fld50_2 (ev_hit hN rfl) ?_
    refine g_true (j := 3) (dj := 15) (b := false) rfl rfl rfl (ev_hit hN rfl) ?_
    refine op_load1 (v := (Value.string (bs x.s))) one9 (ev_hit hN rfl) (hB5.cell rfl) ?_
    refine g_true (j := 3) (dj := 15) (b := false) rfl rfl rfl (ev_hit hN rfl) ?_
    refine op_len_str Try.underlying9 (ev_hit hN rfl) ?_
    refine g_true (j := 3) (dj := 15) (b := false) rfl rfl rfl (ev_hit hN rfl) ?_
    refine op_gtr (ev_hit hN rfl) rfl (fun c19 => ?_) (fun c19 => ?_)
    · -- 19 True
      refine op_pick_f (ev_hit hN rfl) (ev_hit hN rfl) ?_
      refine op_move (ev_hit hN rfl) ?_
      refine g_false (j := 9) (dj := 21) (b := false) rfl rfl rfl (ev_hit hN rfl) rfl rfl ?_
      refine g_false (j := 9) (dj := 21) (b := false) rfl rfl rfl (ev_hit hN rfl) rfl rfl ?_
      refine g_false (j := 9) (dj := 21) (b := false) rfl rfl rfl (ev_hit hN rfl) rfl rfl ?_
      refine g_false (j := 9) (dj := 21) (b := false) rfl rfl rfl (ev_hit hN rfl) rfl rfl ?_
      refine op_pick_t (ev_hit hN rfl) rfl ?_
      refine reg_nil ?_
      refine hK15 _ _ ?_
      refine wp_cond_true (ev_hit hN rfl) ?_
      refine seq_any fun K17 hK17 => ?_
      refine one_reg ?_
      refine op_assign rfl ?_
      refine reg_nil ?_
      refine hK17 _ _ ?_
      refine wp_ret (then_ret ( ?_))
      refine ret1 rfl hd (ev_hit hN rfl) ⟨_, rfl, ?_⟩
      -- path 14F 19T
      exact ⟨hb, rfl⟩
    · -- 19 False
      refine op_pick_f (ev_hit hN rfl) (ev_hit hN rfl) ?_
      refine op_move (ev_hit hN rfl) ?_
      refine g_true (j := 9) (dj := 21) (b := false) rfl rfl rfl (ev_hit hN rfl) ?_
      refine op_field fld50_2 (ev_hit hN rfl) ?_
      refine g_true (j := 9) (dj := 21) (b := false) rfl rfl rfl (ev_hit hN rfl) ?_
      refine op_load1 (v := (Value.string (bs y.s))) one9 (ev_hit hN rfl) (hB9.cell rfl) ?_
      refine g_true (j := 9) (dj := 21) (b := false) rfl rfl rfl (ev_hit hN rfl) ?_
      refine op_len_str Try.underlying9 (ev_hit hN rfl) ?_
      refine g_true (j := 9) (dj := 21) (b := false) rfl rfl rfl (ev_hit hN rfl) ?_
      refine op_gtr (ev_hit hN rfl) rfl (fun c25 => ?_) (fun c25 => ?_)
      · -- 25 True
        refine op_pick_f (ev_hit hN rfl) (ev_hit hN rfl) ?_
        refine reg_nil ?_
        refine hK15 _ _ ?_
        refine wp_cond_true (ev_hit hN rfl) ?_
        refine seq_any fun K18 hK18 => ?_
        refine one_reg ?_
        refine op_assign rfl ?_
        refine reg_nil ?_
        refine hK18 _ _ ?_
        refine wp_ret (then_ret ( ?_))
        refine ret1 rfl hd (ev_hit hN rfl) ⟨_, rfl, ?_⟩
        -- path 14F 19F 25T
        exact ⟨hb, rfl⟩
      · -- 25 False
        refine op_pick_f (ev_hit hN rfl) (ev_hit hN rfl) ?_
        refine reg_nil ?_
        refine hK15 _ _ ?_
        refine wp_cond_false (ev_hit hN rfl) ?_
        refine wp_skip ?_
        refine hK14 _ _ ?_
        refine seq_any fun K19 hK19 => ?_
        refine seq_any fun K20 hK20 => ?_
        refine reg_quiet (Φ := phiL [(fun u _ => u = (Value.agg #[(Value.int .i64 x.k), (Value.int .i64 x.n), (Value.string (bs x.s))])), (fun u _ => u = (Value.bool (mayV x))), (fun u _ => u = (Value.agg #[(Value.int .i64 x.k), (Value.int .i64 x.n), (Value.string (bs x.s))])), (fun u _ => u = (Value.bool (mayV x))), (fun u _ => u = (Value.bool ((mayV x) != (mayV x))))]) mixed (by kernel_rfl) (by kernel_rfl) (by kernel_rfl) hN (StL.get (StL.eq (StL.eq (StL.eq (StL.eq (StL.eq (StL.nil _))))))) (ObL.get (s := 5) (ObL.cons ?_ (ObL.cons ?_ (ObL.cons ?_ (ObL.cons ?_ (ObL.cons ?_ (ObL.nil)))))) rfl) ?_
        · -- operation 0, slot 27
          intro a21 w21 hN21 hR21 hbs21 hdp21
          have hR21 : w12.grownBy w21 none := hR21
          have z_w21 := hR21.size
          have hv := hv.keep0 hR21
          have hB5 := hB5.keep0 hR21
          have hB9 := hB9.keep0 hR21
          have hb := below_step0 hb hR21 hb.size
          have q21_4 : a21.tmps.getD 4 undef = (ptr b3 0) := (hbs21 4 rfl).trans (sl_hit hN rfl)
          clear hbs21 hdp21
          refine op_loadA (cs := [(Value.int .i64 x.k), (Value.int .i64 x.n), (Value.string (bs x.s))]) agg50 rfl (ev_base hN21 rfl q21_4) (fun j u hu => by rw [Nat.zero_add]; exact hB5.cell hu) ?_
          exact obN_end rfl rfl ((grown_refl _ _))
        · -- operation 1, slot 28
          intro a22 w22 hN22 hR22 hbs22 hdp22
          have hR22 : w12.grownBy w22 none := hR22
          have z_w22 := hR22.size
          have hv := hv.keep0 hR22
          have hB5 := hB5.keep0 hR22
          have hB9 := hB9.keep0 hR22
          have hb := below_step0 hb hR22 hb.size
          have q22_27 : a22.tmps.getD 27 undef = (Value.agg #[(Value.int .i64 x.k), (Value.int .i64 x.n), (Value.string (bs x.s))]) := hdp22 0 _ 27 (by kernel_rfl) rfl rfl
          clear hbs22 hdp22
          refine op_fn (vs := [(Value.agg #[(Value.int .i64 x.k), (Value.int .i64 x.n), (Value.string (bs x.s))])]) ok31 ⟨(ev_base hN22 rfl q22_27), trivial⟩ (May_ret x _ (by first | assumption | omega | (simp only [List.length_append, List.length_cons, List.length_nil, List.length_drop, List.length_take]; omega) | (dsimp only; omega) | decide | (simp [keyV, be8_len]; done))) ?_
          rintro _ w23 ⟨E24, rfl⟩
          have E24 := grown_of_below E24
          have z_w23 := E24.size
          have hv := hv.keep0 E24
          have hB5 := hB5.keep0 E24
          have hB9 := hB9.keep0 E24
          have hb := below_step0 hb E24 hb.size
          exact obN_end rfl rfl (E24)
        · -- operation 2, slot 29
          intro a25 w25 hN25 hR25 hbs25 hdp25
          have hR25 : w12.grownBy w25 none := hR25
          have z_w25 := hR25.size
          have hv := hv.keep0 hR25
          have hB5 := hB5.keep0 hR25
          have hB9 := hB9.keep0 hR25
          have hb := below_step0 hb hR25 hb.size
          have q25_4 : a25.tmps.getD 4 undef = (ptr b3 0) := (hbs25 4 rfl).trans (sl_hit hN rfl)
          clear hbs25 hdp25
          refine op_loadA (cs := [(Value.int .i64 x.k), (Value.int .i64 x.n), (Value.string (bs x.s))]) agg50 rfl (ev_base hN25 rfl q25_4) (fun j u hu => by rw [Nat.zero_add]; exact hB5.cell hu) ?_
          exact obN_end rfl rfl ((grown_refl _ _))
        · -- operation 3, slot 30
          intro a26 w26 hN26 hR26 hbs26 hdp26
          have hR26 : w12.grownBy w26 none := hR26
          have z_w26 := hR26.size
          have hv := hv.keep0 hR26
          have hB5 := hB5.keep0 hR26
          have hB9 := hB9.keep0 hR26
          have hb := below_step0 hb hR26 hb.size
          have q26_29 : a26.tmps.getD 29 undef = (Value.agg #[(Value.int .i64 x.k), (Value.int .i64 x.n), (Value.string (bs x.s))]) := hdp26 2 _ 29 (by kernel_rfl) rfl rfl
          clear hbs26 hdp26
          refine op_fn (vs := [(Value.agg #[(Value.int .i64 x.k), (Value.int .i64 x.n), (Value.string (bs x.s))])]) ok32 ⟨(ev_base hN26 rfl q26_29), trivial⟩ (MayValue_ret x _ (by first | assumption | omega | (simp only [List.length_append, List.length_cons, List.length_nil, List.length_drop, List.length_take]; omega) | (dsimp only; omega) | decide | (simp [keyV, be8_len]; done))) ?_
          rintro _ w27 ⟨E28, rfl⟩
          have E28 := grown_of_below E28
          have z_w27 := E28.size
          have hv := hv.keep0 E28
          have hB5 := hB5.keep0 E28
          have hB9 := hB9.keep0 E28
          have hb := below_step0 hb E28 hb.size
          exact obN_end rfl rfl (E28)
        · -- operation 4, slot 31
          intro a29 w29 hN29 hR29 hbs29 hdp29
          have hR29 : w12.grownBy w29 none := hR29
          have q29_28 : a29.tmps.getD 28 undef = (Value.bool (mayV x)) := hdp29 1 _ 28 (by kernel_rfl) rfl rfl
          have q29_30 : a29.tmps.getD 30 undef = (Value.bool (mayV x)) := hdp29 3 _ 30 (by kernel_rfl) rfl rfl
          clear hbs29 hdp29
          refine op_neb Try.underlying4 (ev_base hN29 rfl q29_28) (ev_base hN29 rfl q29_30) ?_
          exact obN_end rfl rfl ((grown_refl _ _))
        · -- behind the region
          intro a30 w30 hN30 hd30 hbs30 hph30 E30
          have hd30 := hd30.trans hd
          have s30_0 : a30.tmps.getD 0 undef = v := (hbs30 0 rfl).trans (sl_base hN rfl s0)
          have s30_1 : a30.tmps.getD 1 undef = (Value.agg #[(Value.int .i64 x.k), (Value.int .i64 x.n), (Value.string (bs x.s))]) := (hbs30 1 rfl).trans (sl_base hN rfl s1)
          have s30_2 : a30.tmps.getD 2 undef = (Value.agg #[(Value.int .i64 y.k), (Value.int .i64 y.n), (Value.string (bs y.s))]) := (hbs30 2 rfl).trans (sl_base hN rfl s2)
          have s30_4 : a30.tmps.getD 4 undef = (ptr b3 0) := (hbs30 4 rfl).trans (sl_hit hN rfl)
          have s30_5 : a30.tmps.getD 5 undef = (ptr b7 0) := (hbs30 5 rfl).trans (sl_hit hN rfl)
          have s30_6 : a30.tmps.getD 6 undef = (Value.bool false) := (hbs30 6 rfl).trans (sl_hit hN rfl)
          have s30_10 : a30.tmps.getD 10 undef = (Value.bool true) := (hbs30 10 rfl).trans (sl_hit hN rfl)
          have s30_11 : a30.tmps.getD 11 undef = (Value.bool false) := (hbs30 11 rfl).trans (sl_hit hN rfl)
          have s30_12 : a30.tmps.getD 12 undef = v := (hbs30 12 rfl).trans (sl_hit hN rfl)
          have s30_13 : a30.tmps.getD 13 undef = (Value.int .i64 ((bl.length : Nat) : Int)) := (hbs30 13 rfl).trans (sl_hit hN rfl)
          have s30_14 : a30.tmps.getD 14 undef = (Value.bool false) := (hbs30 14 rfl).trans (sl_hit hN rfl)
          have s30_15 : a30.tmps.getD 15 undef = (Value.bool false) := (hbs30 15 rfl).trans (sl_hit hN rfl)
          have s30_16 : a30.tmps.getD 16 undef = (ptr b3 2) := (hbs30 16 rfl).trans (sl_hit hN rfl)
          have s30_17 : a30.tmps.getD 17 undef = (Value.string (bs x.s)) := (hbs30 17 rfl).trans (sl_hit hN rfl)
          have s30_18 : a30.tmps.getD 18 undef = (Value.int .i64 (x.s.length : Int)) := (hbs30 18 rfl).trans (sl_hit hN rfl)
          have s30_19 : a30.tmps.getD 19 undef = (Value.bool false) := (hbs30 19 rfl).trans (sl_hit hN rfl)
          have s30_20 : a30.tmps.getD 20 undef = (Value.bool false) := (hbs30 20 rfl).trans (sl_hit hN rfl)
          have s30_21 : a30.tmps.getD 21 undef = (Value.bool false) := (hbs30 21 rfl).trans (sl_hit hN rfl)
          have s30_22 : a30.tmps.getD 22 undef = (ptr b7 2) := (hbs30 22 rfl).trans (sl_hit hN rfl)
          have s30_23 : a30.tmps.getD 23 undef = (Value.string (bs y.s)) := (hbs30 23 rfl).trans (sl_hit hN rfl)
          have s30_24 : a30.tmps.getD 24 undef = (Value.int .i64 (y.s.length : Int)) := (hbs30 24 rfl).trans (sl_hit hN rfl)
          have s30_25 : a30.tmps.getD 25 undef = (Value.bool false) := (hbs30 25 rfl).trans (sl_hit hN rfl)
          have s30_26 : a30.tmps.getD 26 undef = (Value.bool false) := (hbs30 26 rfl).trans (sl_hit hN rfl)
          have s30_27 : a30.tmps.getD 27 undef = (Value.agg #[(Value.int .i64 x.k), (Value.int .i64 x.n), (Value.string (bs x.s))]) := hph30 0 _ 27 rfl rfl
          have s30_28 : a30.tmps.getD 28 undef = (Value.bool (mayV x)) := hph30 1 _ 28 rfl rfl
          have s30_29 : a30.tmps.getD 29 undef = (Value.agg #[(Value.int .i64 x.k), (Value.int .i64 x.n), (Value.string (bs x.s))]) := hph30 2 _ 29 rfl rfl
          have s30_30 : a30.tmps.getD 30 undef = (Value.bool (mayV x)) := hph30 3 _ 30 rfl rfl
          have s30_31 : a30.tmps.getD 31 undef = (Value.bool ((mayV x) != (mayV x))) := hph30 4 _ 31 rfl rfl
          clear hbs30 hph30
          have E30 : w12.grownBy w30 none := E30
          have z_w30 := E30.size
          have hv := hv.keep0 E30
          have hB5 := hB5.keep0 E30
          have hB9 := hB9.keep0 E30
          have hb := below_step0 hb E30 hb.size
          refine hK20 _ _ ?_
          refine wp_cond_split (ev_base hN30 rfl s30_31) (fun c31 => ?_) (fun c31 => ?_)
          · -- 31 True
            simp_all
          · -- 31 False
            refine wp_skip ?_
            refine hK19 _ _ ?_
            refine seq_any fun K31 hK31 => ?_
            refine seq_any fun K32 hK32 => ?_
            refine one_reg ?_
            refine op_loadA (cs := [(Value.int .i64 x.k), (Value.int .i64 x.n), (Value.string (bs x.s))]) agg50 rfl (ev_base hN30 rfl s30_4) (fun j u hu => by rw [Nat.zero_add]; exact hB5.cell hu) ?_
            refine op_fn (vs := [(Value.agg #[(Value.int .i64 x.k), (Value.int .i64 x.n), (Value.string (bs x.s))])]) ok32 ⟨(ev_hit hN30 rfl), trivial⟩ (MayValue_ret x _ (by first | assumption | omega | (simp only [List.length_append, List.length_cons, List.length_nil, List.length_drop, List.length_take]; omega) | (dsimp only; omega) | decide | (simp [keyV, be8_len]; done))) ?_
            rintro _ w33 ⟨E34, rfl⟩
            have E34 := grown_of_below E34
            have z_w33 := E34.size
            have hv := hv.keep0 E34
            have hB5 := hB5.keep0 E34
            have hB9 := hB9.keep0 E34
            have hb := below_step0 hb E34 hb.size
            rcases Bool.eq_false_or_eq_true ((mayV x)) with c33 | c33
            · -- 33 True
              rw [c33]
              refine op_not (ev_hit hN30 rfl) ?_
              refine op_move (ev_hit hN30 rfl) ?_
              refine g_true (j := 3) (dj := 35) (b := false) rfl rfl rfl (ev_hit hN30 rfl) ?_
              refine op_loadA (cs := [(Value.int .i64 y.k), (Value.int .i64 y.n), (Value.string (bs y.s))]) agg50 rfl (ev_base hN30 rfl s30_5) (fun j u hu => by rw [Nat.zero_add]; exact hB9.cell hu) ?_
              refine g_true (j := 3) (dj := 35) (b := false) rfl rfl rfl (ev_hit hN30 rfl) ?_
              refine op_fn (vs := [(Value.agg #[(Value.int .i64 y.k), (Value.int .i64 y.n), (Value.string (bs y.s))])]) ok32 ⟨(ev_hit hN30 rfl), trivial⟩ (MayValue_ret y _ (by first | assumption | omega | (simp only [List.length_append, List.length_cons, List.length_nil, List.length_drop, List.length_take]; omega) | (dsimp only; omega) | decide | (simp [keyV, be8_len]; done))) ?_
              rintro _ w35 ⟨E36, rfl⟩
              have E36 := grown_of_below E36
              have z_w35 := E36.size
              have hv := hv.keep0 E36
              have hB5 := hB5.keep0 E36
              have hB9 := hB9.keep0 E36
              have hb := below_step0 hb E36 hb.size
              rcases Bool.eq_false_or_eq_true ((mayV y)) with c37 | c37
              · -- 37 True
                rw [c37]
                refine g_true (j := 3) (dj := 35) (b := false) rfl rfl rfl (ev_hit hN30 rfl) ?_
                refine op_not (ev_hit hN30 rfl) ?_
                refine op_pick_f (ev_hit hN30 rfl) (ev_hit hN30 rfl) ?_
                refine reg_nil ?_
                refine hK32 _ _ ?_
                refine wp_cond_false (ev_hit hN30 rfl) ?_
                refine wp_skip ?_
                refine hK31 _ _ ?_
                refine seq_any fun K37 hK37 => ?_
                refine one_reg ?_
                refine op_move (ev_base hN30 rfl s30_0) ?_
                have hq38 : RdC w35 0 w35.heap.size 1 v bl.length (bl.map u8v) := by simpa using (hv.mono (L' := 0) (B' := w35.heap.size) (Nat.zero_le _) (by omega))
                refine op_fn (vs := [v]) ok33 ⟨(ev_hit hN30 rfl), trivial⟩ (Twin_ret bl v _ (by first | assumption | omega | (simp only [List.length_append, List.length_cons, List.length_nil, List.length_drop, List.length_take]; omega) | (dsimp only; omega) | decide | (simp [keyV, be8_len]; done)) hq38) ?_
                rintro _ w41 ⟨E42, b39, rfl, lo_b39, hi_b39, hB40⟩
                have E42 := grown_of_below E42
                have z_w41 := E42.size
                have hv := hv.keep0 E42
                have hB5 := hB5.keep0 E42
                have hB9 := hB9.keep0 E42
                have hb := below_step0 hb E42 hb.size
                refine op_assign (ev_hit hN30 rfl) ?_
                refine reg_nil ?_
                refine hK37 _ _ ?_
                refine seq_any fun K43 hK43 => ?_
                refine one_reg ?_
                refine op_move (ev_hit hN30 rfl) ?_
                refine op_loadA (cs := [(Value.int .i64 x.k), (Value.int .i64 x.n), (Value.string (bs x.s))]) agg50 rfl (ev_base hN30 rfl s30_4) (fun j u hu => by rw [Nat.zero_add]; exact hB5.cell hu) ?_
                have hq44 : RdC w41 0 w41.heap.size 1 (Value.slice (some ⟨b39, 0, none⟩) bl.length (bl.length + 3)) bl.length (bl.map u8v) := by simpa using ((show RdC w41 b39 (b39 + 1) 1 (Value.slice (some ⟨b39, 0, none⟩) bl.length (bl.length + 3)) bl.length ((bl.map u8v)) from by simpa using (RdC.ofRow (sz := 1) (m := bl.length) (c := (bl.length + 3)) hB40 (by simp) (by omega) (by unfold maxLen; omega))).mono (L' := 0) (B' := w41.heap.size) (Nat.zero_le _) (by have := hB40.lt; omega))
                refine op_fn (vs := [(Value.slice (some ⟨b39, 0, none⟩) bl.length (bl.length + 3)), (Value.agg #[(Value.int .i64 x.k), (Value.int .i64 x.n), (Value.string (bs x.s))])]) ok34 ⟨(ev_hit hN30 rfl), ⟨(ev_hit hN30 rfl), trivial⟩⟩ (Key_ret bl x _ _ (by first | assumption | omega | (simp only [List.length_append, List.length_cons, List.length_nil, List.length_drop, List.length_take]; omega) | (dsimp only; omega) | decide | (simp [keyV, be8_len]; done)) (by first | assumption | omega | (simp only [List.length_append, List.length_cons, List.length_nil, List.length_drop, List.length_take]; omega) | (dsimp only; omega) | decide | (simp [keyV, be8_len]; done)) (by first | assumption | omega | (simp only [List.length_append, List.length_cons, List.length_nil, List.length_drop, List.length_take]; omega) | (dsimp only; omega) | decide | (simp [keyV, be8_len]; done)) hq44) ?_
                rintro v45 w47 ⟨E48, hO46⟩
                have E48 := grown_of_below E48
                have z_w47 := E48.size
                have hv := hv.keep0 E48
                have hB5 := hB5.keep0 E48
                have hB9 := hB9.keep0 E48
                have hB40 := hB40.keep0 E48
                have hb := below_step0 hb E48 hb.size
                have hO46 : Own w47 w41.heap.size 5 1 v45 (bl.length + (keyV x).length) ((bl ++ keyV x).map u8v) := by simpa using hO46.mono (base' := w41.heap.size) (by omega)
                refine op_assign (ev_hit hN30 rfl) ?_
                refine reg_nil ?_
                refine hK43 _ _ ?_
                refine seq_any fun K49 hK49 => ?_
                by_cases g51 : (cmpW x y) = (cmpV x y)
                · -- 51 True
                  by_cases g59 : (bl ++ keyV x) = (bl ++ keyR x)
                  · -- 59 True
                    refine reg_quiet (Φ := phiL [(fun u _ => u = (Value.agg #[(Value.int .i64 x.k), (Value.int .i64 x.n), (Value.string (bs x.s))])), (fun u _ => u = (Value.agg #[(Value.int .i64 y.k), (Value.int .i64 y.n), (Value.string (bs y.s))])), (fun u _ => u = (Value.int .i64 (cmpW x y))), (fun u _ => u = (Value.agg #[(Value.int .i64 x.k), (Value.int .i64 x.n), (Value.string (bs x.s))])), (fun u _ => u = (Value.agg #[(Value.int .i64 y.k), (Value.int .i64 y.n), (Value.string (bs y.s))])), (fun u _ => u = (Value.int .i64 (cmpV x y))), (fun u _ => u = (Value.bool true)), (fun u _ => u = (Value.bool true)), (fun u _ => u = v45), (fun u _ => u = (Value.string (bs (bl ++ keyV x)))), (fun u _ => u = v), (fun u _ => u = (Value.agg #[(Value.int .i64 x.k), (Value.int .i64 x.n), (Value.string (bs x.s))])), (fun u w' => ∃ (v55 : Value), u = v55 ∧ Own w' w47.heap.size 5 1 v55 (bl.length + (keyR x).length) ((bl ++ keyR x).map u8v)), (fun u _ => u = (Value.string (bs (bl ++ keyR x)))), (fun u _ => u = (Value.bool true)), (fun u _ => u = (Value.bool true)), (fun u _ => u = (Value.bool true)), (fun u _ => u = (Value.slice (some ⟨b39, 0, none⟩) bl.length (bl.length + 3))), (fun u _ => u = v), (fun u _ => u = (Value.bool true)), (fun u _ => u = (Value.bool true)), (fun u _ => u = (Value.bool true))]) mixed (by kernel_rfl) (by kernel_rfl) (by kernel_rfl) hN30 (StL.get (StL.eq (StL.eq (StL.eq (StL.eq (StL.eq (StL.eq (StL.eq (StL.eq (StL.eq (StL.eq (StL.eq (StL.eq (StL.cons (fun u w1 w2 E h => by obtain ⟨x0, hv, f0⟩ := h; exact ⟨x0, hv, f0.keep0 E⟩) (StL.eq (StL.eq (StL.eq (StL.eq (StL.eq (StL.eq (StL.eq (StL.eq (StL.eq (StL.nil _)))))))))))))))))))))))) (ObL.get (s := 22) (ObL.cons ?_ (ObL.cons ?_ (ObL.cons ?_ (ObL.cons ?_ (ObL.cons ?_ (ObL.cons ?_ (ObL.cons ?_ (ObL.cons ?_ (ObL.cons ?_ (ObL.cons ?_ (ObL.cons ?_ (ObL.cons ?_ (ObL.cons ?_ (ObL.cons ?_ (ObL.cons ?_ (ObL.cons ?_ (ObL.cons ?_ (ObL.cons ?_ (ObL.cons ?_ (ObL.cons ?_ (ObL.cons ?_ (ObL.cons ?_ (ObL.nil))))))))))))))))))))))) rfl) ?_
                    · -- operation 0, slot 45
                      intro a50 w50 hN50 hR50 hbs50 hdp50
                      have hR50 : w47.grownBy w50 none := hR50
                      have z_w50 := hR50.size
                      have hv := hv.keep0 hR50
                      have hB5 := hB5.keep0 hR50
                      have hB9 := hB9.keep0 hR50
                      have hB40 := hB40.keep0 hR50
                      have hO46 := hO46.keep0 hR50
                      have hb := below_step0 hb hR50 hb.size
                      have q50_4 : a50.tmps.getD 4 undef = (ptr b3 0) := (hbs50 4 rfl).trans (sl_base hN30 rfl s30_4)
                      clear hbs50 hdp50
                      refine op_loadA (cs := [(Value.int .i64 x.k), (Value.int .i64 x.n), (Value.string (bs x.s))]) agg50 rfl (ev_base hN50 rfl q50_4) (fun j u hu => by rw [Nat.zero_add]; exact hB5.cell hu) ?_
                      exact obN_end rfl rfl ((grown_refl _ _))
                    · -- operation 1, slot 46
                      intro a51 w51 hN51 hR51 hbs51 hdp51
                      have hR51 : w47.grownBy w51 none := hR51
                      have z_w51 := hR51.size
                      have hv := hv.keep0 hR51
                      have hB5 := hB5.keep0 hR51
                      have hB9 := hB9.keep0 hR51
                      have hB40 := hB40.keep0 hR51
                      have hO46 := hO46.keep0 hR51
                      have hb := below_step0 hb hR51 hb.size
                      have q51_5 : a51.tmps.getD 5 undef = (ptr b7 0) := (hbs51 5 rfl).trans (sl_base hN30 rfl s30_5)
                      clear hbs51 hdp51
                      refine op_loadA (cs := [(Value.int .i64 y.k), (Value.int .i64 y.n), (Value.string (bs y.s))]) agg50 rfl (ev_base hN51 rfl q51_5) (fun j u hu => by rw [Nat.zero_add]; exact hB9.cell hu) ?_
                      exact obN_end rfl rfl ((grown_refl _ _))
                    · -- operation 2, slot 47
                      intro a52 w52 hN52 hR52 hbs52 hdp52
                      have hR52 : w47.grownBy w52 none := hR52
                      have z_w52 := hR52.size
                      have hv := hv.keep0 hR52
                      have hB5 := hB5.keep0 hR52
                      have hB9 := hB9.keep0 hR52
                      have hB40 := hB40.keep0 hR52
                      have hO46 := hO46.keep0 hR52
                      have hb := below_step0 hb hR52 hb.size
                      have q52_45 : a52.tmps.getD 45 undef = (Value.agg #[(Value.int .i64 x.k), (Value.int .i64 x.n), (Value.string (bs x.s))]) := hdp52 0 _ 45 (by kernel_rfl) rfl rfl
                      have q52_46 : a52.tmps.getD 46 undef = (Value.agg #[(Value.int .i64 y.k), (Value.int .i64 y.n), (Value.string (bs y.s))]) := hdp52 1 _ 46 (by kernel_rfl) rfl rfl
                      clear hbs52 hdp52
                      refine op_fn (vs := [(Value.agg #[(Value.int .i64 x.k), (Value.int .i64 x.n), (Value.string (bs x.s))]), (Value.agg #[(Value.int .i64 y.k), (Value.int .i64 y.n), (Value.string (bs y.s))])]) ok35 ⟨(ev_base hN52 rfl q52_45), ⟨(ev_base hN52 rfl q52_46), trivial⟩⟩ (Compare_ret x y _) ?_
                      rintro _ w53 ⟨E54, rfl⟩
                      have E54 := grown_of_below E54
                      have z_w53 := E54.size
                      have hv := hv.keep0 E54
                      have hB5 := hB5.keep0 E54
                      have hB9 := hB9.keep0 E54
                      have hB40 := hB40.keep0 E54
                      have hO46 := hO46.keep0 E54
                      have hb := below_step0 hb E54 hb.size
                      exact obN_end rfl rfl (E54)
                    · -- operation 3, slot 48
                      intro a55 w55 hN55 hR55 hbs55 hdp55
                      have hR55 : w47.grownBy w55 none := hR55
                      have z_w55 := hR55.size
                      have hv := hv.keep0 hR55
                      have hB5 := hB5.keep0 hR55
                      have hB9 := hB9.keep0 hR55
                      have hB40 := hB40.keep0 hR55
                      have hO46 := hO46.keep0 hR55
                      have hb := below_step0 hb hR55 hb.size
                      have q55_4 : a55.tmps.getD 4 undef = (ptr b3 0) := (hbs55 4 rfl).trans (sl_base hN30 rfl s30_4)
                      clear hbs55 hdp55
                      refine op_loadA (cs := [(Value.int .i64 x.k), (Value.int .i64 x.n), (Value.string (bs x.s))]) agg50 rfl (ev_base hN55 rfl q55_4) (fun j u hu => by rw [Nat.zero_add]; exact hB5.cell hu) ?_
                      exact obN_end rfl rfl ((grown_refl _ _))
                    · -- operation 4, slot 49
                      intro a56 w56 hN56 hR56 hbs56 hdp56
                      have hR56 : w47.grownBy w56 none := hR56
                      have z_w56 := hR56.size
                      have hv := hv.keep0 hR56
                      have hB5 := hB5.keep0 hR56
                      have hB9 := hB9.keep0 hR56
                      have hB40 := hB40.keep0 hR56
                      have hO46 := hO46.keep0 hR56
                      have hb := below_step0 hb hR56 hb.size
                      have q56_5 : a56.tmps.getD 5 undef = (ptr b7 0) := (hbs56 5 rfl).trans (sl_base hN30 rfl s30_5)
                      clear hbs56 hdp56
                      refine op_loadA (cs := [(Value.int .i64 y.k), (Value.int .i64 y.n), (Value.string (bs y.s))]) agg50 rfl (ev_base hN56 rfl q56_5) (fun j u hu => by rw [Nat.zero_add]; exact hB9.cell hu) ?_
                      exact obN_end rfl rfl ((grown_refl _ _))
                    · -- operation 5, slot 50
                      intro a57 w57 hN57 hR57 hbs57 hdp57
                      have hR57 : w47.grownBy w57 none := hR57
                      have z_w57 := hR57.size
                      have hv := hv.keep0 hR57
                      have hB5 := hB5.keep0 hR57
                      have hB9 := hB9.keep0 hR57
                      have hB40 := hB40.keep0 hR57
                      have hO46 := hO46.keep0 hR57
                      have hb := below_step0 hb hR57 hb.size
                      have q57_48 : a57.tmps.getD 48 undef = (Value.agg #[(Value.int .i64 x.k), (Value.int .i64 x.n), (Value.string (bs x.s))]) := hdp57 3 _ 48 (by kernel_rfl) rfl rfl
                      have q57_49 : a57.tmps.getD 49 undef = (Value.agg #[(Value.int .i64 y.k), (Value.int .i64 y.n), (Value.string (bs y.s))]) := hdp57 4 _ 49 (by kernel_rfl) rfl rfl
                      clear hbs57 hdp57
                      refine op_fn (vs := [(Value.agg #[(Value.int .i64 x.k), (Value.int .i64 x.n), (Value.string (bs x.s))]), (Value.agg #[(Value.int .i64 y.k), (Value.int .i64 y.n), (Value.string (bs y.s))])]) ok36 ⟨(ev_base hN57 rfl q57_48), ⟨(ev_base hN57 rfl q57_49), trivial⟩⟩ (CompareValue_ret x y _ (by first | assumption | omega | (simp only [List.length_append, List.length_cons, List.length_nil, List.length_drop, List.length_take]; omega) | (dsimp only; omega) | decide | (simp [keyV, be8_len]; done)) (by first | assumption | omega | (simp only [List.length_append, List.length_cons, List.length_nil, List.length_drop, List.length_take]; omega) | (dsimp only; omega) | decide | (simp [keyV, be8_len]; done))) ?_
                      rintro _ w58 ⟨E59, rfl⟩
                      have E59 := grown_of_below E59
                      have z_w58 := E59.size
                      have hv := hv.keep0 E59
                      have hB5 := hB5.keep0 E59
                      have hB9 := hB9.keep0 E59
                      have hB40 := hB40.keep0 E59
                      have hO46 := hO46.keep0 E59
                      have hb := below_step0 hb E59 hb.size
                      exact obN_end rfl rfl (E59)
                    · -- operation 6, slot 51
                      intro a60 w60 hN60 hR60 hbs60 hdp60
                      have hR60 : w47.grownBy w60 none := hR60
                      have q60_47 : a60.tmps.getD 47 undef = (Value.int .i64 (cmpW x y)) := hdp60 2 _ 47 (by kernel_rfl) rfl rfl
                      have q60_50 : a60.tmps.getD 50 undef = (Value.int .i64 (cmpV x y)) := hdp60 5 _ 50 (by kernel_rfl) rfl rfl
                      clear hbs60 hdp60
                      refine op_cmp (b := true) (ev_base hN60 rfl q60_47) (ev_base hN60 rfl q60_50) (b_eql (decide_eq_true g51)) ?_
                      exact obN_end rfl rfl ((grown_refl _ _))
                    · -- operation 7, slot 52
                      intro a61 w61 hN61 hR61 hbs61 hdp61
                      have hR61 : w47.grownBy w61 none := hR61
                      have q61_51 : a61.tmps.getD 51 undef = (Value.bool true) := hdp61 6 _ 51 (by kernel_rfl) rfl rfl
                      clear hbs61 hdp61
                      refine op_move (ev_base hN61 rfl q61_51) ?_
                      exact obN_end rfl rfl ((grown_refl _ _))
                    · -- operation 8, slot 53
                      intro a62 w62 hN62 hR62 hbs62 hdp62
                      have hR62 : w47.grownBy w62 none := hR62
                      have q62_8 : a62.tmps.getD 8 undef = v45 := (hbs62 8 rfl).trans (sl_hit hN30 rfl)
                      have q62_52 : a62.tmps.getD 52 undef = (Value.bool true) := hdp62 7 _ 52 (by kernel_rfl) rfl rfl
                      clear hbs62 hdp62
                      refine g_true (j := 7) (dj := 52) (b := true) rfl rfl rfl (ev_base hN62 rfl q62_52) ?_
                      refine op_move (ev_base hN62 rfl q62_8) ?_
                      exact obN_end rfl rfl ((grown_refl _ _))
                    · -- operation 9, slot 54
                      intro a63 w63 hN63 hR63 hbs63 hdp63
                      have hR63 : w47.grownBy w63 none := hR63
                      have z_w63 := hR63.size
                      have hv := hv.keep0 hR63
                      have hB5 := hB5.keep0 hR63
                      have hB9 := hB9.keep0 hR63
                      have hB40 := hB40.keep0 hR63
                      have hO46 := hO46.keep0 hR63
                      have hb := below_step0 hb hR63 hb.size
                      have q63_53 : a63.tmps.getD 53 undef = v45 := hdp63 8 _ 53 (by kernel_rfl) rfl rfl
                      have q63_52 : a63.tmps.getD 52 undef = (Value.bool true) := hdp63 7 _ 52 (by kernel_rfl) rfl rfl
                      clear hbs63 hdp63
                      refine g_true (j := 7) (dj := 52) (b := true) rfl rfl rfl (ev_base hN63 rfl q63_52) ?_
                      refine op_str_of (bl := (bl ++ keyV x)) Try.underlying22 Try.underlying5 Try.underlying9 (ev_base hN63 rfl q63_53) hO46.rdw ?_
                      exact obN_end rfl rfl ((grown_refl _ _))
                    · -- operation 10, slot 55
                      intro a64 w64 hN64 hR64 hbs64 hdp64
                      have hR64 : w47.grownBy w64 none := hR64
                      have q64_0 : a64.tmps.getD 0 undef = v := (hbs64 0 rfl).trans (sl_base hN30 rfl s30_0)
                      have q64_52 : a64.tmps.getD 52 undef = (Value.bool true) := hdp64 7 _ 52 (by kernel_rfl) rfl rfl
                      clear hbs64 hdp64
                      refine g_true (j := 7) (dj := 52) (b := true) rfl rfl rfl (ev_base hN64 rfl q64_52) ?_
                      refine op_move (ev_base hN64 rfl q64_0) ?_
                      exact obN_end rfl rfl ((grown_refl _ _))
                    · -- operation 11, slot 56
                      intro a65 w65 hN65 hR65 hbs65 hdp65
                      have hR65 : w47.grownBy w65 none := hR65
                      have z_w65 := hR65.size
                      have hv := hv.keep0 hR65
                      have hB5 := hB5.keep0 hR65
                      have hB9 := hB9.keep0 hR65
                      have hB40 := hB40.keep0 hR65
                      have hO46 := hO46.keep0 hR65
                      have hb := below_step0 hb hR65 hb.size
                      have q65_4 : a65.tmps.getD 4 undef = (ptr b3 0) := (hbs65 4 rfl).trans (sl_base hN30 rfl s30_4)
                      have q65_52 : a65.tmps.getD 52 undef = (Value.bool true) := hdp65 7 _ 52 (by kernel_rfl) rfl rfl
                      clear hbs65 hdp65
                      refine g_true (j := 7) (dj := 52) (b := true) rfl rfl rfl (ev_base hN65 rfl q65_52) ?_
                      refine op_loadA (cs := [(Value.int .i64 x.k), (Value.int .i64 x.n), (Value.string (bs x.s))]) agg50 rfl (ev_base hN65 rfl q65_4) (fun j u hu => by rw [Nat.zero_add]; exact hB5.cell hu) ?_
                      exact obN_end rfl rfl ((grown_refl _ _))
                    · -- operation 12, slot 57
                      intro a66 w66 hN66 hR66 hbs66 hdp66
                      have hR66 : w47.grownBy w66 none := hR66
                      have z_w66 := hR66.size
                      have hv := hv.keep0 hR66
                      have hB5 := hB5.keep0 hR66
                      have hB9 := hB9.keep0 hR66
                      have hB40 := hB40.keep0 hR66
                      have hO46 := hO46.keep0 hR66
                      have hb := below_step0 hb hR66 hb.size
                      have q66_55 : a66.tmps.getD 55 undef = v := hdp66 10 _ 55 (by kernel_rfl) rfl rfl
                      have q66_56 : a66.tmps.getD 56 undef = (Value.agg #[(Value.int .i64 x.k), (Value.int .i64 x.n), (Value.string (bs x.s))]) := hdp66 11 _ 56 (by kernel_rfl) rfl rfl
                      have q66_52 : a66.tmps.getD 52 undef = (Value.bool true) := hdp66 7 _ 52 (by kernel_rfl) rfl rfl
                      clear hbs66 hdp66
                      refine g_true (j := 7) (dj := 52) (b := true) rfl rfl rfl (ev_base hN66 rfl q66_52) ?_
                      have hq67 : RdC w66 0 w66.heap.size 1 v bl.length (bl.map u8v) := by simpa using (hv.mono (L' := 0) (B' := w66.heap.size) (Nat.zero_le _) (by omega))
                      refine op_fn (vs := [v, (Value.agg #[(Value.int .i64 x.k), (Value.int .i64 x.n), (Value.string (bs x.s))])]) ok37 ⟨(ev_base hN66 rfl q66_55), ⟨(ev_base hN66 rfl q66_56), trivial⟩⟩ (RKey_ret bl x _ _ (by first | assumption | omega | (simp only [List.length_append, List.length_cons, List.length_nil, List.length_drop, List.length_take]; omega) | (dsimp only; omega) | decide | (simp [keyV, be8_len]; done)) (by first | assumption | omega | (simp only [List.length_append, List.length_cons, List.length_nil, List.length_drop, List.length_take]; omega) | (dsimp only; omega) | decide | (simp [keyV, be8_len]; done)) (by first | assumption | omega | (simp only [List.length_append, List.length_cons, List.length_nil, List.length_drop, List.length_take]; omega) | (dsimp only; omega) | decide | (simp [keyV, be8_len]; done)) hq67) ?_
                      rintro v68 w70 ⟨E71, hO69⟩
                      have E71 := grown_of_below E71
                      have z_w70 := E71.size
                      have hv := hv.keep0 E71
                      have hB5 := hB5.keep0 E71
                      have hB9 := hB9.keep0 E71
                      have hB40 := hB40.keep0 E71
                      have hO46 := hO46.keep0 E71
                      have hb := below_step0 hb E71 hb.size
                      have hO69 : Own w70 w47.heap.size 5 1 v68 (bl.length + (keyR x).length) ((bl ++ keyR x).map u8v) := by simpa using hO69.mono (base' := w47.heap.size) (by omega)
                      exact obN_end rfl ⟨v68, rfl, hO69⟩ (E71)
                    · -- operation 13, slot 58
                      intro a72 w72 hN72 hR72 hbs72 hdp72
                      have hR72 : w47.grownBy w72 none := hR72
                      have z_w72 := hR72.size
                      have hv := hv.keep0 hR72
                      have hB5 := hB5.keep0 hR72
                      have hB9 := hB9.keep0 hR72
                      have hB40 := hB40.keep0 hR72
                      have hO46 := hO46.keep0 hR72
                      have hb := below_step0 hb hR72 hb.size
                      obtain ⟨v55, q72_57, hO56⟩ := hdp72 12 _ 57 (by kernel_rfl) rfl rfl
                      have hO56 : Own w72 w47.heap.size 5 1 v55 (bl.length + (keyR x).length) ((bl ++ keyR x).map u8v) := hO56
                      have q72_52 : a72.tmps.getD 52 undef = (Value.bool true) := hdp72 7 _ 52 (by kernel_rfl) rfl rfl
                      clear hbs72 hdp72
                      refine g_true (j := 7) (dj := 52) (b := true) rfl rfl rfl (ev_base hN72 rfl q72_52) ?_
                      refine op_str_of (bl := (bl ++ keyR x)) Try.underlying22 Try.underlying5 Try.underlying9 (ev_base hN72 rfl q72_57) hO56.rdw ?_
                      exact obN_end rfl rfl ((grown_refl _ _))
                    · -- operation 14, slot 59
                      intro a73 w73 hN73 hR73 hbs73 hdp73
                      have hR73 : w47.grownBy w73 none := hR73
                      have q73_54 : a73.tmps.getD 54 undef = (Value.string (bs (bl ++ keyV x))) := hdp73 9 _ 54 (by kernel_rfl) rfl rfl
                      have q73_58 : a73.tmps.getD 58 undef = (Value.string (bs (bl ++ keyR x))) := hdp73 13 _ 58 (by kernel_rfl) rfl rfl
                      have q73_52 : a73.tmps.getD 52 undef = (Value.bool true) := hdp73 7 _ 52 (by kernel_rfl) rfl rfl
                      clear hbs73 hdp73
                      refine g_true (j := 7) (dj := 52) (b := true) rfl rfl rfl (ev_base hN73 rfl q73_52) ?_
                      refine op_seqlb (b := true) (ev_base hN73 rfl q73_54) (ev_base hN73 rfl q73_58) (decide_eq_true g59) ?_
                      exact obN_end rfl rfl ((grown_refl _ _))
                    · -- operation 15, slot 60
                      intro a74 w74 hN74 hR74 hbs74 hdp74
                      have hR74 : w47.grownBy w74 none := hR74
                      have q74_52 : a74.tmps.getD 52 undef = (Value.bool true) := hdp74 7 _ 52 (by kernel_rfl) rfl rfl
                      have q74_59 : a74.tmps.getD 59 undef = (Value.bool true) := hdp74 14 _ 59 (by kernel_rfl) rfl rfl
                      clear hbs74 hdp74
                      refine op_pick_t (ev_base hN74 rfl q74_52) (ev_base hN74 rfl q74_59) ?_
                      exact obN_end rfl rfl ((grown_refl _ _))
                    · -- operation 16, slot 61
                      intro a75 w75 hN75 hR75 hbs75 hdp75
                      have hR75 : w47.grownBy w75 none := hR75
                      have q75_60 : a75.tmps.getD 60 undef = (Value.bool true) := hdp75 15 _ 60 (by kernel_rfl) rfl rfl
                      clear hbs75 hdp75
                      refine op_move (ev_base hN75 rfl q75_60) ?_
                      exact obN_end rfl rfl ((grown_refl _ _))
                    · -- operation 17, slot 62
                      intro a76 w76 hN76 hR76 hbs76 hdp76
                      have hR76 : w47.grownBy w76 none := hR76
                      have q76_7 : a76.tmps.getD 7 undef = (Value.slice (some ⟨b39, 0, none⟩) bl.length (bl.length + 3)) := (hbs76 7 rfl).trans (sl_hit hN30 rfl)
                      have q76_61 : a76.tmps.getD 61 undef = (Value.bool true) := hdp76 16 _ 61 (by kernel_rfl) rfl rfl
                      clear hbs76 hdp76
                      refine g_true (j := 16) (dj := 61) (b := true) rfl rfl rfl (ev_base hN76 rfl q76_61) ?_
                      refine op_move (ev_base hN76 rfl q76_7) ?_
                      exact obN_end rfl rfl ((grown_refl _ _))
                    · -- operation 18, slot 63
                      intro a77 w77 hN77 hR77 hbs77 hdp77
                      have hR77 : w47.grownBy w77 none := hR77
                      have q77_0 : a77.tmps.getD 0 undef = v := (hbs77 0 rfl).trans (sl_base hN30 rfl s30_0)
                      have q77_61 : a77.tmps.getD 61 undef = (Value.bool true) := hdp77 16 _ 61 (by kernel_rfl) rfl rfl
                      clear hbs77 hdp77
                      refine g_true (j := 16) (dj := 61) (b := true) rfl rfl rfl (ev_base hN77 rfl q77_61) ?_
                      refine op_move (ev_base hN77 rfl q77_0) ?_
                      exact obN_end rfl rfl ((grown_refl _ _))
                    · -- operation 19, slot 64
                      intro a78 w78 hN78 hR78 hbs78 hdp78
                      have hR78 : w47.grownBy w78 none := hR78
                      have z_w78 := hR78.size
                      have hv := hv.keep0 hR78
                      have hB5 := hB5.keep0 hR78
                      have hB9 := hB9.keep0 hR78
                      have hB40 := hB40.keep0 hR78
                      have hO46 := hO46.keep0 hR78
                      have hb := below_step0 hb hR78 hb.size
                      have q78_62 : a78.tmps.getD 62 undef = (Value.slice (some ⟨b39, 0, none⟩) bl.length (bl.length + 3)) := hdp78 17 _ 62 (by kernel_rfl) rfl rfl
                      have q78_63 : a78.tmps.getD 63 undef = v := hdp78 18 _ 63 (by kernel_rfl) rfl rfl
                      have q78_61 : a78.tmps.getD 61 undef = (Value.bool true) := hdp78 16 _ 61 (by kernel_rfl) rfl rfl
                      clear hbs78 hdp78
                      refine g_true (j := 16) (dj := 61) (b := true) rfl rfl rfl (ev_base hN78 rfl q78_61) ?_
                      have hq79 : RdC w78 0 w78.heap.size 1 v bl.length (bl.map u8v) := by simpa using (hv.mono (L' := 0) (B' := w78.heap.size) (Nat.zero_le _) (by omega))
                      refine op_fn (vs := [(Value.slice (some ⟨b39, 0, none⟩) bl.length (bl.length + 3)), v]) ok38 ⟨(ev_base hN78 rfl q78_62), ⟨(ev_base hN78 rfl q78_63), trivial⟩⟩ (Ret.mono (Kept_ret bl bl _ v _ (by first | assumption | omega | (simp only [List.length_append, List.length_cons, List.length_nil, List.length_drop, List.length_take]; omega) | (dsimp only; omega) | decide | (simp [keyV, be8_len]; done)) (by first | assumption | omega | (simp only [List.length_append, List.length_cons, List.length_nil, List.length_drop, List.length_take]; omega) | (dsimp only; omega) | decide | (simp [keyV, be8_len]; done)) hB40 hq79) (R' := fun v' w' => Below w78.heap.size w78 w' ∧ v' = .bool true) fun v1 w1 h => ⟨h.1, h.2.trans (congrArg Value.bool (decide_eq_true rfl))⟩) ?_
                      rintro _ w80 ⟨E81, rfl⟩
                      have E81 := grown_of_below E81
                      have z_w80 := E81.size
                      have hv := hv.keep0 E81
                      have hB5 := hB5.keep0 E81
                      have hB9 := hB9.keep0 E81
                      have hB40 := hB40.keep0 E81
                      have hO46 := hO46.keep0 E81
                      have hb := below_step0 hb E81 hb.size
                      exact obN_end rfl rfl (E81)
                    · -- operation 20, slot 65
                      intro a82 w82 hN82 hR82 hbs82 hdp82
                      have hR82 : w47.grownBy w82 none := hR82
                      have q82_61 : a82.tmps.getD 61 undef = (Value.bool true) := hdp82 16 _ 61 (by kernel_rfl) rfl rfl
                      have q82_64 : a82.tmps.getD 64 undef = (Value.bool true) := hdp82 19 _ 64 (by kernel_rfl) rfl rfl
                      clear hbs82 hdp82
                      refine op_pick_t (ev_base hN82 rfl q82_61) (ev_base hN82 rfl q82_64) ?_
                      exact obN_end rfl rfl ((grown_refl _ _))
                    · -- operation 21, slot 9
                      intro a83 w83 hN83 hR83 hbs83 hdp83
                      have hR83 : w47.grownBy w83 none := hR83
                      have q83_65 : a83.tmps.getD 65 undef = (Value.bool true) := hdp83 20 _ 65 (by kernel_rfl) rfl rfl
                      clear hbs83 hdp83
                      refine op_assign (ev_base hN83 rfl q83_65) ?_
                      exact obN_end rfl rfl ((grown_refl _ _))
                    · -- behind the region
                      intro a84 w84 hN84 hd84 hbs84 hph84 E84
                      have hd84 := hd84.trans hd30
                      have s84_0 : a84.tmps.getD 0 undef = v := (hbs84 0 rfl).trans (sl_base hN30 rfl s30_0)
                      have s84_1 : a84.tmps.getD 1 undef = (Value.agg #[(Value.int .i64 x.k), (Value.int .i64 x.n), (Value.string (bs x.s))]) := (hbs84 1 rfl).trans (sl_base hN30 rfl s30_1)
                      have s84_2 : a84.tmps.getD 2 undef = (Value.agg #[(Value.int .i64 y.k), (Value.int .i64 y.n), (Value.string (bs y.s))]) := (hbs84 2 rfl).trans (sl_base hN30 rfl s30_2)
                      have s84_4 : a84.tmps.getD 4 undef = (ptr b3 0) := (hbs84 4 rfl).trans (sl_base hN30 rfl s30_4)
                      have s84_5 : a84.tmps.getD 5 undef = (ptr b7 0) := (hbs84 5 rfl).trans (sl_base hN30 rfl s30_5)
                      have s84_6 : a84.tmps.getD 6 undef = (Value.bool false) := (hbs84 6 rfl).trans (sl_base hN30 rfl s30_6)
                      have s84_7 : a84.tmps.getD 7 undef = (Value.slice (some ⟨b39, 0, none⟩) bl.length (bl.length + 3)) := (hbs84 7 rfl).trans (sl_hit hN30 rfl)
                      have s84_8 : a84.tmps.getD 8 undef = v45 := (hbs84 8 rfl).trans (sl_hit hN30 rfl)
                      have s84_9 : a84.tmps.getD 9 undef = (Value.bool true) := hph84 21 _ 9 rfl rfl
                      have s84_10 : a84.tmps.getD 10 undef = (Value.bool true) := (hbs84 10 rfl).trans (sl_base hN30 rfl s30_10)
                      have s84_11 : a84.tmps.getD 11 undef = (Value.bool false) := (hbs84 11 rfl).trans (sl_base hN30 rfl s30_11)
                      have s84_12 : a84.tmps.getD 12 undef = v := (hbs84 12 rfl).trans (sl_base hN30 rfl s30_12)
                      have s84_13 : a84.tmps.getD 13 undef = (Value.int .i64 ((bl.length : Nat) : Int)) := (hbs84 13 rfl).trans (sl_base hN30 rfl s30_13)
                      have s84_14 : a84.tmps.getD 14 undef = (Value.bool false) := (hbs84 14 rfl).trans (sl_base hN30 rfl s30_14)
                      have s84_15 : a84.tmps.getD 15 undef = (Value.bool false) := (hbs84 15 rfl).trans (sl_base hN30 rfl s30_15)
                      have s84_16 : a84.tmps.getD 16 undef = (ptr b3 2) := (hbs84 16 rfl).trans (sl_base hN30 rfl s30_16)
                      have s84_17 : a84.tmps.getD 17 undef = (Value.string (bs x.s)) := (hbs84 17 rfl).trans (sl_base hN30 rfl s30_17)
                      have s84_18 : a84.tmps.getD 18 undef = (Value.int .i64 (x.s.length : Int)) := (hbs84 18 rfl).trans (sl_base hN30 rfl s30_18)
                      have s84_19 : a84.tmps.getD 19 undef = (Value.bool false) := (hbs84 19 rfl).trans (sl_base hN30 rfl s30_19)
                      have s84_20 : a84.tmps.getD 20 undef = (Value.bool false) := (hbs84 20 rfl).trans (sl_base hN30 rfl s30_20)
                      have s84_21 : a84.tmps.getD 21 undef = (Value.bool false) := (hbs84 21 rfl).trans (sl_base hN30 rfl s30_21)
                      have s84_22 : a84.tmps.getD 22 undef = (ptr b7 2) := (hbs84 22 rfl).trans (sl_base hN30 rfl s30_22)
                      have s84_23 : a84.tmps.getD 23 undef = (Value.string (bs y.s)) := (hbs84 23 rfl).trans (sl_base hN30 rfl s30_23)
                      have s84_24 : a84.tmps.getD 24 undef = (Value.int .i64 (y.s.length : Int)) := (hbs84 24 rfl).trans (sl_base hN30 rfl s30_24)
                      have s84_25 : a84.tmps.getD 25 undef = (Value.bool false) := (hbs84 25 rfl).trans (sl_base hN30 rfl s30_25)
                      have s84_26 : a84.tmps.getD 26 undef = (Value.bool false) := (hbs84 26 rfl).trans (sl_base hN30 rfl s30_26)
                      have s84_27 : a84.tmps.getD 27 undef = (Value.agg #[(Value.int .i64 x.k), (Value.int .i64 x.n), (Value.string (bs x.s))]) := (hbs84 27 rfl).trans (sl_base hN30 rfl s30_27)
                      have s84_28 : a84.tmps.getD 28 undef = (Value.bool (mayV x)) := (hbs84 28 rfl).trans (sl_base hN30 rfl s30_28)
                      have s84_29 : a84.tmps.getD 29 undef = (Value.agg #[(Value.int .i64 x.k), (Value.int .i64 x.n), (Value.string (bs x.s))]) := (hbs84 29 rfl).trans (sl_base hN30 rfl s30_29)
                      have s84_30 : a84.tmps.getD 30 undef = (Value.bool (mayV x)) := (hbs84 30 rfl).trans (sl_base hN30 rfl s30_30)
                      have s84_31 : a84.tmps.getD 31 undef = (Value.bool ((mayV x) != (mayV x))) := (hbs84 31 rfl).trans (sl_base hN30 rfl s30_31)
                      have s84_32 : a84.tmps.getD 32 undef = (Value.agg #[(Value.int .i64 x.k), (Value.int .i64 x.n), (Value.string (bs x.s))]) := (hbs84 32 rfl).trans (sl_hit hN30 rfl)
                      have s84_33 : a84.tmps.getD 33 undef = (Value.bool true) := (hbs84 33 rfl).trans (sl_hit hN30 rfl)
                      have s84_34 : a84.tmps.getD 34 undef = (Value.bool false) := (hbs84 34 rfl).trans (sl_hit hN30 rfl)
                      have s84_35 : a84.tmps.getD 35 undef = (Value.bool false) := (hbs84 35 rfl).trans (sl_hit hN30 rfl)
                      have s84_36 : a84.tmps.getD 36 undef = (Value.agg #[(Value.int .i64 y.k), (Value.int .i64 y.n), (Value.string (bs y.s))]) := (hbs84 36 rfl).trans (sl_hit hN30 rfl)
                      have s84_37 : a84.tmps.getD 37 undef = (Value.bool true) := (hbs84 37 rfl).trans (sl_hit hN30 rfl)
                      have s84_38 : a84.tmps.getD 38 undef = (Value.bool false) := (hbs84 38 rfl).trans (sl_hit hN30 rfl)
                      have s84_39 : a84.tmps.getD 39 undef = (Value.bool false) := (hbs84 39 rfl).trans (sl_hit hN30 rfl)
                      have s84_40 : a84.tmps.getD 40 undef = v := (hbs84 40 rfl).trans (sl_hit hN30 rfl)
                      have s84_41 : a84.tmps.getD 41 undef = (Value.slice (some ⟨b39, 0, none⟩) bl.length (bl.length + 3)) := (hbs84 41 rfl).trans (sl_hit hN30 rfl)
                      have s84_42 : a84.tmps.getD 42 undef = (Value.slice (some ⟨b39, 0, none⟩) bl.length (bl.length + 3)) := (hbs84 42 rfl).trans (sl_hit hN30 rfl)
                      have s84_43 : a84.tmps.getD 43 undef = (Value.agg #[(Value.int .i64 x.k), (Value.int .i64 x.n), (Value.string (bs x.s))]) := (hbs84 43 rfl).trans (sl_hit hN30 rfl)
                      have s84_44 : a84.tmps.getD 44 undef = v45 := (hbs84 44 rfl).trans (sl_hit hN30 rfl)
                      have s84_45 : a84.tmps.getD 45 undef = (Value.agg #[(Value.int .i64 x.k), (Value.int .i64 x.n), (Value.string (bs x.s))]) := hph84 0 _ 45 rfl rfl
                      have s84_46 : a84.tmps.getD 46 undef = (Value.agg #[(Value.int .i64 y.k), (Value.int .i64 y.n), (Value.string (bs y.s))]) := hph84 1 _ 46 rfl rfl
                      have s84_47 : a84.tmps.getD 47 undef = (Value.int .i64 (cmpW x y)) := hph84 2 _ 47 rfl rfl
                      have s84_48 : a84.tmps.getD 48 undef = (Value.agg #[(Value.int .i64 x.k), (Value.int .i64 x.n), (Value.string (bs x.s))]) := hph84 3 _ 48 rfl rfl
                      have s84_49 : a84.tmps.getD 49 undef = (Value.agg #[(Value.int .i64 y.k), (Value.int .i64 y.n), (Value.string (bs y.s))]) := hph84 4 _ 49 rfl rfl
                      have s84_50 : a84.tmps.getD 50 undef = (Value.int .i64 (cmpV x y)) := hph84 5 _ 50 rfl rfl
                      have s84_51 : a84.tmps.getD 51 undef = (Value.bool true) := hph84 6 _ 51 rfl rfl
                      have s84_52 : a84.tmps.getD 52 undef = (Value.bool true) := hph84 7 _ 52 rfl rfl
                      have s84_53 : a84.tmps.getD 53 undef = v45 := hph84 8 _ 53 rfl rfl
                      have s84_54 : a84.tmps.getD 54 undef = (Value.string (bs (bl ++ keyV x))) := hph84 9 _ 54 rfl rfl
                      have s84_55 : a84.tmps.getD 55 undef = v := hph84 10 _ 55 rfl rfl
                      have s84_56 : a84.tmps.getD 56 undef = (Value.agg #[(Value.int .i64 x.k), (Value.int .i64 x.n), (Value.string (bs x.s))]) := hph84 11 _ 56 rfl rfl
                      obtain ⟨v55, s84_57, hO56⟩ := hph84 12 _ 57 rfl rfl
                      have hO56 : Own w84 w47.heap.size 5 1 v55 (bl.length + (keyR x).length) ((bl ++ keyR x).map u8v) := hO56
                      have s84_58 : a84.tmps.getD 58 undef = (Value.string (bs (bl ++ keyR x))) := hph84 13 _ 58 rfl rfl
                      have s84_59 : a84.tmps.getD 59 undef = (Value.bool true) := hph84 14 _ 59 rfl rfl
                      have s84_60 : a84.tmps.getD 60 undef = (Value.bool true) := hph84 15 _ 60 rfl rfl
                      have s84_61 : a84.tmps.getD 61 undef = (Value.bool true) := hph84 16 _ 61 rfl rfl
                      have s84_62 : a84.tmps.getD 62 undef = (Value.slice (some ⟨b39, 0, none⟩) bl.length (bl.length + 3)) := hph84 17 _ 62 rfl rfl
                      have s84_63 : a84.tmps.getD 63 undef = v := hph84 18 _ 63 rfl rfl
                      have s84_64 : a84.tmps.getD 64 undef = (Value.bool true) := hph84 19 _ 64 rfl rfl
                      have s84_65 : a84.tmps.getD 65 undef = (Value.bool true) := hph84 20 _ 65 rfl rfl
                      clear hbs84 hph84
                      have E84 : w47.grownBy w84 none := E84
                      have z_w84 := E84.size
                      have hv := hv.keep0 E84
                      have hB5 := hB5.keep0 E84
                      have hB9 := hB9.keep0 E84
                      have hB40 := hB40.keep0 E84
                      have hO46 := hO46.keep0 E84
                      have hb := below_step0 hb E84 hb.size
                      refine hK49 _ _ ?_
                      refine seq_any fun K85 hK85 => ?_
                      refine one_reg ?_
                      refine op_move (ev_base hN84 rfl s84_8) ?_
                      refine op_fn (vs := [v45]) ok39 ⟨(ev_hit hN84 rfl), trivial⟩ (Spoil_ret v45 _ _ _ _ hO46) ?_
                      rintro _ w86 ⟨E87, rfl⟩
                      have z_w86 := E87.size
                      have hv := hv.keepO hO46 E87 (by omega)
                      have hB5 := hB5.keepO hO46 E87 (by decide)
                      have hB9 := hB9.keepO hO46 E87 (by decide)
                      have hB40 := hB40.keep E87 (fun hh => by have := (hO46.lt _ hh.symm).1; omega)
                      have hb := below_stepO hb hO46 E87 hb.size (by omega)
                      refine reg_nil ?_
                      refine hK85 _ _ ?_
                      refine seq_any fun K88 hK88 => ?_
                      refine one_reg ?_
                      refine op_move (ev_base hN84 rfl s84_9) ?_
                      refine op_move (ev_hit hN84 rfl) ?_
                      refine g_true (j := 1) (dj := 69) (b := true) rfl rfl rfl (ev_hit hN84 rfl) ?_
                      refine op_move (ev_base hN84 rfl s84_7) ?_
                      refine g_true (j := 1) (dj := 69) (b := true) rfl rfl rfl (ev_hit hN84 rfl) ?_
                      refine op_move (ev_base hN84 rfl s84_0) ?_
                      refine g_true (j := 1) (dj := 69) (b := true) rfl rfl rfl (ev_hit hN84 rfl) ?_
                      have hq89 : RdC w86 0 w86.heap.size 1 v bl.length (bl.map u8v) := by simpa using (hv.mono (L' := 0) (B' := w86.heap.size) (Nat.zero_le _) (by omega))
                      refine op_fn (vs := [(Value.slice (some ⟨b39, 0, none⟩) bl.length (bl.length + 3)), v]) ok38 ⟨(ev_hit hN84 rfl), ⟨(ev_hit hN84 rfl), trivial⟩⟩ (Ret.mono (Kept_ret bl bl _ v _ (by first | assumption | omega | (simp only [List.length_append, List.length_cons, List.length_nil, List.length_drop, List.length_take]; omega) | (dsimp only; omega) | decide | (simp [keyV, be8_len]; done)) (by first | assumption | omega | (simp only [List.length_append, List.length_cons, List.length_nil, List.length_drop, List.length_take]; omega) | (dsimp only; omega) | decide | (simp [keyV, be8_len]; done)) hB40 hq89) (R' := fun v' w' => Below w86.heap.size w86 w' ∧ v' = .bool true) fun v1 w1 h => ⟨h.1, h.2.trans (congrArg Value.bool (decide_eq_true rfl))⟩) ?_
                      rintro _ w90 ⟨E91, rfl⟩
                      have E91 := grown_of_below E91
                      have z_w90 := E91.size
                      have hv := hv.keep0 E91
                      have hB5 := hB5.keep0 E91
                      have hB9 := hB9.keep0 E91
                      have hB40 := hB40.keep0 E91
                      have hb := below_step0 hb E91 hb.size
                      refine op_pick_t (ev_hit hN84 rfl) (ev_hit hN84 rfl) ?_
                      refine op_assign (ev_hit hN84 rfl) ?_
                      refine reg_nil ?_
                      refine hK88 _ _ ?_
                      refine wp_ret ?_
                      refine ret1 rfl hd84 (ev_hit hN84 rfl) ⟨_, rfl, ?_⟩
                      -- path 14F 19F 25F 31F 33T 37T 51T 59T
                      exact ⟨hb, rfl⟩
                  · -- 59 False
                    exact absurd (by rw [keyR_eq ox.2.1]) g59
                · -- 51 False
                  exact absurd (cmpW_cmpV c33 c37) g51
              · -- 37 False
                rw [c37]
                refine g_true (j := 3) (dj := 35) (b := false) rfl rfl rfl (ev_hit hN30 rfl) ?_
                refine op_not (ev_hit hN30 rfl) ?_
                refine op_pick_f (ev_hit hN30 rfl) (ev_hit hN30 rfl) ?_
                refine reg_nil ?_
                refine hK32 _ _ ?_
                refine wp_cond_true (ev_hit hN30 rfl) ?_
                refine seq_any fun K92 hK92 => ?_
                refine one_reg ?_
                refine op_assign rfl ?_
                refine reg_nil ?_
                refine hK92 _ _ ?_
                refine wp_ret (then_ret ( ?_))
                refine ret1 rfl hd30 (ev_hit hN30 rfl) ⟨_, rfl, ?_⟩
                -- path 14F 19F 25F 31F 33T 37F
                exact ⟨hb, rfl⟩
            · -- 33 False
              rw [c33]
              refine op_not (ev_hit hN30 rfl) ?_
              refine op_move (ev_hit hN30 rfl) ?_
              refine g_false (j := 3) (dj := 35) (b := false) rfl rfl rfl (ev_hit hN30 rfl) rfl rfl ?_
              refine g_false (j := 3) (dj := 35) (b := false) rfl rfl rfl (ev_hit hN30 rfl) rfl rfl ?_
              refine g_false (j := 3) (dj := 35) (b := false) rfl rfl rfl (ev_hit hN30 rfl) rfl rfl ?_
              refine op_pick_t (ev_hit hN30 rfl) rfl ?_
              refine reg_nil ?_
              refine hK32 _ _ ?_
              refine wp_cond_true (ev_hit hN30 rfl) ?_
              refine seq_any fun K93 hK93 => ?_
              refine one_reg ?_
              refine op_assign rfl ?_
              refine reg_nil ?_
              refine hK93 _ _ ?_
              refine wp_ret (then_ret ( ?_))
              refine ret1 rfl hd30 (ev_hit hN30 rfl) ⟨_, rfl, ?_⟩
              -- path 14F 19F 25F 31F 33F
              exact ⟨hb, rfl⟩

end Go.Proofs.Ytkkongnmcfdioaa
