/- Walks, written by a program: what each function of the translation hands back. -/
import Derived.Test.YtkkongnmcfdioaaV9
namespace Go.Proofs.Ytkkongnmcfdioaa
open Go.Gx Go.RowKit
attribute [local irreducible] wpList Code.wp Calls

theorem ValueAll_ret (bl : List UInt8) (x y : Vl) (v : Value) (w : World) (hl : bl.length ≤ 9223372036854775807) (ox : OkV x) (oy : OkV y) (hv : RdC w 0 w.heap.size 1 v bl.length (bl.map u8v)) : Ret Try.prog 5 #[v, (Value.agg #[(Value.int .i64 x.k), (Value.int .i64 x.n), (Value.string (bs x.s))]), (Value.agg #[(Value.int .i64 y.k), (Value.int .i64 y.n), (Value.string (bs y.s))])] w (fun v' w' => Below w.heap.size w w' ∧ v' = .bool true) := by
  have oxk := ox.2.1
  have oxs := ox.2.2
  have oys := oy.2.2
  have hb := Below.refl w.heap.size w
  refine enter (N := 74) Try.func5 rfl rfl (by simp) fun a0 hN hd hA => ?_
  have s0 : a0.tmps.getD 0 undef = v := hA 0 (by simp)
  have s1 : a0.tmps.getD 1 undef = (Value.agg #[(Value.int .i64 x.k), (Value.int .i64 x.n), (Value.string (bs x.s))]) := hA 1 (by simp)
  have s2 : a0.tmps.getD 2 undef = (Value.agg #[(Value.int .i64 y.k), (Value.int .i64 y.n), (Value.string (bs y.s))]) := hA 2 (by simp)
  clear hA
  refine seq_any fun K933 hK933 => ?_
  refine one_reg ?_
  refine op_box (cs := [(Value.int .i64 x.k), (Value.int .i64 x.n), (Value.string (bs x.s))]) (ev_base hN rfl s1) rfl ?_
  intro w934 b935 lo_b935 hi_b935 hB937 E936
  have z_w934 := E936.size
  have hv := hv.keep0 E936
  have hb := below_step0 hb E936 hb.size
  refine op_box (cs := [(Value.int .i64 y.k), (Value.int .i64 y.n), (Value.string (bs y.s))]) (ev_base hN rfl s2) rfl ?_
  intro w938 b939 lo_b939 hi_b939 hB941 E940
  have z_w938 := E940.size
  have hv := hv.keep0 E940
  have hB937 := hB937.keep0 E940
  have hb := below_step0 hb E940 hb.size
  refine op_assign rfl ?_
  refine reg_nil ?_
  refine hK933 _ _ ?_
  refine seq_any fun K942 hK942 => ?_
  refine seq_any fun K943 hK943 => ?_
  refine one_reg ?_
  refine op_fn (vs := []) ok30 trivial (begun4_ret _) ?_
  rintro _ w944 ⟨E945, rfl⟩
  have E945 := grown_of_below E945
  have z_w944 := E945.size
  have hv := hv.keep0 E945
  have hB937 := hB937.keep0 E945
  have hB941 := hB941.keep0 E945
  have hb := below_step0 hb E945 hb.size
  refine op_not (ev_hit hN rfl) ?_
  refine reg_nil ?_
  refine hK943 _ _ ?_
  refine wp_cond_false (ev_hit hN rfl) ?_
  refine wp_skip ?_
  refine hK942 _ _ ?_
  refine seq_any fun K946 hK946 => ?_
  refine seq_any fun K947 hK947 => ?_
  refine one_reg ?_
  refine op_move (ev_base hN rfl s0) ?_
  refine op_len_rd Try.underlying22 (ev_hit hN rfl) hv ?_
  refine op_gtr (ev_hit hN rfl) rfl (fun c14 => ?_) (fun c14 => ?_)
  · -- 14 True
    refine op_move (ev_hit hN rfl) ?_
    refine g_false (j := 3) (dj := 15) (b := false) rfl rfl rfl (ev_hit hN rfl) rfl rfl ?_
    refine g_false (j := 3) (dj := 15) (b := false) rfl rfl rfl (ev_hit hN rfl) rfl rfl ?_
    refine g_false (j := 3) (dj := 15) (b := false) rfl rfl rfl (ev_hit hN rfl) rfl rfl ?_
    refine g_false (j := 3) (dj := 15) (b := false) rfl rfl rfl (ev_hit hN rfl) rfl rfl ?_
    refine op_pick_t (ev_hit hN rfl) rfl ?_
    refine op_move (ev_hit hN rfl) ?_
    refine g_false (j := 9) (dj := 21) (b := false) rfl rfl rfl (ev_hit hN rfl) rfl rfl ?_
    refine g_false (j := 9) (dj := 21) (b := false) rfl rfl rfl (ev_hit hN rfl) rfl rfl ?_
    refine g_false (j := 9) (dj := 21) (b := false) rfl rfl rfl (ev_hit hN rfl) rfl rfl ?_
    refine g_false (j := 9) (dj := 21) (b := false) rfl rfl rfl (ev_hit hN rfl) rfl rfl ?_
    refine op_pick_t (ev_hit hN rfl) rfl ?_
    refine reg_nil ?_
    refine hK947 _ _ ?_
    refine wp_cond_true (ev_hit hN rfl) ?_
    refine seq_any fun K948 hK948 => ?_
    refine one_reg ?_
    refine op_assign rfl ?_
    refine reg_nil ?_
    refine hK948 _ _ ?_
    refine wp_ret (then_ret ( ?_))
    refine ret1 rfl hd (ev_hit hN rfl) ⟨_, rfl, ?_⟩
    -- path 14T
    exact ⟨hb, rfl⟩
  · -- 14 False
    refine op_move (ev_hit hN rfl) ?_
    refine g_true (j := 3) (dj := 15) (b := false) rfl rfl rfl (ev_hit hN rfl) ?_
    refine op_field fld50_2 (ev_hit hN rfl) ?_
    refine g_true (j := 3) (dj := 15) (b := false) rfl rfl rfl (ev_hit hN rfl) ?_
    refine op_load1 (v := (Value.string (bs x.s))) one9 (ev_hit hN rfl) (hB937.cell rfl) ?_
    refine g_true (j := 3) (dj := 15) (b := false) rfl rfl rfl (ev_hit hN rfl) ?_
    refine op_len_str Try.underlying9 (ev_hit hN rfl) ?_
    refine g_true (j := 3) (dj := 15) (b := false) rfl rfl rfl (ev_hit hN rfl) ?_
    refine op_gtr (ev_hit hN rfl) rfl (fun c19 => ?_) (fun c19 => ?_)
    · -- 19 True
      refine op_pick_f (ev_hit hN rfl) (ev_hit hN rfl) ?_
      refine op_move (ev_hit hN rfl) ?_
      refine g_false (j := 9) (dj := 21) (b := false) rfl rfl rfl (ev_hit hN rfl) rfl rfl ?_
      refine g_false (j := 9) (dj := 21) (b := false) rfl rfl rfl (ev_hit hN rfl) rfl rfl ?_
      refine g_false (j := 9) (dj := 21) (b := false) rfl rfl rfl (ev_hit hN rfl) rfl rfl ?_
      refine g_false (j := 9) (dj := 21) (b := false) rfl rfl rfl (ev_hit hN rfl) rfl rfl ?_
      refine op_pick_t (ev_hit hN rfl) rfl ?_
      refine reg_nil ?_
      refine hK947 _ _ ?_
      refine wp_cond_true (ev_hit hN rfl) ?_
      refine seq_any fun K949 hK949 => ?_
      refine one_reg ?_
      refine op_assign rfl ?_
      refine reg_nil ?_
      refine hK949 _ _ ?_
      refine wp_ret (then_ret ( ?_))
      refine ret1 rfl hd (ev_hit hN rfl) ⟨_, rfl, ?_⟩
      -- path 14F 19T
      exact ⟨hb, rfl⟩
    · -- 19 False
      refine op_pick_f (ev_hit hN rfl) (ev_hit hN rfl) ?_
      refine op_move (ev_hit hN rfl) ?_
      refine g_true (j := 9) (dj := 21) (b := false) rfl rfl rfl (ev_hit hN rfl) ?_
      refine op_field fld50_2 (ev_hit hN rfl) ?_
      refine g_true (j := 9) (dj := 21) (b := false) rfl rfl rfl (ev_hit hN rfl) ?_
      refine op_load1 (v := (Value.string (bs y.s))) one9 (ev_hit hN rfl) (hB941.cell rfl) ?_
      refine g_true (j := 9) (dj := 21) (b := false) rfl rfl rfl (ev_hit hN rfl) ?_
      refine op_len_str Try.underlying9 (ev_hit hN rfl) ?_
      refine g_true (j := 9) (dj := 21) (b := false) rfl rfl rfl (ev_hit hN rfl) ?_
      refine op_gtr (ev_hit hN rfl) rfl (fun c25 => ?_) (fun c25 => ?_)
      · -- 25 True
        refine op_pick_f (ev_hit hN rfl) (ev_hit hN rfl) ?_
        refine reg_nil ?_
        refine hK947 _ _ ?_
        refine wp_cond_true (ev_hit hN rfl) ?_
        refine seq_any fun K950 hK950 => ?_
        refine one_reg ?_
        refine op_assign rfl ?_
        refine reg_nil ?_
        refine hK950 _ _ ?_
        refine wp_ret (then_ret ( ?_))
        refine ret1 rfl hd (ev_hit hN rfl) ⟨_, rfl, ?_⟩
        -- path 14F 19F 25T
        exact ⟨hb, rfl⟩
      · -- 25 False
        refine op_pick_f (ev_hit hN rfl) (ev_hit hN rfl) ?_
        refine reg_nil ?_
        refine hK947 _ _ ?_
        refine wp_cond_false (ev_hit hN rfl) ?_
        refine wp_skip ?_
        refine hK946 _ _ ?_
        refine seq_any fun K951 hK951 => ?_
        refine seq_any fun K952 hK952 => ?_
        refine reg_quiet (Φ := phiL [(fun u _ => u = (Value.agg #[(Value.int .i64 x.k), (Value.int .i64 x.n), (Value.string (bs x.s))])), (fun u _ => u = (Value.bool (mayV x))), (fun u _ => u = (Value.agg #[(Value.int .i64 x.k), (Value.int .i64 x.n), (Value.string (bs x.s))])), (fun u _ => u = (Value.bool (mayV x))), (fun u _ => u = (Value.bool ((mayV x) != (mayV x))))]) mixed (by kernel_rfl) (by kernel_rfl) (by kernel_rfl) hN (StL.get (StL.eq (StL.eq (StL.eq (StL.eq (StL.eq (StL.nil _))))))) (ObL.get (s := 5) (ObL.cons ?_ (ObL.cons ?_ (ObL.cons ?_ (ObL.cons ?_ (ObL.cons ?_ (ObL.nil)))))) rfl) ?_
        · -- operation 0, slot 27
          intro a953 w953 hN953 hR953 hbs953 hdp953
          have hR953 : w944.grownBy w953 none := hR953
          have z_w953 := hR953.size
          have hv := hv.keep0 hR953
          have hB937 := hB937.keep0 hR953
          have hB941 := hB941.keep0 hR953
          have hb := below_step0 hb hR953 hb.size
          have q953_4 : a953.tmps.getD 4 undef = (ptr b935 0) := (hbs953 4 rfl).trans (sl_hit hN rfl)
          clear hbs953 hdp953
          refine op_loadA (cs := [(Value.int .i64 x.k), (Value.int .i64 x.n), (Value.string (bs x.s))]) agg50 rfl (ev_base hN953 rfl q953_4) (fun j u hu => by rw [Nat.zero_add]; exact hB937.cell hu) ?_
          exact obN_end rfl rfl ((grown_refl _ _))
        · -- operation 1, slot 28
          intro a954 w954 hN954 hR954 hbs954 hdp954
          have hR954 : w944.grownBy w954 none := hR954
          have z_w954 := hR954.size
          have hv := hv.keep0 hR954
          have hB937 := hB937.keep0 hR954
          have hB941 := hB941.keep0 hR954
          have hb := below_step0 hb hR954 hb.size
          have q954_27 : a954.tmps.getD 27 undef = (Value.agg #[(Value.int .i64 x.k), (Value.int .i64 x.n), (Value.string (bs x.s))]) := hdp954 0 _ 27 (by kernel_rfl) rfl rfl
          clear hbs954 hdp954
          refine op_fn (vs := [(Value.agg #[(Value.int .i64 x.k), (Value.int .i64 x.n), (Value.string (bs x.s))])]) ok31 ⟨(ev_base hN954 rfl q954_27), trivial⟩ (May_ret x _ (by first | assumption | omega | (simp only [List.length_append, List.length_cons, List.length_nil, List.length_drop, List.length_take]; omega) | (dsimp only; omega) | decide | (simp [keyV, be8_len]; done))) ?_
          rintro _ w955 ⟨E956, rfl⟩
          have E956 := grown_of_below E956
          have z_w955 := E956.size
          have hv := hv.keep0 E956
          have hB937 := hB937.keep0 E956
          have hB941 := hB941.keep0 E956
          have hb := below_step0 hb E956 hb.size
          exact obN_end rfl rfl (E956)
        · -- operation 2, slot 29
          intro a957 w957 hN957 hR957 hbs957 hdp957
          have hR957 : w944.grownBy w957 none := hR957
          have z_w957 := hR957.size
          have hv := hv.keep0 hR957
          have hB937 := hB937.keep0 hR957
          have hB941 := hB941.keep0 hR957
          have hb := below_step0 hb hR957 hb.size
          have q957_4 : a957.tmps.getD 4 undef = (ptr b935 0) := (hbs957 4 rfl).trans (sl_hit hN rfl)
          clear hbs957 hdp957
          refine op_loadA (cs := [(Value.int .i64 x.k), (Value.int .i64 x.n), (Value.string (bs x.s))]) agg50 rfl (ev_base hN957 rfl q957_4) (fun j u hu => by rw [Nat.zero_add]; exact hB937.cell hu) ?_
          exact obN_end rfl rfl ((grown_refl _ _))
        · -- operation 3, slot 30
          intro a958 w958 hN958 hR958 hbs958 hdp958
          have hR958 : w944.grownBy w958 none := hR958
          have z_w958 := hR958.size
          have hv := hv.keep0 hR958
          have hB937 := hB937.keep0 hR958
          have hB941 := hB941.keep0 hR958
          have hb := below_step0 hb hR958 hb.size
          have q958_29 : a958.tmps.getD 29 undef = (Value.agg #[(Value.int .i64 x.k), (Value.int .i64 x.n), (Value.string (bs x.s))]) := hdp958 2 _ 29 (by kernel_rfl) rfl rfl
          clear hbs958 hdp958
          refine op_fn (vs := [(Value.agg #[(Value.int .i64 x.k), (Value.int .i64 x.n), (Value.string (bs x.s))])]) ok32 ⟨(ev_base hN958 rfl q958_29), trivial⟩ (MayValue_ret x _ (by first | assumption | omega | (simp only [List.length_append, List.length_cons, List.length_nil, List.length_drop, List.length_take]; omega) | (dsimp only; omega) | decide | (simp [keyV, be8_len]; done))) ?_
          rintro _ w959 ⟨E960, rfl⟩
          have E960 := grown_of_below E960
          have z_w959 := E960.size
          have hv := hv.keep0 E960
          have hB937 := hB937.keep0 E960
          have hB941 := hB941.keep0 E960
          have hb := below_step0 hb E960 hb.size
          exact obN_end rfl rfl (E960)
        · -- operation 4, slot 31
          intro a961 w961 hN961 hR961 hbs961 hdp961
          have hR961 : w944.grownBy w961 none := hR961
          have q961_28 : a961.tmps.getD 28 undef = (Value.bool (mayV x)) := hdp961 1 _ 28 (by kernel_rfl) rfl rfl
          have q961_30 : a961.tmps.getD 30 undef = (Value.bool (mayV x)) := hdp961 3 _ 30 (by kernel_rfl) rfl rfl
          clear hbs961 hdp961
          refine op_neb Try.underlying4 (ev_base hN961 rfl q961_28) (ev_base hN961 rfl q961_30) ?_
          exact obN_end rfl rfl ((grown_refl _ _))
        · -- behind the region
          intro a962 w962 hN962 hd962 hbs962 hph962 E962
          have hd962 := hd962.trans hd
          have s962_0 : a962.tmps.getD 0 undef = v := (hbs962 0 rfl).trans (sl_base hN rfl s0)
          have s962_1 : a962.tmps.getD 1 undef = (Value.agg #[(Value.int .i64 x.k), (Value.int .i64 x.n), (Value.string (bs x.s))]) := (hbs962 1 rfl).trans (sl_base hN rfl s1)
          have s962_2 : a962.tmps.getD 2 undef = (Value.agg #[(Value.int .i64 y.k), (Value.int .i64 y.n), (Value.string (bs y.s))]) := (hbs962 2 rfl).trans (sl_base hN rfl s2)
          have s962_4 : a962.tmps.getD 4 undef = (ptr b935 0) := (hbs962 4 rfl).trans (sl_hit hN rfl)
          have s962_5 : a962.tmps.getD 5 undef = (ptr b939 0) := (hbs962 5 rfl).trans (sl_hit hN rfl)
          have s962_6 : a962.tmps.getD 6 undef = (Value.bool false) := (hbs962 6 rfl).trans (sl_hit hN rfl)
          have s962_10 : a962.tmps.getD 10 undef = (Value.bool true) := (hbs962 10 rfl).trans (sl_hit hN rfl)
          have s962_11 : a962.tmps.getD 11 undef = (Value.bool false) := (hbs962 11 rfl).trans (sl_hit hN rfl)
          have s962_12 : a962.tmps.getD 12 undef = v := (hbs962 12 rfl).trans (sl_hit hN rfl)
          have s962_13 : a962.tmps.getD 13 undef = (Value.int .i64 ((bl.length : Nat) : Int)) := (hbs962 13 rfl).trans (sl_hit hN rfl)
          have s962_14 : a962.tmps.getD 14 undef = (Value.bool false) := (hbs962 14 rfl).trans (sl_hit hN rfl)
          have s962_15 : a962.tmps.getD 15 undef = (Value.bool false) := (hbs962 15 rfl).trans (sl_hit hN rfl)
          have s962_16 : a962.tmps.getD 16 undef = (ptr b935 2) := (hbs962 16 rfl).trans (sl_hit hN rfl)
          have s962_17 : a962.tmps.getD 17 undef = (Value.string (bs x.s)) := (hbs962 17 rfl).trans (sl_hit hN rfl)
          have s962_18 : a962.tmps.getD 18 undef = (Value.int .i64 (x.s.length : Int)) := (hbs962 18 rfl).trans (sl_hit hN rfl)
          have s962_19 : a962.tmps.getD 19 undef = (Value.bool false) := (hbs962 19 rfl).trans (sl_hit hN rfl)
          have s962_20 : a962.tmps.getD 20 undef = (Value.bool false) := (hbs962 20 rfl).trans (sl_hit hN rfl)
          have s962_21 : a962.tmps.getD 21 undef = (Value.bool false) := (hbs962 21 rfl).trans (sl_hit hN rfl)
          have s962_22 : a962.tmps.getD 22 undef = (ptr b939 2) := (hbs962 22 rfl).trans (sl_hit hN rfl)
          have s962_23 : a962.tmps.getD 23 undef = (Value.string (bs y.s)) := (hbs962 23 rfl).trans (sl_hit hN rfl)
          have s962_24 : a962.tmps.getD 24 undef = (Value.int .i64 (y.s.length : Int)) := (hbs962 24 rfl).trans (sl_hit hN rfl)
          have s962_25 : a962.tmps.getD 25 undef = (Value.bool false) := (hbs962 25 rfl).trans (sl_hit hN rfl)
          have s962_26 : a962.tmps.getD 26 undef = (Value.bool false) := (hbs962 26 rfl).trans (sl_hit hN rfl)
          have s962_27 : a962.tmps.getD 27 undef = (Value.agg #[(Value.int .i64 x.k), (Value.int .i64 x.n), (Value.string (bs x.s))]) := hph962 0 _ 27 rfl rfl
          have s962_28 : a962.tmps.getD 28 undef = (Value.bool (mayV x)) := hph962 1 _ 28 rfl rfl
          have s962_29 : a962.tmps.getD 29 undef = (Value.agg #[(Value.int .i64 x.k), (Value.int .i64 x.n), (Value.string (bs x.s))]) := hph962 2 _ 29 rfl rfl
          have s962_30 : a962.tmps.getD 30 undef = (Value.bool (mayV x)) := hph962 3 _ 30 rfl rfl
          have s962_31 : a962.tmps.getD 31 undef = (Value.bool ((mayV x) != (mayV x))) := hph962 4 _ 31 rfl rfl
          clear hbs962 hph962
          have E962 : w944.grownBy w962 none := E962
          have z_w962 := E962.size
          have hv := hv.keep0 E962
          have hB937 := hB937.keep0 E962
          have hB941 := hB941.keep0 E962
          have hb := below_step0 hb E962 hb.size
          refine hK952 _ _ ?_
          refine wp_cond_split (ev_base hN962 rfl s962_31) (fun c31 => ?_) (fun c31 => ?_)
          · -- 31 True
            simp_all
          · -- 31 False
            refine wp_skip ?_
            refine hK951 _ _ ?_
            refine seq_any fun K963 hK963 => ?_
            refine seq_any fun K964 hK964 => ?_
            refine one_reg ?_
            refine op_loadA (cs := [(Value.int .i64 x.k), (Value.int .i64 x.n), (Value.string (bs x.s))]) agg50 rfl (ev_base hN962 rfl s962_4) (fun j u hu => by rw [Nat.zero_add]; exact hB937.cell hu) ?_
            refine op_fn (vs := [(Value.agg #[(Value.int .i64 x.k), (Value.int .i64 x.n), (Value.string (bs x.s))])]) ok32 ⟨(ev_hit hN962 rfl), trivial⟩ (MayValue_ret x _ (by first | assumption | omega | (simp only [List.length_append, List.length_cons, List.length_nil, List.length_drop, List.length_take]; omega) | (dsimp only; omega) | decide | (simp [keyV, be8_len]; done))) ?_
            rintro _ w965 ⟨E966, rfl⟩
            have E966 := grown_of_below E966
            have z_w965 := E966.size
            have hv := hv.keep0 E966
            have hB937 := hB937.keep0 E966
            have hB941 := hB941.keep0 E966
            have hb := below_step0 hb E966 hb.size
            rcases Bool.eq_false_or_eq_true ((mayV x)) with c33 | c33
            · -- 33 True
              rw [c33]
              refine op_not (ev_hit hN962 rfl) ?_
              refine op_move (ev_hit hN962 rfl) ?_
              refine g_true (j := 3) (dj := 35) (b := false) rfl rfl rfl (ev_hit hN962 rfl) ?_
              refine op_loadA (cs := [(Value.int .i64 y.k), (Value.int .i64 y.n), (Value.string (bs y.s))]) agg50 rfl (ev_base hN962 rfl s962_5) (fun j u hu => by rw [Nat.zero_add]; exact hB941.cell hu) ?_
              refine g_true (j := 3) (dj := 35) (b := false) rfl rfl rfl (ev_hit hN962 rfl) ?_
              refine op_fn (vs := [(Value.agg #[(Value.int .i64 y.k), (Value.int .i64 y.n), (Value.string (bs y.s))])]) ok32 ⟨(ev_hit hN962 rfl), trivial⟩ (MayValue_ret y _ (by first | assumption | omega | (simp only [List.length_append, List.length_cons, List.length_nil, List.length_drop, List.length_take]; omega) | (dsimp only; omega) | decide | (simp [keyV, be8_len]; done))) ?_
              rintro _ w967 ⟨E968, rfl⟩
              have E968 := grown_of_below E968
              have z_w967 := E968.size
              have hv := hv.keep0 E968
              have hB937 := hB937.keep0 E968
              have hB941 := hB941.keep0 E968
              have hb := below_step0 hb E968 hb.size
              rcases Bool.eq_false_or_eq_true ((mayV y)) with c37 | c37
              · -- 37 True
                rw [c37]
                refine g_true (j := 3) (dj := 35) (b := false) rfl rfl rfl (ev_hit hN962 rfl) ?_
                refine op_not (ev_hit hN962 rfl) ?_
                refine op_pick_f (ev_hit hN962 rfl) (ev_hit hN962 rfl) ?_
                refine reg_nil ?_
                refine hK964 _ _ ?_
                refine wp_cond_false (ev_hit hN962 rfl) ?_
                refine wp_skip ?_
                refine hK963 _ _ ?_
                refine seq_any fun K969 hK969 => ?_
                refine one_reg ?_
                refine op_move (ev_base hN962 rfl s962_0) ?_
                have hq970 : RdC w967 0 w967.heap.size 1 v bl.length (bl.map u8v) := by have hh : RdC w967 0 w967.heap.size 1 _ _ _ := (hv.mono (L' := 0) (B' := w967.heap.size) (Nat.zero_le _) (by omega)); first | simpa using hh | simpa [Nat.add_comm, Nat.add_left_comm, Nat.add_assoc] using hh
                refine op_fn (vs := [v]) ok33 ⟨(ev_hit hN962 rfl), trivial⟩ (Twin_ret bl v _ (by first | assumption | omega | (simp only [List.length_append, List.length_cons, List.length_nil, List.length_drop, List.length_take]; omega) | (dsimp only; omega) | decide | (simp [keyV, be8_len]; done)) hq970) ?_
                rintro _ w973 ⟨E974, b971, rfl, lo_b971, hi_b971, hB972⟩
                have E974 := grown_of_below E974
                have z_w973 := E974.size
                have hv := hv.keep0 E974
                have hB937 := hB937.keep0 E974
                have hB941 := hB941.keep0 E974
                have hb := below_step0 hb E974 hb.size
                refine op_assign (ev_hit hN962 rfl) ?_
                refine reg_nil ?_
                refine hK969 _ _ ?_
                refine seq_any fun K975 hK975 => ?_
                refine one_reg ?_
                refine op_move (ev_hit hN962 rfl) ?_
                refine op_loadA (cs := [(Value.int .i64 x.k), (Value.int .i64 x.n), (Value.string (bs x.s))]) agg50 rfl (ev_base hN962 rfl s962_4) (fun j u hu => by rw [Nat.zero_add]; exact hB937.cell hu) ?_
                have hq976 : RdC w973 0 w973.heap.size 1 (Value.slice (some ⟨b971, 0, none⟩) bl.length (bl.length + 3)) bl.length (bl.map u8v) := by have hh : RdC w973 0 w973.heap.size 1 _ _ _ := ((show RdC w973 b971 (b971 + 1) 1 (Value.slice (some ⟨b971, 0, none⟩) bl.length (bl.length + 3)) bl.length ((bl.map u8v)) from by simpa using (RdC.ofRow (sz := 1) (m := bl.length) (c := (bl.length + 3)) hB972 (by simp) (by omega) (by unfold maxLen; omega))).mono (L' := 0) (B' := w973.heap.size) (Nat.zero_le _) (by have := hB972.lt; omega)); first | simpa using hh | simpa [Nat.add_comm, Nat.add_left_comm, Nat.add_assoc] using hh
                refine op_fn (vs := [(Value.slice (some ⟨b971, 0, none⟩) bl.length (bl.length + 3)), (Value.agg #[(Value.int .i64 x.k), (Value.int .i64 x.n), (Value.string (bs x.s))])]) ok34 ⟨(ev_hit hN962 rfl), ⟨(ev_hit hN962 rfl), trivial⟩⟩ (Key_ret bl x _ _ (by first | assumption | omega | (simp only [List.length_append, List.length_cons, List.length_nil, List.length_drop, List.length_take]; omega) | (dsimp only; omega) | decide | (simp [keyV, be8_len]; done)) (by first | assumption | omega | (simp only [List.length_append, List.length_cons, List.length_nil, List.length_drop, List.length_take]; omega) | (dsimp only; omega) | decide | (simp [keyV, be8_len]; done)) (by first | assumption | omega | (simp only [List.length_append, List.length_cons, List.length_nil, List.length_drop, List.length_take]; omega) | (dsimp only; omega) | decide | (simp [keyV, be8_len]; done)) hq976) ?_
                rintro v977 w979 ⟨E980, hO978⟩
                have E980 := grown_of_below E980
                have z_w979 := E980.size
                have hv := hv.keep0 E980
                have hB937 := hB937.keep0 E980
                have hB941 := hB941.keep0 E980
                have hB972 := hB972.keep0 E980
                have hb := below_step0 hb E980 hb.size
                have hO978 : Own w979 w973.heap.size 5 1 v977 (bl.length + (keyV x).length) ((bl ++ keyV x).map u8v) := by simpa using hO978.mono (base' := w973.heap.size) (by omega)
                refine op_assign (ev_hit hN962 rfl) ?_
                refine reg_nil ?_
                refine hK975 _ _ ?_
                refine seq_any fun K981 hK981 => ?_
                by_cases g51 : (cmpW x y) = (cmpV x y)
                · -- 51 True
                  by_cases g59 : (bl ++ keyV x) = (bl ++ keyR x)
                  · -- 59 True
                    refine reg_quiet (Φ := phiL [(fun u _ => u = (Value.agg #[(Value.int .i64 x.k), (Value.int .i64 x.n), (Value.string (bs x.s))])), (fun u _ => u = (Value.agg #[(Value.int .i64 y.k), (Value.int .i64 y.n), (Value.string (bs y.s))])), (fun u _ => u = (Value.int .i64 (cmpW x y))), (fun u _ => u = (Value.agg #[(Value.int .i64 x.k), (Value.int .i64 x.n), (Value.string (bs x.s))])), (fun u _ => u = (Value.agg #[(Value.int .i64 y.k), (Value.int .i64 y.n), (Value.string (bs y.s))])), (fun u _ => u = (Value.int .i64 (cmpV x y))), (fun u _ => u = (Value.bool true)), (fun u _ => u = (Value.bool true)), (fun u _ => u = v977), (fun u _ => u = (Value.string (bs (bl ++ keyV x)))), (fun u _ => u = v), (fun u _ => u = (Value.agg #[(Value.int .i64 x.k), (Value.int .i64 x.n), (Value.string (bs x.s))])), (fun u w' => ∃ (v987 : Value), u = v987 ∧ Own w' w979.heap.size 5 1 v987 (bl.length + (keyR x).length) ((bl ++ keyR x).map u8v)), (fun u _ => u = (Value.string (bs (bl ++ keyR x)))), (fun u _ => u = (Value.bool true)), (fun u _ => u = (Value.bool true)), (fun u _ => u = (Value.bool true)), (fun u _ => u = (Value.slice (some ⟨b971, 0, none⟩) bl.length (bl.length + 3))), (fun u _ => u = v), (fun u _ => u = (Value.bool true)), (fun u _ => u = (Value.bool true)), (fun u _ => u = (Value.bool true))]) mixed (by kernel_rfl) (by kernel_rfl) (by kernel_rfl) hN962 (StL.get (StL.eq (StL.eq (StL.eq (StL.eq (StL.eq (StL.eq (StL.eq (StL.eq (StL.eq (StL.eq (StL.eq (StL.eq (StL.cons (fun u w1 w2 E h => by obtain ⟨x0, hv, f0⟩ := h; exact ⟨x0, hv, f0.keep0 E⟩) (StL.eq (StL.eq (StL.eq (StL.eq (StL.eq (StL.eq (StL.eq (StL.eq (StL.eq (StL.nil _)))))))))))))))))))))))) (ObL.get (s := 22) (ObL.cons ?_ (ObL.cons ?_ (ObL.cons ?_ (ObL.cons ?_ (ObL.cons ?_ (ObL.cons ?_ (ObL.cons ?_ (ObL.cons ?_ (ObL.cons ?_ (ObL.cons ?_ (ObL.cons ?_ (ObL.cons ?_ (ObL.cons ?_ (ObL.cons ?_ (ObL.cons ?_ (ObL.cons ?_ (ObL.cons ?_ (ObL.cons ?_ (ObL.cons ?_ (ObL.cons ?_ (ObL.cons ?_ (ObL.cons ?_ (ObL.nil))))))))))))))))))))))) rfl) ?_
                    · -- operation 0, slot 45
                      intro a982 w982 hN982 hR982 hbs982 hdp982
                      have hR982 : w979.grownBy w982 none := hR982
                      have z_w982 := hR982.size
                      have hv := hv.keep0 hR982
                      have hB937 := hB937.keep0 hR982
                      have hB941 := hB941.keep0 hR982
                      have hB972 := hB972.keep0 hR982
                      have hO978 := hO978.keep0 hR982
                      have hb := below_step0 hb hR982 hb.size
                      have q982_4 : a982.tmps.getD 4 undef = (ptr b935 0) := (hbs982 4 rfl).trans (sl_base hN962 rfl s962_4)
                      clear hbs982 hdp982
                      refine op_loadA (cs := [(Value.int .i64 x.k), (Value.int .i64 x.n), (Value.string (bs x.s))]) agg50 rfl (ev_base hN982 rfl q982_4) (fun j u hu => by rw [Nat.zero_add]; exact hB937.cell hu) ?_
                      exact obN_end rfl rfl ((grown_refl _ _))
                    · -- operation 1, slot 46
                      intro a983 w983 hN983 hR983 hbs983 hdp983
                      have hR983 : w979.grownBy w983 none := hR983
                      have z_w983 := hR983.size
                      have hv := hv.keep0 hR983
                      have hB937 := hB937.keep0 hR983
                      have hB941 := hB941.keep0 hR983
                      have hB972 := hB972.keep0 hR983
                      have hO978 := hO978.keep0 hR983
                      have hb := below_step0 hb hR983 hb.size
                      have q983_5 : a983.tmps.getD 5 undef = (ptr b939 0) := (hbs983 5 rfl).trans (sl_base hN962 rfl s962_5)
                      clear hbs983 hdp983
                      refine op_loadA (cs := [(Value.int .i64 y.k), (Value.int .i64 y.n), (Value.string (bs y.s))]) agg50 rfl (ev_base hN983 rfl q983_5) (fun j u hu => by rw [Nat.zero_add]; exact hB941.cell hu) ?_
                      exact obN_end rfl rfl ((grown_refl _ _))
                    · -- operation 2, slot 47
                      intro a984 w984 hN984 hR984 hbs984 hdp984
                      have hR984 : w979.grownBy w984 none := hR984
                      have z_w984 := hR984.size
                      have hv := hv.keep0 hR984
                      have hB937 := hB937.keep0 hR984
                      have hB941 := hB941.keep0 hR984
                      have hB972 := hB972.keep0 hR984
                      have hO978 := hO978.keep0 hR984
                      have hb := below_step0 hb hR984 hb.size
                      have q984_45 : a984.tmps.getD 45 undef = (Value.agg #[(Value.int .i64 x.k), (Value.int .i64 x.n), (Value.string (bs x.s))]) := hdp984 0 _ 45 (by kernel_rfl) rfl rfl
                      have q984_46 : a984.tmps.getD 46 undef = (Value.agg #[(Value.int .i64 y.k), (Value.int .i64 y.n), (Value.string (bs y.s))]) := hdp984 1 _ 46 (by kernel_rfl) rfl rfl
                      clear hbs984 hdp984
                      refine op_fn (vs := [(Value.agg #[(Value.int .i64 x.k), (Value.int .i64 x.n), (Value.string (bs x.s))]), (Value.agg #[(Value.int .i64 y.k), (Value.int .i64 y.n), (Value.string (bs y.s))])]) ok35 ⟨(ev_base hN984 rfl q984_45), ⟨(ev_base hN984 rfl q984_46), trivial⟩⟩ (Compare_ret x y _) ?_
                      rintro _ w985 ⟨E986, rfl⟩
                      have E986 := grown_of_below E986
                      have z_w985 := E986.size
                      have hv := hv.keep0 E986
                      have hB937 := hB937.keep0 E986
                      have hB941 := hB941.keep0 E986
                      have hB972 := hB972.keep0 E986
                      have hO978 := hO978.keep0 E986
                      have hb := below_step0 hb E986 hb.size
                      exact obN_end rfl rfl (E986)
                    · -- operation 3, slot 48
                      intro a987 w987 hN987 hR987 hbs987 hdp987
                      have hR987 : w979.grownBy w987 none := hR987
                      have z_w987 := hR987.size
                      have hv := hv.keep0 hR987
                      have hB937 := hB937.keep0 hR987
                      have hB941 := hB941.keep0 hR987
                      have hB972 := hB972.keep0 hR987
                      have hO978 := hO978.keep0 hR987
                      have hb := below_step0 hb hR987 hb.size
                      have q987_4 : a987.tmps.getD 4 undef = (ptr b935 0) := (hbs987 4 rfl).trans (sl_base hN962 rfl s962_4)
                      clear hbs987 hdp987
                      refine op_loadA (cs := [(Value.int .i64 x.k), (Value.int .i64 x.n), (Value.string (bs x.s))]) agg50 rfl (ev_base hN987 rfl q987_4) (fun j u hu => by rw [Nat.zero_add]; exact hB937.cell hu) ?_
                      exact obN_end rfl rfl ((grown_refl _ _))
                    · -- operation 4, slot 49
                      intro a988 w988 hN988 hR988 hbs988 hdp988
                      have hR988 : w979.grownBy w988 none := hR988
                      have z_w988 := hR988.size
                      have hv := hv.keep0 hR988
                      have hB937 := hB937.keep0 hR988
                      have hB941 := hB941.keep0 hR988
                      have hB972 := hB972.keep0 hR988
                      have hO978 := hO978.keep0 hR988
                      have hb := below_step0 hb hR988 hb.size
                      have q988_5 : a988.tmps.getD 5 undef = (ptr b939 0) := (hbs988 5 rfl).trans (sl_base hN962 rfl s962_5)
                      clear hbs988 hdp988
                      refine op_loadA (cs := [(Value.int .i64 y.k), (Value.int .i64 y.n), (Value.string (bs y.s))]) agg50 rfl (ev_base hN988 rfl q988_5) (fun j u hu => by rw [Nat.zero_add]; exact hB941.cell hu) ?_
                      exact obN_end rfl rfl ((grown_refl _ _))
                    · -- operation 5, slot 50
                      intro a989 w989 hN989 hR989 hbs989 hdp989
                      have hR989 : w979.grownBy w989 none := hR989
                      have z_w989 := hR989.size
                      have hv := hv.keep0 hR989
                      have hB937 := hB937.keep0 hR989
                      have hB941 := hB941.keep0 hR989
                      have hB972 := hB972.keep0 hR989
                      have hO978 := hO978.keep0 hR989
                      have hb := below_step0 hb hR989 hb.size
                      have q989_48 : a989.tmps.getD 48 undef = (Value.agg #[(Value.int .i64 x.k), (Value.int .i64 x.n), (Value.string (bs x.s))]) := hdp989 3 _ 48 (by kernel_rfl) rfl rfl
                      have q989_49 : a989.tmps.getD 49 undef = (Value.agg #[(Value.int .i64 y.k), (Value.int .i64 y.n), (Value.string (bs y.s))]) := hdp989 4 _ 49 (by kernel_rfl) rfl rfl
                      clear hbs989 hdp989
                      refine op_fn (vs := [(Value.agg #[(Value.int .i64 x.k), (Value.int .i64 x.n), (Value.string (bs x.s))]), (Value.agg #[(Value.int .i64 y.k), (Value.int .i64 y.n), (Value.string (bs y.s))])]) ok36 ⟨(ev_base hN989 rfl q989_48), ⟨(ev_base hN989 rfl q989_49), trivial⟩⟩ (CompareValue_ret x y _ (by first | assumption | omega | (simp only [List.length_append, List.length_cons, List.length_nil, List.length_drop, List.length_take]; omega) | (dsimp only; omega) | decide | (simp [keyV, be8_len]; done)) (by first | assumption | omega | (simp only [List.length_append, List.length_cons, List.length_nil, List.length_drop, List.length_take]; omega) | (dsimp only; omega) | decide | (simp [keyV, be8_len]; done))) ?_
                      rintro _ w990 ⟨E991, rfl⟩
                      have E991 := grown_of_below E991
                      have z_w990 := E991.size
                      have hv := hv.keep0 E991
                      have hB937 := hB937.keep0 E991
                      have hB941 := hB941.keep0 E991
                      have hB972 := hB972.keep0 E991
                      have hO978 := hO978.keep0 E991
                      have hb := below_step0 hb E991 hb.size
                      exact obN_end rfl rfl (E991)
                    · -- operation 6, slot 51
                      intro a992 w992 hN992 hR992 hbs992 hdp992
                      have hR992 : w979.grownBy w992 none := hR992
                      have q992_47 : a992.tmps.getD 47 undef = (Value.int .i64 (cmpW x y)) := hdp992 2 _ 47 (by kernel_rfl) rfl rfl
                      have q992_50 : a992.tmps.getD 50 undef = (Value.int .i64 (cmpV x y)) := hdp992 5 _ 50 (by kernel_rfl) rfl rfl
                      clear hbs992 hdp992
                      refine op_cmp (b := true) (ev_base hN992 rfl q992_47) (ev_base hN992 rfl q992_50) (b_eql (decide_eq_true g51)) ?_
                      exact obN_end rfl rfl ((grown_refl _ _))
                    · -- operation 7, slot 52
                      intro a993 w993 hN993 hR993 hbs993 hdp993
                      have hR993 : w979.grownBy w993 none := hR993
                      have q993_51 : a993.tmps.getD 51 undef = (Value.bool true) := hdp993 6 _ 51 (by kernel_rfl) rfl rfl
                      clear hbs993 hdp993
                      refine op_move (ev_base hN993 rfl q993_51) ?_
                      exact obN_end rfl rfl ((grown_refl _ _))
                    · -- operation 8, slot 53
                      intro a994 w994 hN994 hR994 hbs994 hdp994
                      have hR994 : w979.grownBy w994 none := hR994
                      have q994_8 : a994.tmps.getD 8 undef = v977 := (hbs994 8 rfl).trans (sl_hit hN962 rfl)
                      have q994_52 : a994.tmps.getD 52 undef = (Value.bool true) := hdp994 7 _ 52 (by kernel_rfl) rfl rfl
                      clear hbs994 hdp994
                      refine g_true (j := 7) (dj := 52) (b := true) rfl rfl rfl (ev_base hN994 rfl q994_52) ?_
                      refine op_move (ev_base hN994 rfl q994_8) ?_
                      exact obN_end rfl rfl ((grown_refl _ _))
                    · -- operation 9, slot 54
                      intro a995 w995 hN995 hR995 hbs995 hdp995
                      have hR995 : w979.grownBy w995 none := hR995
                      have z_w995 := hR995.size
                      have hv := hv.keep0 hR995
                      have hB937 := hB937.keep0 hR995
                      have hB941 := hB941.keep0 hR995
                      have hB972 := hB972.keep0 hR995
                      have hO978 := hO978.keep0 hR995
                      have hb := below_step0 hb hR995 hb.size
                      have q995_53 : a995.tmps.getD 53 undef = v977 := hdp995 8 _ 53 (by kernel_rfl) rfl rfl
                      have q995_52 : a995.tmps.getD 52 undef = (Value.bool true) := hdp995 7 _ 52 (by kernel_rfl) rfl rfl
                      clear hbs995 hdp995
                      refine g_true (j := 7) (dj := 52) (b := true) rfl rfl rfl (ev_base hN995 rfl q995_52) ?_
                      refine op_str_of (bl := (bl ++ keyV x)) Try.underlying22 Try.underlying5 Try.underlying9 (ev_base hN995 rfl q995_53) hO978.rdw ?_
                      exact obN_end rfl rfl ((grown_refl _ _))
                    · -- operation 10, slot 55
                      intro a996 w996 hN996 hR996 hbs996 hdp996
                      have hR996 : w979.grownBy w996 none := hR996
                      have q996_0 : a996.tmps.getD 0 undef = v := (hbs996 0 rfl).trans (sl_base hN962 rfl s962_0)
                      have q996_52 : a996.tmps.getD 52 undef = (Value.bool true) := hdp996 7 _ 52 (by kernel_rfl) rfl rfl
                      clear hbs996 hdp996
                      refine g_true (j := 7) (dj := 52) (b := true) rfl rfl rfl (ev_base hN996 rfl q996_52) ?_
                      refine op_move (ev_base hN996 rfl q996_0) ?_
                      exact obN_end rfl rfl ((grown_refl _ _))
                    · -- operation 11, slot 56
                      intro a997 w997 hN997 hR997 hbs997 hdp997
                      have hR997 : w979.grownBy w997 none := hR997
                      have z_w997 := hR997.size
                      have hv := hv.keep0 hR997
                      have hB937 := hB937.keep0 hR997
                      have hB941 := hB941.keep0 hR997
                      have hB972 := hB972.keep0 hR997
                      have hO978 := hO978.keep0 hR997
                      have hb := below_step0 hb hR997 hb.size
                      have q997_4 : a997.tmps.getD 4 undef = (ptr b935 0) := (hbs997 4 rfl).trans (sl_base hN962 rfl s962_4)
                      have q997_52 : a997.tmps.getD 52 undef = (Value.bool true) := hdp997 7 _ 52 (by kernel_rfl) rfl rfl
                      clear hbs997 hdp997
                      refine g_true (j := 7) (dj := 52) (b := true) rfl rfl rfl (ev_base hN997 rfl q997_52) ?_
                      refine op_loadA (cs := [(Value.int .i64 x.k), (Value.int .i64 x.n), (Value.string (bs x.s))]) agg50 rfl (ev_base hN997 rfl q997_4) (fun j u hu => by rw [Nat.zero_add]; exact hB937.cell hu) ?_
                      exact obN_end rfl rfl ((grown_refl _ _))
                    · -- operation 12, slot 57
                      intro a998 w998 hN998 hR998 hbs998 hdp998
                      have hR998 : w979.grownBy w998 none := hR998
                      have z_w998 := hR998.size
                      have hv := hv.keep0 hR998
                      have hB937 := hB937.keep0 hR998
                      have hB941 := hB941.keep0 hR998
                      have hB972 := hB972.keep0 hR998
                      have hO978 := hO978.keep0 hR998
                      have hb := below_step0 hb hR998 hb.size
                      have q998_55 : a998.tmps.getD 55 undef = v := hdp998 10 _ 55 (by kernel_rfl) rfl rfl
                      have q998_56 : a998.tmps.getD 56 undef = (Value.agg #[(Value.int .i64 x.k), (Value.int .i64 x.n), (Value.string (bs x.s))]) := hdp998 11 _ 56 (by kernel_rfl) rfl rfl
                      have q998_52 : a998.tmps.getD 52 undef = (Value.bool true) := hdp998 7 _ 52 (by kernel_rfl) rfl rfl
                      clear hbs998 hdp998
                      refine g_true (j := 7) (dj := 52) (b := true) rfl rfl rfl (ev_base hN998 rfl q998_52) ?_
                      have hq999 : RdC w998 0 w998.heap.size 1 v bl.length (bl.map u8v) := by have hh : RdC w998 0 w998.heap.size 1 _ _ _ := (hv.mono (L' := 0) (B' := w998.heap.size) (Nat.zero_le _) (by omega)); first | simpa using hh | simpa [Nat.add_comm, Nat.add_left_comm, Nat.add_assoc] using hh
                      refine op_fn (vs := [v, (Value.agg #[(Value.int .i64 x.k), (Value.int .i64 x.n), (Value.string (bs x.s))])]) ok37 ⟨(ev_base hN998 rfl q998_55), ⟨(ev_base hN998 rfl q998_56), trivial⟩⟩ (RKey_ret bl x _ _ (by first | assumption | omega | (simp only [List.length_append, List.length_cons, List.length_nil, List.length_drop, List.length_take]; omega) | (dsimp only; omega) | decide | (simp [keyV, be8_len]; done)) (by first | assumption | omega | (simp only [List.length_append, List.length_cons, List.length_nil, List.length_drop, List.length_take]; omega) | (dsimp only; omega) | decide | (simp [keyV, be8_len]; done)) (by first | assumption | omega | (simp only [List.length_append, List.length_cons, List.length_nil, List.length_drop, List.length_take]; omega) | (dsimp only; omega) | decide | (simp [keyV, be8_len]; done)) hq999) ?_
                      rintro v1000 w1002 ⟨E1003, hO1001⟩
                      have E1003 := grown_of_below E1003
                      have z_w1002 := E1003.size
                      have hv := hv.keep0 E1003
                      have hB937 := hB937.keep0 E1003
                      have hB941 := hB941.keep0 E1003
                      have hB972 := hB972.keep0 E1003
                      have hO978 := hO978.keep0 E1003
                      have hb := below_step0 hb E1003 hb.size
                      have hO1001 : Own w1002 w979.heap.size 5 1 v1000 (bl.length + (keyR x).length) ((bl ++ keyR x).map u8v) := by simpa using hO1001.mono (base' := w979.heap.size) (by omega)
                      exact obN_end rfl ⟨v1000, rfl, hO1001⟩ (E1003)
                    · -- operation 13, slot 58
                      intro a1004 w1004 hN1004 hR1004 hbs1004 hdp1004
                      have hR1004 : w979.grownBy w1004 none := hR1004
                      have z_w1004 := hR1004.size
                      have hv := hv.keep0 hR1004
                      have hB937 := hB937.keep0 hR1004
                      have hB941 := hB941.keep0 hR1004
                      have hB972 := hB972.keep0 hR1004
                      have hO978 := hO978.keep0 hR1004
                      have hb := below_step0 hb hR1004 hb.size
                      obtain ⟨v987, q1004_57, hO988⟩ := hdp1004 12 _ 57 (by kernel_rfl) rfl rfl
                      have hO988 : Own w1004 w979.heap.size 5 1 v987 (bl.length + (keyR x).length) ((bl ++ keyR x).map u8v) := hO988
                      have q1004_52 : a1004.tmps.getD 52 undef = (Value.bool true) := hdp1004 7 _ 52 (by kernel_rfl) rfl rfl
                      clear hbs1004 hdp1004
                      refine g_true (j := 7) (dj := 52) (b := true) rfl rfl rfl (ev_base hN1004 rfl q1004_52) ?_
                      refine op_str_of (bl := (bl ++ keyR x)) Try.underlying22 Try.underlying5 Try.underlying9 (ev_base hN1004 rfl q1004_57) hO988.rdw ?_
                      exact obN_end rfl rfl ((grown_refl _ _))
                    · -- operation 14, slot 59
                      intro a1005 w1005 hN1005 hR1005 hbs1005 hdp1005
                      have hR1005 : w979.grownBy w1005 none := hR1005
                      have q1005_54 : a1005.tmps.getD 54 undef = (Value.string (bs (bl ++ keyV x))) := hdp1005 9 _ 54 (by kernel_rfl) rfl rfl
                      have q1005_58 : a1005.tmps.getD 58 undef = (Value.string (bs (bl ++ keyR x))) := hdp1005 13 _ 58 (by kernel_rfl) rfl rfl
                      have q1005_52 : a1005.tmps.getD 52 undef = (Value.bool true) := hdp1005 7 _ 52 (by kernel_rfl) rfl rfl
                      clear hbs1005 hdp1005
                      refine g_true (j := 7) (dj := 52) (b := true) rfl rfl rfl (ev_base hN1005 rfl q1005_52) ?_
                      refine op_seqlb (b := true) (ev_base hN1005 rfl q1005_54) (ev_base hN1005 rfl q1005_58) (decide_eq_true g59) ?_
                      exact obN_end rfl rfl ((grown_refl _ _))
                    · -- operation 15, slot 60
                      intro a1006 w1006 hN1006 hR1006 hbs1006 hdp1006
                      have hR1006 : w979.grownBy w1006 none := hR1006
                      have q1006_52 : a1006.tmps.getD 52 undef = (Value.bool true) := hdp1006 7 _ 52 (by kernel_rfl) rfl rfl
                      have q1006_59 : a1006.tmps.getD 59 undef = (Value.bool true) := hdp1006 14 _ 59 (by kernel_rfl) rfl rfl
                      clear hbs1006 hdp1006
                      refine op_pick_t (ev_base hN1006 rfl q1006_52) (ev_base hN1006 rfl q1006_59) ?_
                      exact obN_end rfl rfl ((grown_refl _ _))
                    · -- operation 16, slot 61
                      intro a1007 w1007 hN1007 hR1007 hbs1007 hdp1007
                      have hR1007 : w979.grownBy w1007 none := hR1007
                      have q1007_60 : a1007.tmps.getD 60 undef = (Value.bool true) := hdp1007 15 _ 60 (by kernel_rfl) rfl rfl
                      clear hbs1007 hdp1007
                      refine op_move (ev_base hN1007 rfl q1007_60) ?_
                      exact obN_end rfl rfl ((grown_refl _ _))
                    · -- operation 17, slot 62
                      intro a1008 w1008 hN1008 hR1008 hbs1008 hdp1008
                      have hR1008 : w979.grownBy w1008 none := hR1008
                      have q1008_7 : a1008.tmps.getD 7 undef = (Value.slice (some ⟨b971, 0, none⟩) bl.length (bl.length + 3)) := (hbs1008 7 rfl).trans (sl_hit hN962 rfl)
                      have q1008_61 : a1008.tmps.getD 61 undef = (Value.bool true) := hdp1008 16 _ 61 (by kernel_rfl) rfl rfl
                      clear hbs1008 hdp1008
                      refine g_true (j := 16) (dj := 61) (b := true) rfl rfl rfl (ev_base hN1008 rfl q1008_61) ?_
                      refine op_move (ev_base hN1008 rfl q1008_7) ?_
                      exact obN_end rfl rfl ((grown_refl _ _))
                    · -- operation 18, slot 63
                      intro a1009 w1009 hN1009 hR1009 hbs1009 hdp1009
                      have hR1009 : w979.grownBy w1009 none := hR1009
                      have q1009_0 : a1009.tmps.getD 0 undef = v := (hbs1009 0 rfl).trans (sl_base hN962 rfl s962_0)
                      have q1009_61 : a1009.tmps.getD 61 undef = (Value.bool true) := hdp1009 16 _ 61 (by kernel_rfl) rfl rfl
                      clear hbs1009 hdp1009
                      refine g_true (j := 16) (dj := 61) (b := true) rfl rfl rfl (ev_base hN1009 rfl q1009_61) ?_
                      refine op_move (ev_base hN1009 rfl q1009_0) ?_
                      exact obN_end rfl rfl ((grown_refl _ _))
                    · -- operation 19, slot 64
                      intro a1010 w1010 hN1010 hR1010 hbs1010 hdp1010
                      have hR1010 : w979.grownBy w1010 none := hR1010
                      have z_w1010 := hR1010.size
                      have hv := hv.keep0 hR1010
                      have hB937 := hB937.keep0 hR1010
                      have hB941 := hB941.keep0 hR1010
                      have hB972 := hB972.keep0 hR1010
                      have hO978 := hO978.keep0 hR1010
                      have hb := below_step0 hb hR1010 hb.size
                      have q1010_62 : a1010.tmps.getD 62 undef = (Value.slice (some ⟨b971, 0, none⟩) bl.length (bl.length + 3)) := hdp1010 17 _ 62 (by kernel_rfl) rfl rfl
                      have q1010_63 : a1010.tmps.getD 63 undef = v := hdp1010 18 _ 63 (by kernel_rfl) rfl rfl
                      have q1010_61 : a1010.tmps.getD 61 undef = (Value.bool true) := hdp1010 16 _ 61 (by kernel_rfl) rfl rfl
                      clear hbs1010 hdp1010
                      refine g_true (j := 16) (dj := 61) (b := true) rfl rfl rfl (ev_base hN1010 rfl q1010_61) ?_
                      have hq1011 : RdC w1010 0 w1010.heap.size 1 v bl.length (bl.map u8v) := by have hh : RdC w1010 0 w1010.heap.size 1 _ _ _ := (hv.mono (L' := 0) (B' := w1010.heap.size) (Nat.zero_le _) (by omega)); first | simpa using hh | simpa [Nat.add_comm, Nat.add_left_comm, Nat.add_assoc] using hh
                      refine op_fn (vs := [(Value.slice (some ⟨b971, 0, none⟩) bl.length (bl.length + 3)), v]) ok38 ⟨(ev_base hN1010 rfl q1010_62), ⟨(ev_base hN1010 rfl q1010_63), trivial⟩⟩ (Ret.mono (Kept_ret bl bl _ v _ (by first | assumption | omega | (simp only [List.length_append, List.length_cons, List.length_nil, List.length_drop, List.length_take]; omega) | (dsimp only; omega) | decide | (simp [keyV, be8_len]; done)) (by first | assumption | omega | (simp only [List.length_append, List.length_cons, List.length_nil, List.length_drop, List.length_take]; omega) | (dsimp only; omega) | decide | (simp [keyV, be8_len]; done)) hB972 hq1011) (R' := fun v' w' => Below w1010.heap.size w1010 w' ∧ v' = .bool true) fun v1 w1 h => ⟨h.1, h.2.trans (congrArg Value.bool (decide_eq_true rfl))⟩) ?_
                      rintro _ w1012 ⟨E1013, rfl⟩
                      have E1013 := grown_of_below E1013
                      have z_w1012 := E1013.size
                      have hv := hv.keep0 E1013
                      have hB937 := hB937.keep0 E1013
                      have hB941 := hB941.keep0 E1013
                      have hB972 := hB972.keep0 E1013
                      have hO978 := hO978.keep0 E1013
                      have hb := below_step0 hb E1013 hb.size
                      exact obN_end rfl rfl (E1013)
                    · -- operation 20, slot 65
                      intro a1014 w1014 hN1014 hR1014 hbs1014 hdp1014
                      have hR1014 : w979.grownBy w1014 none := hR1014
                      have q1014_61 : a1014.tmps.getD 61 undef = (Value.bool true) := hdp1014 16 _ 61 (by kernel_rfl) rfl rfl
                      have q1014_64 : a1014.tmps.getD 64 undef = (Value.bool true) := hdp1014 19 _ 64 (by kernel_rfl) rfl rfl
                      clear hbs1014 hdp1014
                      refine op_pick_t (ev_base hN1014 rfl q1014_61) (ev_base hN1014 rfl q1014_64) ?_
                      exact obN_end rfl rfl ((grown_refl _ _))
                    · -- operation 21, slot 9
                      intro a1015 w1015 hN1015 hR1015 hbs1015 hdp1015
                      have hR1015 : w979.grownBy w1015 none := hR1015
                      have q1015_65 : a1015.tmps.getD 65 undef = (Value.bool true) := hdp1015 20 _ 65 (by kernel_rfl) rfl rfl
                      clear hbs1015 hdp1015
                      refine op_assign (ev_base hN1015 rfl q1015_65) ?_
                      exact obN_end rfl rfl ((grown_refl _ _))
                    · -- behind the region
                      intro a1016 w1016 hN1016 hd1016 hbs1016 hph1016 E1016
                      have hd1016 := hd1016.trans hd962
                      have s1016_0 : a1016.tmps.getD 0 undef = v := (hbs1016 0 rfl).trans (sl_base hN962 rfl s962_0)
                      have s1016_1 : a1016.tmps.getD 1 undef = (Value.agg #[(Value.int .i64 x.k), (Value.int .i64 x.n), (Value.string (bs x.s))]) := (hbs1016 1 rfl).trans (sl_base hN962 rfl s962_1)
                      have s1016_2 : a1016.tmps.getD 2 undef = (Value.agg #[(Value.int .i64 y.k), (Value.int .i64 y.n), (Value.string (bs y.s))]) := (hbs1016 2 rfl).trans (sl_base hN962 rfl s962_2)
                      have s1016_4 : a1016.tmps.getD 4 undef = (ptr b935 0) := (hbs1016 4 rfl).trans (sl_base hN962 rfl s962_4)
                      have s1016_5 : a1016.tmps.getD 5 undef = (ptr b939 0) := (hbs1016 5 rfl).trans (sl_base hN962 rfl s962_5)
                      have s1016_6 : a1016.tmps.getD 6 undef = (Value.bool false) := (hbs1016 6 rfl).trans (sl_base hN962 rfl s962_6)
                      have s1016_7 : a1016.tmps.getD 7 undef = (Value.slice (some ⟨b971, 0, none⟩) bl.length (bl.length + 3)) := (hbs1016 7 rfl).trans (sl_hit hN962 rfl)
                      have s1016_8 : a1016.tmps.getD 8 undef = v977 := (hbs1016 8 rfl).trans (sl_hit hN962 rfl)
                      have s1016_9 : a1016.tmps.getD 9 undef = (Value.bool true) := hph1016 21 _ 9 rfl rfl
                      have s1016_10 : a1016.tmps.getD 10 undef = (Value.bool true) := (hbs1016 10 rfl).trans (sl_base hN962 rfl s962_10)
                      have s1016_11 : a1016.tmps.getD 11 undef = (Value.bool false) := (hbs1016 11 rfl).trans (sl_base hN962 rfl s962_11)
                      have s1016_12 : a1016.tmps.getD 12 undef = v := (hbs1016 12 rfl).trans (sl_base hN962 rfl s962_12)
                      have s1016_13 : a1016.tmps.getD 13 undef = (Value.int .i64 ((bl.length : Nat) : Int)) := (hbs1016 13 rfl).trans (sl_base hN962 rfl s962_13)
                      have s1016_14 : a1016.tmps.getD 14 undef = (Value.bool false) := (hbs1016 14 rfl).trans (sl_base hN962 rfl s962_14)
                      have s1016_15 : a1016.tmps.getD 15 undef = (Value.bool false) := (hbs1016 15 rfl).trans (sl_base hN962 rfl s962_15)
                      have s1016_16 : a1016.tmps.getD 16 undef = (ptr b935 2) := (hbs1016 16 rfl).trans (sl_base hN962 rfl s962_16)
                      have s1016_17 : a1016.tmps.getD 17 undef = (Value.string (bs x.s)) := (hbs1016 17 rfl).trans (sl_base hN962 rfl s962_17)
                      have s1016_18 : a1016.tmps.getD 18 undef = (Value.int .i64 (x.s.length : Int)) := (hbs1016 18 rfl).trans (sl_base hN962 rfl s962_18)
                      have s1016_19 : a1016.tmps.getD 19 undef = (Value.bool false) := (hbs1016 19 rfl).trans (sl_base hN962 rfl s962_19)
                      have s1016_20 : a1016.tmps.getD 20 undef = (Value.bool false) := (hbs1016 20 rfl).trans (sl_base hN962 rfl s962_20)
                      have s1016_21 : a1016.tmps.getD 21 undef = (Value.bool false) := (hbs1016 21 rfl).trans (sl_base hN962 rfl s962_21)
                      have s1016_22 : a1016.tmps.getD 22 undef = (ptr b939 2) := (hbs1016 22 rfl).trans (sl_base hN962 rfl s962_22)
                      have s1016_23 : a1016.tmps.getD 23 undef = (Value.string (bs y.s)) := (hbs1016 23 rfl).trans (sl_base hN962 rfl s962_23)
                      have s1016_24 : a1016.tmps.getD 24 undef = (Value.int .i64 (y.s.length : Int)) := (hbs1016 24 rfl).trans (sl_base hN962 rfl s962_24)
                      have s1016_25 : a1016.tmps.getD 25 undef = (Value.bool false) := (hbs1016 25 rfl).trans (sl_base hN962 rfl s962_25)
                      have s1016_26 : a1016.tmps.getD 26 undef = (Value.bool false) := (hbs1016 26 rfl).trans (sl_base hN962 rfl s962_26)
                      have s1016_27 : a1016.tmps.getD 27 undef = (Value.agg #[(Value.int .i64 x.k), (Value.int .i64 x.n), (Value.string (bs x.s))]) := (hbs1016 27 rfl).trans (sl_base hN962 rfl s962_27)
                      have s1016_28 : a1016.tmps.getD 28 undef = (Value.bool (mayV x)) := (hbs1016 28 rfl).trans (sl_base hN962 rfl s962_28)
                      have s1016_29 : a1016.tmps.getD 29 undef = (Value.agg #[(Value.int .i64 x.k), (Value.int .i64 x.n), (Value.string (bs x.s))]) := (hbs1016 29 rfl).trans (sl_base hN962 rfl s962_29)
                      have s1016_30 : a1016.tmps.getD 30 undef = (Value.bool (mayV x)) := (hbs1016 30 rfl).trans (sl_base hN962 rfl s962_30)
                      have s1016_31 : a1016.tmps.getD 31 undef = (Value.bool ((mayV x) != (mayV x))) := (hbs1016 31 rfl).trans (sl_base hN962 rfl s962_31)
                      have s1016_32 : a1016.tmps.getD 32 undef = (Value.agg #[(Value.int .i64 x.k), (Value.int .i64 x.n), (Value.string (bs x.s))]) := (hbs1016 32 rfl).trans (sl_hit hN962 rfl)
                      have s1016_33 : a1016.tmps.getD 33 undef = (Value.bool true) := (hbs1016 33 rfl).trans (sl_hit hN962 rfl)
                      have s1016_34 : a1016.tmps.getD 34 undef = (Value.bool false) := (hbs1016 34 rfl).trans (sl_hit hN962 rfl)
                      have s1016_35 : a1016.tmps.getD 35 undef = (Value.bool false) := (hbs1016 35 rfl).trans (sl_hit hN962 rfl)
                      have s1016_36 : a1016.tmps.getD 36 undef = (Value.agg #[(Value.int .i64 y.k), (Value.int .i64 y.n), (Value.string (bs y.s))]) := (hbs1016 36 rfl).trans (sl_hit hN962 rfl)
                      have s1016_37 : a1016.tmps.getD 37 undef = (Value.bool true) := (hbs1016 37 rfl).trans (sl_hit hN962 rfl)
                      have s1016_38 : a1016.tmps.getD 38 undef = (Value.bool false) := (hbs1016 38 rfl).trans (sl_hit hN962 rfl)
                      have s1016_39 : a1016.tmps.getD 39 undef = (Value.bool false) := (hbs1016 39 rfl).trans (sl_hit hN962 rfl)
                      have s1016_40 : a1016.tmps.getD 40 undef = v := (hbs1016 40 rfl).trans (sl_hit hN962 rfl)
                      have s1016_41 : a1016.tmps.getD 41 undef = (Value.slice (some ⟨b971, 0, none⟩) bl.length (bl.length + 3)) := (hbs1016 41 rfl).trans (sl_hit hN962 rfl)
                      have s1016_42 : a1016.tmps.getD 42 undef = (Value.slice (some ⟨b971, 0, none⟩) bl.length (bl.length + 3)) := (hbs1016 42 rfl).trans (sl_hit hN962 rfl)
                      have s1016_43 : a1016.tmps.getD 43 undef = (Value.agg #[(Value.int .i64 x.k), (Value.int .i64 x.n), (Value.string (bs x.s))]) := (hbs1016 43 rfl).trans (sl_hit hN962 rfl)
                      have s1016_44 : a1016.tmps.getD 44 undef = v977 := (hbs1016 44 rfl).trans (sl_hit hN962 rfl)
                      have s1016_45 : a1016.tmps.getD 45 undef = (Value.agg #[(Value.int .i64 x.k), (Value.int .i64 x.n), (Value.string (bs x.s))]) := hph1016 0 _ 45 rfl rfl
                      have s1016_46 : a1016.tmps.getD 46 undef = (Value.agg #[(Value.int .i64 y.k), (Value.int .i64 y.n), (Value.string (bs y.s))]) := hph1016 1 _ 46 rfl rfl
                      have s1016_47 : a1016.tmps.getD 47 undef = (Value.int .i64 (cmpW x y)) := hph1016 2 _ 47 rfl rfl
                      have s1016_48 : a1016.tmps.getD 48 undef = (Value.agg #[(Value.int .i64 x.k), (Value.int .i64 x.n), (Value.string (bs x.s))]) := hph1016 3 _ 48 rfl rfl
                      have s1016_49 : a1016.tmps.getD 49 undef = (Value.agg #[(Value.int .i64 y.k), (Value.int .i64 y.n), (Value.string (bs y.s))]) := hph1016 4 _ 49 rfl rfl
                      have s1016_50 : a1016.tmps.getD 50 undef = (Value.int .i64 (cmpV x y)) := hph1016 5 _ 50 rfl rfl
                      have s1016_51 : a1016.tmps.getD 51 undef = (Value.bool true) := hph1016 6 _ 51 rfl rfl
                      have s1016_52 : a1016.tmps.getD 52 undef = (Value.bool true) := hph1016 7 _ 52 rfl rfl
                      have s1016_53 : a1016.tmps.getD 53 undef = v977 := hph1016 8 _ 53 rfl rfl
                      have s1016_54 : a1016.tmps.getD 54 undef = (Value.string (bs (bl ++ keyV x))) := hph1016 9 _ 54 rfl rfl
                      have s1016_55 : a1016.tmps.getD 55 undef = v := hph1016 10 _ 55 rfl rfl
                      have s1016_56 : a1016.tmps.getD 56 undef = (Value.agg #[(Value.int .i64 x.k), (Value.int .i64 x.n), (Value.string (bs x.s))]) := hph1016 11 _ 56 rfl rfl
                      obtain ⟨v987, s1016_57, hO988⟩ := hph1016 12 _ 57 rfl rfl
                      have hO988 : Own w1016 w979.heap.size 5 1 v987 (bl.length + (keyR x).length) ((bl ++ keyR x).map u8v) := hO988
                      have s1016_58 : a1016.tmps.getD 58 undef = (Value.string (bs (bl ++ keyR x))) := hph1016 13 _ 58 rfl rfl
                      have s1016_59 : a1016.tmps.getD 59 undef = (Value.bool true) := hph1016 14 _ 59 rfl rfl
                      have s1016_60 : a1016.tmps.getD 60 undef = (Value.bool true) := hph1016 15 _ 60 rfl rfl
                      have s1016_61 : a1016.tmps.getD 61 undef = (Value.bool true) := hph1016 16 _ 61 rfl rfl
                      have s1016_62 : a1016.tmps.getD 62 undef = (Value.slice (some ⟨b971, 0, none⟩) bl.length (bl.length + 3)) := hph1016 17 _ 62 rfl rfl
                      have s1016_63 : a1016.tmps.getD 63 undef = v := hph1016 18 _ 63 rfl rfl
                      have s1016_64 : a1016.tmps.getD 64 undef = (Value.bool true) := hph1016 19 _ 64 rfl rfl
                      have s1016_65 : a1016.tmps.getD 65 undef = (Value.bool true) := hph1016 20 _ 65 rfl rfl
                      clear hbs1016 hph1016
                      have E1016 : w979.grownBy w1016 none := E1016
                      have z_w1016 := E1016.size
                      have hv := hv.keep0 E1016
                      have hB937 := hB937.keep0 E1016
                      have hB941 := hB941.keep0 E1016
                      have hB972 := hB972.keep0 E1016
                      have hO978 := hO978.keep0 E1016
                      have hb := below_step0 hb E1016 hb.size
                      refine hK981 _ _ ?_
                      refine seq_any fun K1017 hK1017 => ?_
                      refine one_reg ?_
                      refine op_move (ev_base hN1016 rfl s1016_8) ?_
                      refine op_fn (vs := [v977]) ok39 ⟨(ev_hit hN1016 rfl), trivial⟩ (Spoil_ret v977 _ _ _ _ hO978) ?_
                      rintro _ w1018 ⟨E1019, rfl⟩
                      have z_w1018 := E1019.size
                      have hv := hv.keepO hO978 E1019 (by omega)
                      have hB937 := hB937.keepO hO978 E1019 (by decide)
                      have hB941 := hB941.keepO hO978 E1019 (by decide)
                      have hB972 := hB972.keep E1019 (fun hh => by have := (hO978.lt _ hh.symm).1; omega)
                      have hb := below_stepO hb hO978 E1019 hb.size (by omega)
                      refine reg_nil ?_
                      refine hK1017 _ _ ?_
                      refine seq_any fun K1020 hK1020 => ?_
                      refine one_reg ?_
                      refine op_move (ev_base hN1016 rfl s1016_9) ?_
                      refine op_move (ev_hit hN1016 rfl) ?_
                      refine g_true (j := 1) (dj := 69) (b := true) rfl rfl rfl (ev_hit hN1016 rfl) ?_
                      refine op_move (ev_base hN1016 rfl s1016_7) ?_
                      refine g_true (j := 1) (dj := 69) (b := true) rfl rfl rfl (ev_hit hN1016 rfl) ?_
                      refine op_move (ev_base hN1016 rfl s1016_0) ?_
                      refine g_true (j := 1) (dj := 69) (b := true) rfl rfl rfl (ev_hit hN1016 rfl) ?_
                      have hq1021 : RdC w1018 0 w1018.heap.size 1 v bl.length (bl.map u8v) := by have hh : RdC w1018 0 w1018.heap.size 1 _ _ _ := (hv.mono (L' := 0) (B' := w1018.heap.size) (Nat.zero_le _) (by omega)); first | simpa using hh | simpa [Nat.add_comm, Nat.add_left_comm, Nat.add_assoc] using hh
                      refine op_fn (vs := [(Value.slice (some ⟨b971, 0, none⟩) bl.length (bl.length + 3)), v]) ok38 ⟨(ev_hit hN1016 rfl), ⟨(ev_hit hN1016 rfl), trivial⟩⟩ (Ret.mono (Kept_ret bl bl _ v _ (by first | assumption | omega | (simp only [List.length_append, List.length_cons, List.length_nil, List.length_drop, List.length_take]; omega) | (dsimp only; omega) | decide | (simp [keyV, be8_len]; done)) (by first | assumption | omega | (simp only [List.length_append, List.length_cons, List.length_nil, List.length_drop, List.length_take]; omega) | (dsimp only; omega) | decide | (simp [keyV, be8_len]; done)) hB972 hq1021) (R' := fun v' w' => Below w1018.heap.size w1018 w' ∧ v' = .bool true) fun v1 w1 h => ⟨h.1, h.2.trans (congrArg Value.bool (decide_eq_true rfl))⟩) ?_
                      rintro _ w1022 ⟨E1023, rfl⟩
                      have E1023 := grown_of_below E1023
                      have z_w1022 := E1023.size
                      have hv := hv.keep0 E1023
                      have hB937 := hB937.keep0 E1023
                      have hB941 := hB941.keep0 E1023
                      have hB972 := hB972.keep0 E1023
                      have hb := below_step0 hb E1023 hb.size
                      refine op_pick_t (ev_hit hN1016 rfl) (ev_hit hN1016 rfl) ?_
                      refine op_assign (ev_hit hN1016 rfl) ?_
                      refine reg_nil ?_
                      refine hK1020 _ _ ?_
                      refine wp_ret ?_
                      refine ret1 rfl hd1016 (ev_hit hN1016 rfl) ⟨_, rfl, ?_⟩
                      -- path 14F 19F 25F 31F 33T 37T 51T 59T
                      exact ⟨hb, rfl⟩
                  · -- 59 False
                    exact absurd (by rw [keyR_eq ox.2.1]) g59
                · -- 51 False
                  exact absurd (cmpW_cmpV c33 c37) g51
              · -- 37 False
                rw [c37]
                refine g_true (j := 3) (dj := 35) (b := false) rfl rfl rfl (ev_hit hN962 rfl) ?_
                refine op_not (ev_hit hN962 rfl) ?_
                refine op_pick_f (ev_hit hN962 rfl) (ev_hit hN962 rfl) ?_
                refine reg_nil ?_
                refine hK964 _ _ ?_
                refine wp_cond_true (ev_hit hN962 rfl) ?_
                refine seq_any fun K1024 hK1024 => ?_
                refine one_reg ?_
                refine op_assign rfl ?_
                refine reg_nil ?_
                refine hK1024 _ _ ?_
                refine wp_ret (then_ret ( ?_))
                refine ret1 rfl hd962 (ev_hit hN962 rfl) ⟨_, rfl, ?_⟩
                -- path 14F 19F 25F 31F 33T 37F
                exact ⟨hb, rfl⟩
            · -- 33 False
              rw [c33]
              refine op_not (ev_hit hN962 rfl) ?_
              refine op_move (ev_hit hN962 rfl) ?_
              refine g_false (j := 3) (dj := 35) (b := false) rfl rfl rfl (ev_hit hN962 rfl) rfl rfl ?_
              refine g_false (j := 3) (dj := 35) (b := false) rfl rfl rfl (ev_hit hN962 rfl) rfl rfl ?_
              refine g_false (j := 3) (dj := 35) (b := false) rfl rfl rfl (ev_hit hN962 rfl) rfl rfl ?_
              refine op_pick_t (ev_hit hN962 rfl) rfl ?_
              refine reg_nil ?_
              refine hK964 _ _ ?_
              refine wp_cond_true (ev_hit hN962 rfl) ?_
              refine seq_any fun K1025 hK1025 => ?_
              refine one_reg ?_
              refine op_assign rfl ?_
              refine reg_nil ?_
              refine hK1025 _ _ ?_
              refine wp_ret (then_ret ( ?_))
              refine ret1 rfl hd962 (ev_hit hN962 rfl) ⟨_, rfl, ?_⟩
              -- path 14F 19F 25F 31F 33F
              exact ⟨hb, rfl⟩

end Go.Proofs.Ytkkongnmcfdioaa
