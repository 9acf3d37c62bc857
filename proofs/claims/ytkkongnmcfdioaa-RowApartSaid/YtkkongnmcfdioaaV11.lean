/- Walks, written by a program: what each function of the translation hands back. -/
import Derived.Test.YtkkongnmcfdioaaV10
namespace Go.Proofs.Ytkkongnmcfdioaa
open Go.Gx Go.RowKit
attribute [local irreducible] wpList Code.wp Calls

theorem ValueOrder_ret (x y z : Vl) (rl : List UInt8) (v : Value) (w : World) (ox : OkV x) (oy : OkV y) (oz : OkV z) (hl : rl.length ≤ 9223372036854775807) (hv : RdC w 0 w.heap.size 1 v rl.length (rl.map u8v)) : Ret Try.prog 7 #[(Value.agg #[(Value.int .i64 x.k), (Value.int .i64 x.n), (Value.string (bs x.s))]), (Value.agg #[(Value.int .i64 y.k), (Value.int .i64 y.n), (Value.string (bs y.s))]), (Value.agg #[(Value.int .i64 z.k), (Value.int .i64 z.n), (Value.string (bs z.s))]), v] w (fun v' w' => Below w.heap.size w w' ∧ v' = .bool true) := by
  have oxs := ox.2.2
  have oys := oy.2.2
  have ozs := oz.2.2
  have hb := Below.refl w.heap.size w
  refine enter (N := 128) Try.func7 rfl rfl (by simp) fun a0 hN hd hA => ?_
  have s0 : a0.tmps.getD 0 undef = (Value.agg #[(Value.int .i64 x.k), (Value.int .i64 x.n), (Value.string (bs x.s))]) := hA 0 (by simp)
  have s1 : a0.tmps.getD 1 undef = (Value.agg #[(Value.int .i64 y.k), (Value.int .i64 y.n), (Value.string (bs y.s))]) := hA 1 (by simp)
  have s2 : a0.tmps.getD 2 undef = (Value.agg #[(Value.int .i64 z.k), (Value.int .i64 z.n), (Value.string (bs z.s))]) := hA 2 (by simp)
  have s3 : a0.tmps.getD 3 undef = v := hA 3 (by simp)
  clear hA
  refine seq_any fun K1026 hK1026 => ?_
  refine one_reg ?_
  refine op_box (cs := [(Value.int .i64 x.k), (Value.int .i64 x.n), (Value.string (bs x.s))]) (ev_base hN rfl s0) rfl ?_
  intro w1027 b1028 lo_b1028 hi_b1028 hB1030 E1029
  have z_w1027 := E1029.size
  have hv := hv.keep0 E1029
  have hb := below_step0 hb E1029 hb.size
  refine op_box (cs := [(Value.int .i64 y.k), (Value.int .i64 y.n), (Value.string (bs y.s))]) (ev_base hN rfl s1) rfl ?_
  intro w1031 b1032 lo_b1032 hi_b1032 hB1034 E1033
  have z_w1031 := E1033.size
  have hv := hv.keep0 E1033
  have hB1030 := hB1030.keep0 E1033
  have hb := below_step0 hb E1033 hb.size
  refine op_box (cs := [(Value.int .i64 z.k), (Value.int .i64 z.n), (Value.string (bs z.s))]) (ev_base hN rfl s2) rfl ?_
  intro w1035 b1036 lo_b1036 hi_b1036 hB1038 E1037
  have z_w1035 := E1037.size
  have hv := hv.keep0 E1037
  have hB1030 := hB1030.keep0 E1037
  have hB1034 := hB1034.keep0 E1037
  have hb := below_step0 hb E1037 hb.size
  refine op_assign rfl ?_
  refine reg_nil ?_
  refine hK1026 _ _ ?_
  refine seq_any fun K1039 hK1039 => ?_
  refine seq_any fun K1040 hK1040 => ?_
  refine one_reg ?_
  refine op_fn (vs := []) ok30 trivial (begun4_ret _) ?_
  rintro _ w1041 ⟨E1042, rfl⟩
  have E1042 := grown_of_below E1042
  have z_w1041 := E1042.size
  have hv := hv.keep0 E1042
  have hB1030 := hB1030.keep0 E1042
  have hB1034 := hB1034.keep0 E1042
  have hB1038 := hB1038.keep0 E1042
  have hb := below_step0 hb E1042 hb.size
  refine op_not (ev_hit hN rfl) ?_
  refine reg_nil ?_
  refine hK1040 _ _ ?_
  refine wp_cond_false (ev_hit hN rfl) ?_
  refine wp_skip ?_
  refine hK1039 _ _ ?_
  refine seq_any fun K1043 hK1043 => ?_
  refine seq_any fun K1044 hK1044 => ?_
  refine one_reg ?_
  refine op_loadA (cs := [(Value.int .i64 x.k), (Value.int .i64 x.n), (Value.string (bs x.s))]) agg50 rfl (ev_hit hN rfl) (fun j u hu => by rw [Nat.zero_add]; exact hB1030.cell hu) ?_
  refine op_fn (vs := [(Value.agg #[(Value.int .i64 x.k), (Value.int .i64 x.n), (Value.string (bs x.s))])]) ok32 ⟨(ev_hit hN rfl), trivial⟩ (MayValue_ret x _ (by first | assumption | omega | (simp only [List.length_append, List.length_cons, List.length_nil, List.length_drop, List.length_take]; omega) | (dsimp only; omega) | decide | (simp [keyV, be8_len]; done))) ?_
  rintro _ w1045 ⟨E1046, rfl⟩
  have E1046 := grown_of_below E1046
  have z_w1045 := E1046.size
  have hv := hv.keep0 E1046
  have hB1030 := hB1030.keep0 E1046
  have hB1034 := hB1034.keep0 E1046
  have hB1038 := hB1038.keep0 E1046
  have hb := below_step0 hb E1046 hb.size
  rcases Bool.eq_false_or_eq_true ((mayV x)) with c20 | c20
  · -- 20 True
    rw [c20]
    refine op_not (ev_hit hN rfl) ?_
    refine op_move (ev_hit hN rfl) ?_
    refine g_true (j := 3) (dj := 22) (b := false) rfl rfl rfl (ev_hit hN rfl) ?_
    refine op_loadA (cs := [(Value.int .i64 y.k), (Value.int .i64 y.n), (Value.string (bs y.s))]) agg50 rfl (ev_hit hN rfl) (fun j u hu => by rw [Nat.zero_add]; exact hB1034.cell hu) ?_
    refine g_true (j := 3) (dj := 22) (b := false) rfl rfl rfl (ev_hit hN rfl) ?_
    refine op_fn (vs := [(Value.agg #[(Value.int .i64 y.k), (Value.int .i64 y.n), (Value.string (bs y.s))])]) ok32 ⟨(ev_hit hN rfl), trivial⟩ (MayValue_ret y _ (by first | assumption | omega | (simp only [List.length_append, List.length_cons, List.length_nil, List.length_drop, List.length_take]; omega) | (dsimp only; omega) | decide | (simp [keyV, be8_len]; done))) ?_
    rintro _ w1047 ⟨E1048, rfl⟩
    have E1048 := grown_of_below E1048
    have z_w1047 := E1048.size
    have hv := hv.keep0 E1048
    have hB1030 := hB1030.keep0 E1048
    have hB1034 := hB1034.keep0 E1048
    have hB1038 := hB1038.keep0 E1048
    have hb := below_step0 hb E1048 hb.size
    rcases Bool.eq_false_or_eq_true ((mayV y)) with c24 | c24
    · -- 24 True
      rw [c24]
      refine g_true (j := 3) (dj := 22) (b := false) rfl rfl rfl (ev_hit hN rfl) ?_
      refine op_not (ev_hit hN rfl) ?_
      refine op_pick_f (ev_hit hN rfl) (ev_hit hN rfl) ?_
      refine op_move (ev_hit hN rfl) ?_
      refine g_true (j := 8) (dj := 27) (b := false) rfl rfl rfl (ev_hit hN rfl) ?_
      refine op_loadA (cs := [(Value.int .i64 z.k), (Value.int .i64 z.n), (Value.string (bs z.s))]) agg50 rfl (ev_hit hN rfl) (fun j u hu => by rw [Nat.zero_add]; exact hB1038.cell hu) ?_
      refine g_true (j := 8) (dj := 27) (b := false) rfl rfl rfl (ev_hit hN rfl) ?_
      refine op_fn (vs := [(Value.agg #[(Value.int .i64 z.k), (Value.int .i64 z.n), (Value.string (bs z.s))])]) ok32 ⟨(ev_hit hN rfl), trivial⟩ (MayValue_ret z _ (by first | assumption | omega | (simp only [List.length_append, List.length_cons, List.length_nil, List.length_drop, List.length_take]; omega) | (dsimp only; omega) | decide | (simp [keyV, be8_len]; done))) ?_
      rintro _ w1049 ⟨E1050, rfl⟩
      have E1050 := grown_of_below E1050
      have z_w1049 := E1050.size
      have hv := hv.keep0 E1050
      have hB1030 := hB1030.keep0 E1050
      have hB1034 := hB1034.keep0 E1050
      have hB1038 := hB1038.keep0 E1050
      have hb := below_step0 hb E1050 hb.size
      rcases Bool.eq_false_or_eq_true ((mayV z)) with c29 | c29
      · -- 29 True
        rw [c29]
        refine g_true (j := 8) (dj := 27) (b := false) rfl rfl rfl (ev_hit hN rfl) ?_
        refine op_not (ev_hit hN rfl) ?_
        refine op_pick_f (ev_hit hN rfl) (ev_hit hN rfl) ?_
        refine op_move (ev_hit hN rfl) ?_
        refine g_true (j := 13) (dj := 32) (b := false) rfl rfl rfl (ev_hit hN rfl) ?_
        refine op_move (ev_base hN rfl s3) ?_
        refine g_true (j := 13) (dj := 32) (b := false) rfl rfl rfl (ev_hit hN rfl) ?_
        refine op_len_rd Try.underlying22 (ev_hit hN rfl) hv ?_
        refine g_true (j := 13) (dj := 32) (b := false) rfl rfl rfl (ev_hit hN rfl) ?_
        refine op_gtr (ev_hit hN rfl) rfl (fun c35 => ?_) (fun c35 => ?_)
        · -- 35 True
          refine op_pick_f (ev_hit hN rfl) (ev_hit hN rfl) ?_
          refine reg_nil ?_
          refine hK1044 _ _ ?_
          refine wp_cond_true (ev_hit hN rfl) ?_
          refine seq_any fun K1051 hK1051 => ?_
          refine one_reg ?_
          refine op_assign rfl ?_
          refine reg_nil ?_
          refine hK1051 _ _ ?_
          refine wp_ret (then_ret ( ?_))
          refine ret1 rfl hd (ev_hit hN rfl) ⟨_, rfl, ?_⟩
          -- path 20T 24T 29T 35T
          exact ⟨hb, rfl⟩
        · -- 35 False
          refine op_pick_f (ev_hit hN rfl) (ev_hit hN rfl) ?_
          refine reg_nil ?_
          refine hK1044 _ _ ?_
          refine wp_cond_false (ev_hit hN rfl) ?_
          refine wp_skip ?_
          refine hK1043 _ _ ?_
          refine seq_any fun K1052 hK1052 => ?_
          have hlx := may_len c20
          have hly := may_len c24
          have hkx := keyV_le x
          have hky := keyV_le y
          have oxn := ox.2.1
          have oyn := oy.2.1
          have htk := take_key c20 ox rl
          refine reg_quiet (Φ := phiL [(fun u _ => u = (Value.agg #[(Value.int .i64 x.k), (Value.int .i64 x.n), (Value.string (bs x.s))])), (fun u w' => ∃ (v1054 : Value), u = v1054 ∧ Own w' w1049.heap.size 5 1 v1054 (keyV x).length ((keyV x).map u8v)), (fun u _ => u = (Value.string (bs (keyV x)))), (fun u _ => u = (Value.agg #[(Value.int .i64 y.k), (Value.int .i64 y.n), (Value.string (bs y.s))])), (fun u w' => ∃ (v1059 : Value), u = v1059 ∧ Own w' w1049.heap.size 5 1 v1059 (keyV y).length ((keyV y).map u8v)), (fun u _ => u = (Value.string (bs (keyV y)))), (fun u _ => u = (Value.string (bs (keyV x)))), (fun u _ => u = (Value.string (bs (keyV y))))]) mixed (by kernel_rfl) (by kernel_rfl) (by kernel_rfl) hN (StL.get (StL.eq (StL.cons (fun u w1 w2 E h => by obtain ⟨x0, hv, f0⟩ := h; exact ⟨x0, hv, f0.keep0 E⟩) (StL.eq (StL.eq (StL.cons (fun u w1 w2 E h => by obtain ⟨x0, hv, f0⟩ := h; exact ⟨x0, hv, f0.keep0 E⟩) (StL.eq (StL.eq (StL.eq (StL.nil _)))))))))) (ObL.get (s := 8) (ObL.cons ?_ (ObL.cons ?_ (ObL.cons ?_ (ObL.cons ?_ (ObL.cons ?_ (ObL.cons ?_ (ObL.cons ?_ (ObL.cons ?_ (ObL.nil))))))))) rfl) ?_
          · -- operation 0, slot 37
            intro a1053 w1053 hN1053 hR1053 hbs1053 hdp1053
            have hR1053 : w1049.grownBy w1053 none := hR1053
            have z_w1053 := hR1053.size
            have hv := hv.keep0 hR1053
            have hB1030 := hB1030.keep0 hR1053
            have hB1034 := hB1034.keep0 hR1053
            have hB1038 := hB1038.keep0 hR1053
            have hb := below_step0 hb hR1053 hb.size
            have q1053_4 : a1053.tmps.getD 4 undef = (ptr b1028 0) := (hbs1053 4 rfl).trans (sl_hit hN rfl)
            clear hbs1053 hdp1053
            refine op_loadA (cs := [(Value.int .i64 x.k), (Value.int .i64 x.n), (Value.string (bs x.s))]) agg50 rfl (ev_base hN1053 rfl q1053_4) (fun j u hu => by rw [Nat.zero_add]; exact hB1030.cell hu) ?_
            exact obN_end rfl rfl ((grown_refl _ _))
          · -- operation 1, slot 38
            intro a1054 w1054 hN1054 hR1054 hbs1054 hdp1054
            have hR1054 : w1049.grownBy w1054 none := hR1054
            have z_w1054 := hR1054.size
            have hv := hv.keep0 hR1054
            have hB1030 := hB1030.keep0 hR1054
            have hB1034 := hB1034.keep0 hR1054
            have hB1038 := hB1038.keep0 hR1054
            have hb := below_step0 hb hR1054 hb.size
            have q1054_37 : a1054.tmps.getD 37 undef = (Value.agg #[(Value.int .i64 x.k), (Value.int .i64 x.n), (Value.string (bs x.s))]) := hdp1054 0 _ 37 (by kernel_rfl) rfl rfl
            clear hbs1054 hdp1054
            have hq1055 : RdC w1054 0 w1054.heap.size 1 (Value.slice none 0 0) ([] : List UInt8).length (([] : List UInt8).map u8v) := by have hh : RdC w1054 0 w1054.heap.size 1 _ _ _ := ((RdC.nil _ 0 0 1).mono (L' := 0) (B' := w1054.heap.size) (Nat.zero_le _) (by omega)); first | simpa using hh | simpa [Nat.add_comm, Nat.add_left_comm, Nat.add_assoc] using hh
            refine op_fn (vs := [(Value.slice none 0 0), (Value.agg #[(Value.int .i64 x.k), (Value.int .i64 x.n), (Value.string (bs x.s))])]) ok34 ⟨rfl, ⟨(ev_base hN1054 rfl q1054_37), trivial⟩⟩ (Key_ret [] x _ _ (by first | assumption | omega | (simp only [List.length_append, List.length_cons, List.length_nil, List.length_drop, List.length_take]; omega) | (dsimp only; omega) | decide | (simp [keyV, be8_len]; done)) (by first | assumption | omega | (simp only [List.length_append, List.length_cons, List.length_nil, List.length_drop, List.length_take]; omega) | (dsimp only; omega) | decide | (simp [keyV, be8_len]; done)) (by first | assumption | omega | (simp only [List.length_append, List.length_cons, List.length_nil, List.length_drop, List.length_take]; omega) | (dsimp only; omega) | decide | (simp [keyV, be8_len]; done)) hq1055) ?_
            rintro v1056 w1058 ⟨E1059, hO1057⟩
            have E1059 := grown_of_below E1059
            have z_w1058 := E1059.size
            have hv := hv.keep0 E1059
            have hB1030 := hB1030.keep0 E1059
            have hB1034 := hB1034.keep0 E1059
            have hB1038 := hB1038.keep0 E1059
            have hb := below_step0 hb E1059 hb.size
            have hO1057 : Own w1058 w1049.heap.size 5 1 v1056 (keyV x).length ((keyV x).map u8v) := by simpa using hO1057.mono (base' := w1049.heap.size) (by omega)
            exact obN_end rfl ⟨v1056, rfl, hO1057⟩ (E1059)
          · -- operation 2, slot 39
            intro a1060 w1060 hN1060 hR1060 hbs1060 hdp1060
            have hR1060 : w1049.grownBy w1060 none := hR1060
            have z_w1060 := hR1060.size
            have hv := hv.keep0 hR1060
            have hB1030 := hB1030.keep0 hR1060
            have hB1034 := hB1034.keep0 hR1060
            have hB1038 := hB1038.keep0 hR1060
            have hb := below_step0 hb hR1060 hb.size
            obtain ⟨v1054, q1060_38, hO1055⟩ := hdp1060 1 _ 38 (by kernel_rfl) rfl rfl
            have hO1055 : Own w1060 w1049.heap.size 5 1 v1054 (keyV x).length ((keyV x).map u8v) := hO1055
            clear hbs1060 hdp1060
            refine op_str_of (bl := (keyV x)) Try.underlying22 Try.underlying5 Try.underlying9 (ev_base hN1060 rfl q1060_38) hO1055.rdw ?_
            exact obN_end rfl rfl ((grown_refl _ _))
          · -- operation 3, slot 40
            intro a1061 w1061 hN1061 hR1061 hbs1061 hdp1061
            have hR1061 : w1049.grownBy w1061 none := hR1061
            have z_w1061 := hR1061.size
            have hv := hv.keep0 hR1061
            have hB1030 := hB1030.keep0 hR1061
            have hB1034 := hB1034.keep0 hR1061
            have hB1038 := hB1038.keep0 hR1061
            have hb := below_step0 hb hR1061 hb.size
            have q1061_5 : a1061.tmps.getD 5 undef = (ptr b1032 0) := (hbs1061 5 rfl).trans (sl_hit hN rfl)
            clear hbs1061 hdp1061
            refine op_loadA (cs := [(Value.int .i64 y.k), (Value.int .i64 y.n), (Value.string (bs y.s))]) agg50 rfl (ev_base hN1061 rfl q1061_5) (fun j u hu => by rw [Nat.zero_add]; exact hB1034.cell hu) ?_
            exact obN_end rfl rfl ((grown_refl _ _))
          · -- operation 4, slot 41
            intro a1062 w1062 hN1062 hR1062 hbs1062 hdp1062
            have hR1062 : w1049.grownBy w1062 none := hR1062
            have z_w1062 := hR1062.size
            have hv := hv.keep0 hR1062
            have hB1030 := hB1030.keep0 hR1062
            have hB1034 := hB1034.keep0 hR1062
            have hB1038 := hB1038.keep0 hR1062
            have hb := below_step0 hb hR1062 hb.size
            have q1062_40 : a1062.tmps.getD 40 undef = (Value.agg #[(Value.int .i64 y.k), (Value.int .i64 y.n), (Value.string (bs y.s))]) := hdp1062 3 _ 40 (by kernel_rfl) rfl rfl
            clear hbs1062 hdp1062
            have hq1063 : RdC w1062 0 w1062.heap.size 1 (Value.slice none 0 0) ([] : List UInt8).length (([] : List UInt8).map u8v) := by have hh : RdC w1062 0 w1062.heap.size 1 _ _ _ := ((RdC.nil _ 0 0 1).mono (L' := 0) (B' := w1062.heap.size) (Nat.zero_le _) (by omega)); first | simpa using hh | simpa [Nat.add_comm, Nat.add_left_comm, Nat.add_assoc] using hh
            refine op_fn (vs := [(Value.slice none 0 0), (Value.agg #[(Value.int .i64 y.k), (Value.int .i64 y.n), (Value.string (bs y.s))])]) ok34 ⟨rfl, ⟨(ev_base hN1062 rfl q1062_40), trivial⟩⟩ (Key_ret [] y _ _ (by first | assumption | omega | (simp only [List.length_append, List.length_cons, List.length_nil, List.length_drop, List.length_take]; omega) | (dsimp only; omega) | decide | (simp [keyV, be8_len]; done)) (by first | assumption | omega | (simp only [List.length_append, List.length_cons, List.length_nil, List.length_drop, List.length_take]; omega) | (dsimp only; omega) | decide | (simp [keyV, be8_len]; done)) (by first | assumption | omega | (simp only [List.length_append, List.length_cons, List.length_nil, List.length_drop, List.length_take]; omega) | (dsimp only; omega) | decide | (simp [keyV, be8_len]; done)) hq1063) ?_
            rintro v1064 w1066 ⟨E1067, hO1065⟩
            have E1067 := grown_of_below E1067
            have z_w1066 := E1067.size
            have hv := hv.keep0 E1067
            have hB1030 := hB1030.keep0 E1067
            have hB1034 := hB1034.keep0 E1067
            have hB1038 := hB1038.keep0 E1067
            have hb := below_step0 hb E1067 hb.size
            have hO1065 : Own w1066 w1049.heap.size 5 1 v1064 (keyV y).length ((keyV y).map u8v) := by simpa using hO1065.mono (base' := w1049.heap.size) (by omega)
            exact obN_end rfl ⟨v1064, rfl, hO1065⟩ (E1067)
          · -- operation 5, slot 42
            intro a1068 w1068 hN1068 hR1068 hbs1068 hdp1068
            have hR1068 : w1049.grownBy w1068 none := hR1068
            have z_w1068 := hR1068.size
            have hv := hv.keep0 hR1068
            have hB1030 := hB1030.keep0 hR1068
            have hB1034 := hB1034.keep0 hR1068
            have hB1038 := hB1038.keep0 hR1068
            have hb := below_step0 hb hR1068 hb.size
            obtain ⟨v1059, q1068_41, hO1060⟩ := hdp1068 4 _ 41 (by kernel_rfl) rfl rfl
            have hO1060 : Own w1068 w1049.heap.size 5 1 v1059 (keyV y).length ((keyV y).map u8v) := hO1060
            clear hbs1068 hdp1068
            refine op_str_of (bl := (keyV y)) Try.underlying22 Try.underlying5 Try.underlying9 (ev_base hN1068 rfl q1068_41) hO1060.rdw ?_
            exact obN_end rfl rfl ((grown_refl _ _))
          · -- operation 6, slot 9
            intro a1069 w1069 hN1069 hR1069 hbs1069 hdp1069
            have hR1069 : w1049.grownBy w1069 none := hR1069
            have q1069_39 : a1069.tmps.getD 39 undef = (Value.string (bs (keyV x))) := hdp1069 2 _ 39 (by kernel_rfl) rfl rfl
            clear hbs1069 hdp1069
            refine op_assign (ev_base hN1069 rfl q1069_39) ?_
            exact obN_end rfl rfl ((grown_refl _ _))
          · -- operation 7, slot 10
            intro a1070 w1070 hN1070 hR1070 hbs1070 hdp1070
            have hR1070 : w1049.grownBy w1070 none := hR1070
            have q1070_42 : a1070.tmps.getD 42 undef = (Value.string (bs (keyV y))) := hdp1070 5 _ 42 (by kernel_rfl) rfl rfl
            clear hbs1070 hdp1070
            refine op_assign (ev_base hN1070 rfl q1070_42) ?_
            exact obN_end rfl rfl ((grown_refl _ _))
          · -- behind the region
            intro a1071 w1071 hN1071 hd1071 hbs1071 hph1071 E1071
            have hd1071 := hd1071.trans hd
            have s1071_0 : a1071.tmps.getD 0 undef = (Value.agg #[(Value.int .i64 x.k), (Value.int .i64 x.n), (Value.string (bs x.s))]) := (hbs1071 0 rfl).trans (sl_base hN rfl s0)
            have s1071_1 : a1071.tmps.getD 1 undef = (Value.agg #[(Value.int .i64 y.k), (Value.int .i64 y.n), (Value.string (bs y.s))]) := (hbs1071 1 rfl).trans (sl_base hN rfl s1)
            have s1071_2 : a1071.tmps.getD 2 undef = (Value.agg #[(Value.int .i64 z.k), (Value.int .i64 z.n), (Value.string (bs z.s))]) := (hbs1071 2 rfl).trans (sl_base hN rfl s2)
            have s1071_3 : a1071.tmps.getD 3 undef = v := (hbs1071 3 rfl).trans (sl_base hN rfl s3)
            have s1071_4 : a1071.tmps.getD 4 undef = (ptr b1028 0) := (hbs1071 4 rfl).trans (sl_hit hN rfl)
            have s1071_5 : a1071.tmps.getD 5 undef = (ptr b1032 0) := (hbs1071 5 rfl).trans (sl_hit hN rfl)
            have s1071_6 : a1071.tmps.getD 6 undef = (ptr b1036 0) := (hbs1071 6 rfl).trans (sl_hit hN rfl)
            have s1071_8 : a1071.tmps.getD 8 undef = (Value.bool false) := (hbs1071 8 rfl).trans (sl_hit hN rfl)
            have s1071_9 : a1071.tmps.getD 9 undef = (Value.string (bs (keyV x))) := hph1071 6 _ 9 rfl rfl
            have s1071_10 : a1071.tmps.getD 10 undef = (Value.string (bs (keyV y))) := hph1071 7 _ 10 rfl rfl
            have s1071_17 : a1071.tmps.getD 17 undef = (Value.bool true) := (hbs1071 17 rfl).trans (sl_hit hN rfl)
            have s1071_18 : a1071.tmps.getD 18 undef = (Value.bool false) := (hbs1071 18 rfl).trans (sl_hit hN rfl)
            have s1071_19 : a1071.tmps.getD 19 undef = (Value.agg #[(Value.int .i64 x.k), (Value.int .i64 x.n), (Value.string (bs x.s))]) := (hbs1071 19 rfl).trans (sl_hit hN rfl)
            have s1071_20 : a1071.tmps.getD 20 undef = (Value.bool true) := (hbs1071 20 rfl).trans (sl_hit hN rfl)
            have s1071_21 : a1071.tmps.getD 21 undef = (Value.bool false) := (hbs1071 21 rfl).trans (sl_hit hN rfl)
            have s1071_22 : a1071.tmps.getD 22 undef = (Value.bool false) := (hbs1071 22 rfl).trans (sl_hit hN rfl)
            have s1071_23 : a1071.tmps.getD 23 undef = (Value.agg #[(Value.int .i64 y.k), (Value.int .i64 y.n), (Value.string (bs y.s))]) := (hbs1071 23 rfl).trans (sl_hit hN rfl)
            have s1071_24 : a1071.tmps.getD 24 undef = (Value.bool true) := (hbs1071 24 rfl).trans (sl_hit hN rfl)
            have s1071_25 : a1071.tmps.getD 25 undef = (Value.bool false) := (hbs1071 25 rfl).trans (sl_hit hN rfl)
            have s1071_26 : a1071.tmps.getD 26 undef = (Value.bool false) := (hbs1071 26 rfl).trans (sl_hit hN rfl)
            have s1071_27 : a1071.tmps.getD 27 undef = (Value.bool false) := (hbs1071 27 rfl).trans (sl_hit hN rfl)
            have s1071_28 : a1071.tmps.getD 28 undef = (Value.agg #[(Value.int .i64 z.k), (Value.int .i64 z.n), (Value.string (bs z.s))]) := (hbs1071 28 rfl).trans (sl_hit hN rfl)
            have s1071_29 : a1071.tmps.getD 29 undef = (Value.bool true) := (hbs1071 29 rfl).trans (sl_hit hN rfl)
            have s1071_30 : a1071.tmps.getD 30 undef = (Value.bool false) := (hbs1071 30 rfl).trans (sl_hit hN rfl)
            have s1071_31 : a1071.tmps.getD 31 undef = (Value.bool false) := (hbs1071 31 rfl).trans (sl_hit hN rfl)
            have s1071_32 : a1071.tmps.getD 32 undef = (Value.bool false) := (hbs1071 32 rfl).trans (sl_hit hN rfl)
            have s1071_33 : a1071.tmps.getD 33 undef = v := (hbs1071 33 rfl).trans (sl_hit hN rfl)
            have s1071_34 : a1071.tmps.getD 34 undef = (Value.int .i64 ((rl.length : Nat) : Int)) := (hbs1071 34 rfl).trans (sl_hit hN rfl)
            have s1071_35 : a1071.tmps.getD 35 undef = (Value.bool false) := (hbs1071 35 rfl).trans (sl_hit hN rfl)
            have s1071_36 : a1071.tmps.getD 36 undef = (Value.bool false) := (hbs1071 36 rfl).trans (sl_hit hN rfl)
            have s1071_37 : a1071.tmps.getD 37 undef = (Value.agg #[(Value.int .i64 x.k), (Value.int .i64 x.n), (Value.string (bs x.s))]) := hph1071 0 _ 37 rfl rfl
            obtain ⟨v1054, s1071_38, hO1055⟩ := hph1071 1 _ 38 rfl rfl
            have hO1055 : Own w1071 w1049.heap.size 5 1 v1054 (keyV x).length ((keyV x).map u8v) := hO1055
            have s1071_39 : a1071.tmps.getD 39 undef = (Value.string (bs (keyV x))) := hph1071 2 _ 39 rfl rfl
            have s1071_40 : a1071.tmps.getD 40 undef = (Value.agg #[(Value.int .i64 y.k), (Value.int .i64 y.n), (Value.string (bs y.s))]) := hph1071 3 _ 40 rfl rfl
            obtain ⟨v1059, s1071_41, hO1060⟩ := hph1071 4 _ 41 rfl rfl
            have hO1060 : Own w1071 w1049.heap.size 5 1 v1059 (keyV y).length ((keyV y).map u8v) := hO1060
            have s1071_42 : a1071.tmps.getD 42 undef = (Value.string (bs (keyV y))) := hph1071 5 _ 42 rfl rfl
            clear hbs1071 hph1071
            have E1071 : w1049.grownBy w1071 none := E1071
            have z_w1071 := E1071.size
            have hv := hv.keep0 E1071
            have hB1030 := hB1030.keep0 E1071
            have hB1034 := hB1034.keep0 E1071
            have hB1038 := hB1038.keep0 E1071
            have hb := below_step0 hb E1071 hb.size
            refine hK1052 _ _ ?_
            refine seq_any fun K1072 hK1072 => ?_
            refine one_reg ?_
            refine op_loadA (cs := [(Value.int .i64 x.k), (Value.int .i64 x.n), (Value.string (bs x.s))]) agg50 rfl (ev_base hN1071 rfl s1071_4) (fun j u hu => by rw [Nat.zero_add]; exact hB1030.cell hu) ?_
            refine op_loadA (cs := [(Value.int .i64 y.k), (Value.int .i64 y.n), (Value.string (bs y.s))]) agg50 rfl (ev_base hN1071 rfl s1071_5) (fun j u hu => by rw [Nat.zero_add]; exact hB1034.cell hu) ?_
            refine op_fn (vs := [(Value.agg #[(Value.int .i64 x.k), (Value.int .i64 x.n), (Value.string (bs x.s))]), (Value.agg #[(Value.int .i64 y.k), (Value.int .i64 y.n), (Value.string (bs y.s))])]) ok35 ⟨(ev_hit hN1071 rfl), ⟨(ev_hit hN1071 rfl), trivial⟩⟩ (Compare_ret x y _) ?_
            rintro _ w1073 ⟨E1074, rfl⟩
            have E1074 := grown_of_below E1074
            have z_w1073 := E1074.size
            have hv := hv.keep0 E1074
            have hB1030 := hB1030.keep0 E1074
            have hB1034 := hB1034.keep0 E1074
            have hB1038 := hB1038.keep0 E1074
            have hO1055 := hO1055.keep0 E1074
            have hO1060 := hO1060.keep0 E1074
            have hb := below_step0 hb E1074 hb.size
            refine op_assign (ev_hit hN1071 rfl) ?_
            refine reg_nil ?_
            refine hK1072 _ _ ?_
            refine seq_any fun K1075 hK1075 => ?_
            refine one_reg ?_
            refine op_move (ev_base hN1071 rfl s1071_9) ?_
            refine op_bytes_of (bl := (keyV x)) Try.underlying9 Try.underlying22 Try.underlying5 (ev_hit hN1071 rfl) (by unfold maxLen; omega) hb.size ?_
            intro v1078 w1076 hO1079 E1077 lo1080
            have z_w1076 := E1077.size
            have hv := hv.keep0 E1077
            have hB1030 := hB1030.keep0 E1077
            have hB1034 := hB1034.keep0 E1077
            have hB1038 := hB1038.keep0 E1077
            have hO1055 := hO1055.keep0 E1077
            have hO1060 := hO1060.keep0 E1077
            have hb := below_step0 hb E1077 hb.size
            refine op_move (ev_base hN1071 rfl s1071_3) ?_
            have hP1086 := hO1079
            refine op_append slt22 (ev_hit hN1071 rfl) hP1086 (ev_hit hN1071 rfl) (Src.ofRd Try.underlying22 (by decide) hv (by simp [Value.oneCell', u8v])) (by unfold maxLen; omega) (by omega) hb.size ?_
            intro v1081 w1082 hO1084 E1083 hm1085
            have z_w1082 := E1083.size
            have hv := hv.keepO hP1086 E1083 (by omega)
            have hB1030 := hB1030.keepO hP1086 E1083 (by decide)
            have hB1034 := hB1034.keepO hP1086 E1083 (by decide)
            have hB1038 := hB1038.keepO hP1086 E1083 (by decide)
            have hb := below_stepO hb hP1086 E1083 hb.size (by omega)
            have hO1084 : Own w1082 w.heap.size 5 1 v1081 ((keyV x).length + rl.length) ((((keyV x) ++ rl)).map u8v) := by simpa [u8v] using hO1084
            have hq1087 : RdC w1082 0 w1082.heap.size 1 v1081 ((keyV x) ++ rl).length (((keyV x) ++ rl).map u8v) := by have hh : RdC w1082 0 w1082.heap.size 1 _ _ _ := (hO1084.rdw.mono (L' := 0) (B' := w1082.heap.size) (Nat.zero_le _) (by omega)); first | simpa using hh | simpa [Nat.add_comm, Nat.add_left_comm, Nat.add_assoc] using hh
            refine op_fn (vs := [v1081]) ok40 ⟨(ev_hit hN1071 rfl), trivial⟩ (Take_ret ((keyV x) ++ rl) v1081 _ (by first | assumption | omega | (simp only [List.length_append, List.length_cons, List.length_nil, List.length_drop, List.length_take]; omega) | (dsimp only; omega) | decide | (simp [keyV, be8_len]; done)) hq1087) ?_
            rintro _ w1088 ⟨E1089, rfl⟩
            have E1089 := grown_of_below E1089
            have z_w1088 := E1089.size
            have hv := hv.keep0 E1089
            have hB1030 := hB1030.keep0 E1089
            have hB1034 := hB1034.keep0 E1089
            have hB1038 := hB1038.keep0 E1089
            have hO1084 := hO1084.keep0 E1089
            have hb := below_step0 hb E1089 hb.size
            refine op_move (ev_hit hN1071 rfl) ?_
            refine op_extract (ev_hit hN1071 rfl) rfl ?_
            refine op_extract (ev_hit hN1071 rfl) rfl ?_
            refine op_extract (ev_hit hN1071 rfl) rfl ?_
            refine op_alloc (cs := [(Value.int .i64 0), (Value.int .i64 0), (Value.string (bs []))]) zero50 rfl ?_
            intro w1090 b1091 lo_b1091 hi_b1091 hB1093 E1092
            have z_w1090 := E1092.size
            have hv := hv.keep0 E1092
            have hB1030 := hB1030.keep0 E1092
            have hB1034 := hB1034.keep0 E1092
            have hB1038 := hB1038.keep0 E1092
            have hO1084 := hO1084.keep0 E1092
            have hb := below_step0 hb E1092 hb.size
            have hB1093_old := hB1093
            refine op_store (vs := [(Value.int .i64 (takeV ((keyV x) ++ rl)).1.k), (Value.int .i64 (takeV ((keyV x) ++ rl)).1.n), (Value.string (bs (takeV ((keyV x) ++ rl)).1.s))]) (cs' := [(Value.int .i64 (takeV ((keyV x) ++ rl)).1.k), (Value.int .i64 (takeV ((keyV x) ++ rl)).1.n), (Value.string (bs (takeV ((keyV x) ++ rl)).1.s))]) size50 (ev_hit hN1071 rfl) (ev_hit hN1071 rfl) rfl rfl rfl hB1093 (Nat.le_of_ble_eq_true rfl) rfl ?_
            intro w1096 hB1093 E1097
            have z_w1096 := E1097.size
            have hv := hv.keep E1097 (fun k hk => .inr (by simp at hk; omega))
            have hB1030 := hB1030.keep E1097 (by simp; omega)
            have hB1034 := hB1034.keep E1097 (by simp; omega)
            have hB1038 := hB1038.keep E1097 (by simp; omega)
            have hO1084 := hO1084.keepX hB1093_old E1097 (by decide)
            have hb := below_step1 hb E1097 hb.size (by omega)
            refine op_assign (ev_hit hN1071 rfl) ?_
            refine op_assign (ev_hit hN1071 rfl) ?_
            refine reg_nil ?_
            refine hK1075 _ _ ?_
            refine seq_any fun K1098 hK1098 => ?_
            refine one_reg ?_
            refine op_loadA (cs := [(Value.int .i64 y.k), (Value.int .i64 y.n), (Value.string (bs y.s))]) agg50 rfl (ev_base hN1071 rfl s1071_5) (fun j u hu => by rw [Nat.zero_add]; exact hB1034.cell hu) ?_
            refine op_loadA (cs := [(Value.int .i64 x.k), (Value.int .i64 x.n), (Value.string (bs x.s))]) agg50 rfl (ev_base hN1071 rfl s1071_4) (fun j u hu => by rw [Nat.zero_add]; exact hB1030.cell hu) ?_
            refine op_fn (vs := [(Value.agg #[(Value.int .i64 y.k), (Value.int .i64 y.n), (Value.string (bs y.s))]), (Value.agg #[(Value.int .i64 x.k), (Value.int .i64 x.n), (Value.string (bs x.s))])]) ok35 ⟨(ev_hit hN1071 rfl), ⟨(ev_hit hN1071 rfl), trivial⟩⟩ (Compare_ret y x _) ?_
            rintro _ w1099 ⟨E1100, rfl⟩
            have E1100 := grown_of_below E1100
            have z_w1099 := E1100.size
            have hv := hv.keep0 E1100
            have hB1030 := hB1030.keep0 E1100
            have hB1034 := hB1034.keep0 E1100
            have hB1038 := hB1038.keep0 E1100
            have hO1084 := hO1084.keep0 E1100
            have hB1093 := hB1093.keep0 E1100
            have hb := below_step0 hb E1100 hb.size
            refine op_move (ev_hit hN1071 rfl) ?_
            refine op_neg (r := (-(cmpW x y))) (ev_hit hN1071 rfl) (by have := cmpW_val x y; rw [IntKind.wrap_i64]; omega) ?_
            refine op_eql (ev_hit hN1071 rfl) (ev_hit hN1071 rfl) (fun c60 => ?_) (fun c60 => ?_)
            · -- 60 True
              refine op_move (ev_hit hN1071 rfl) ?_
              refine g_true (j := 6) (dj := 61) (b := true) rfl rfl rfl (ev_hit hN1071 rfl) ?_
              refine op_move (ev_hit hN1071 rfl) ?_
              refine g_true (j := 6) (dj := 61) (b := true) rfl rfl rfl (ev_hit hN1071 rfl) ?_
              refine op_eql (ev_hit hN1071 rfl) rfl (fun c63 => ?_) (fun c63 => ?_)
              · -- 63 True
                refine g_true (j := 6) (dj := 61) (b := true) rfl rfl rfl (ev_hit hN1071 rfl) ?_
                refine op_loadA (cs := [(Value.int .i64 x.k), (Value.int .i64 x.n), (Value.string (bs x.s))]) agg50 rfl (ev_base hN1071 rfl s1071_4) (fun j u hu => by rw [Nat.zero_add]; exact hB1030.cell hu) ?_
                refine g_true (j := 6) (dj := 61) (b := true) rfl rfl rfl (ev_hit hN1071 rfl) ?_
                refine op_loadA (cs := [(Value.int .i64 y.k), (Value.int .i64 y.n), (Value.string (bs y.s))]) agg50 rfl (ev_base hN1071 rfl s1071_5) (fun j u hu => by rw [Nat.zero_add]; exact hB1034.cell hu) ?_
                refine g_true (j := 6) (dj := 61) (b := true) rfl rfl rfl (ev_hit hN1071 rfl) ?_
                by_cases c66 : x.k = y.k ∧ x.n = y.n ∧ x.s = y.s
                · -- 66 True
                  refine op_aeql (xs := [(Value.int .i64 x.k), (Value.int .i64 x.n), (Value.string (bs x.s))]) (ys := [(Value.int .i64 y.k), (Value.int .i64 y.n), (Value.string (bs y.s))]) (b' := true) (ev_hit hN1071 rfl) (ev_hit hN1071 rfl) (eq50 x.k y.k x.n y.n x.s y.s) (decide_eq_true c66) ?_
                  refine g_true (j := 6) (dj := 61) (b := true) rfl rfl rfl (ev_hit hN1071 rfl) ?_
                  refine op_eqb Try.underlying4 (ev_hit hN1071 rfl) (ev_hit hN1071 rfl) ?_
                  refine op_pick_t (ev_hit hN1071 rfl) (ev_hit hN1071 rfl) ?_
                  refine op_move (ev_hit hN1071 rfl) ?_
                  refine g_true (j := 14) (dj := 69) (b := true) rfl rfl rfl (ev_hit hN1071 rfl) ?_
                  refine op_move (ev_hit hN1071 rfl) ?_
                  refine g_true (j := 14) (dj := 69) (b := true) rfl rfl rfl (ev_hit hN1071 rfl) ?_
                  refine op_neq (ev_hit hN1071 rfl) rfl (fun c71 => ?_) (fun c71 => ?_)
                  · -- 71 True
                    refine g_true (j := 14) (dj := 69) (b := true) rfl rfl rfl (ev_hit hN1071 rfl) ?_
                    refine op_move (ev_hit hN1071 rfl) ?_
                    refine g_false (j := 17) (dj := 72) (b := false) rfl rfl rfl (ev_hit hN1071 rfl) rfl rfl ?_
                    refine g_false (j := 17) (dj := 72) (b := false) rfl rfl rfl (ev_hit hN1071 rfl) rfl rfl ?_
                    refine g_false (j := 17) (dj := 72) (b := false) rfl rfl rfl (ev_hit hN1071 rfl) rfl rfl ?_
                    refine g_false (j := 17) (dj := 72) (b := false) rfl rfl rfl (ev_hit hN1071 rfl) rfl rfl ?_
                    refine g_true (j := 14) (dj := 69) (b := true) rfl rfl rfl (ev_hit hN1071 rfl) ?_
                    refine op_pick_t (ev_hit hN1071 rfl) rfl ?_
                    refine g_true (j := 14) (dj := 69) (b := true) rfl rfl rfl (ev_hit hN1071 rfl) ?_
                    refine op_move (ev_hit hN1071 rfl) ?_
                    refine g_false (j := 23) (dj := 78) (b := false) rfl rfl rfl (ev_hit hN1071 rfl) rfl rfl ?_
                    refine g_false (j := 23) (dj := 78) (b := false) rfl rfl rfl (ev_hit hN1071 rfl) rfl rfl ?_
                    refine g_false (j := 23) (dj := 78) (b := false) rfl rfl rfl (ev_hit hN1071 rfl) rfl rfl ?_
                    refine g_false (j := 23) (dj := 78) (b := false) rfl rfl rfl (ev_hit hN1071 rfl) rfl rfl ?_
                    refine g_true (j := 14) (dj := 69) (b := true) rfl rfl rfl (ev_hit hN1071 rfl) ?_
                    refine op_pick_t (ev_hit hN1071 rfl) rfl ?_
                    refine op_pick_t (ev_hit hN1071 rfl) (ev_hit hN1071 rfl) ?_
                    refine op_assign (ev_hit hN1071 rfl) ?_
                    refine reg_nil ?_
                    refine hK1098 _ _ ?_
                    refine seq_any fun K1101 hK1101 => ?_
                    refine one_reg ?_
                    refine op_move (ev_base hN1071 rfl s1071_9) ?_
                    refine op_len_str Try.underlying9 (ev_hit hN1071 rfl) ?_
                    refine op_move (ev_base hN1071 rfl s1071_10) ?_
                    refine op_len_str Try.underlying9 (ev_hit hN1071 rfl) ?_
                    refine op_leq (ev_hit hN1071 rfl) (ev_hit hN1071 rfl) (fun c89 => ?_) (fun c89 => ?_)
                    · -- 89 True
                      refine op_move (ev_hit hN1071 rfl) ?_
                      refine g_true (j := 5) (dj := 90) (b := true) rfl rfl rfl (ev_hit hN1071 rfl) ?_
                      refine op_move (ev_base hN1071 rfl s1071_10) ?_
                      refine g_true (j := 5) (dj := 90) (b := true) rfl rfl rfl (ev_hit hN1071 rfl) ?_
                      refine op_move (ev_base hN1071 rfl s1071_9) ?_
                      refine g_true (j := 5) (dj := 90) (b := true) rfl rfl rfl (ev_hit hN1071 rfl) ?_
                      refine op_len_str Try.underlying9 (ev_hit hN1071 rfl) ?_
                      refine g_true (j := 5) (dj := 90) (b := true) rfl rfl rfl (ev_hit hN1071 rfl) ?_
                      refine op_slice_str (lo := 0) (hi := (keyV x).length) Try.underlying9 (ev_hit hN1071 rfl) (.inl ⟨rfl, rfl⟩) (.inr ⟨_, _, rfl, (ev_hit hN1071 rfl)⟩) (by omega) (by omega) ?_
                      refine g_true (j := 5) (dj := 90) (b := true) rfl rfl rfl (ev_hit hN1071 rfl) ?_
                      refine op_move (ev_base hN1071 rfl s1071_9) ?_
                      refine g_true (j := 5) (dj := 90) (b := true) rfl rfl rfl (ev_hit hN1071 rfl) ?_
                      refine op_seql (ev_hit hN1071 rfl) (ev_hit hN1071 rfl) (fun c96 => ?_) (fun c96 => ?_)
                      · -- 96 True
                        refine op_pick_t (ev_hit hN1071 rfl) (ev_hit hN1071 rfl) ?_
                        refine op_assign (ev_hit hN1071 rfl) ?_
                        refine reg_nil ?_
                        refine hK1101 _ _ ?_
                        refine seq_any fun K1102 hK1102 => ?_
                        refine one_reg ?_
                        refine op_move (ev_hit hN1071 rfl) ?_
                        refine op_move (ev_hit hN1071 rfl) ?_
                        refine g_true (j := 1) (dj := 99) (b := true) rfl rfl rfl (ev_hit hN1071 rfl) ?_
                        refine op_move (ev_base hN1071 rfl s1071_9) ?_
                        refine g_true (j := 1) (dj := 99) (b := true) rfl rfl rfl (ev_hit hN1071 rfl) ?_
                        refine op_move (ev_base hN1071 rfl s1071_10) ?_
                        refine g_true (j := 1) (dj := 99) (b := true) rfl rfl rfl (ev_hit hN1071 rfl) ?_
                        refine op_fn (vs := [(Value.string (bs (keyV x))), (Value.string (bs (keyV y)))]) ok42 ⟨(ev_hit hN1071 rfl), ⟨(ev_hit hN1071 rfl), trivial⟩⟩ (CompareText_ret (keyV x) (keyV y) _ (by first | assumption | omega | (simp only [List.length_append, List.length_cons, List.length_nil, List.length_drop, List.length_take]; omega) | (dsimp only; omega) | decide | (simp [keyV, be8_len]; done)) (by first | assumption | omega | (simp only [List.length_append, List.length_cons, List.length_nil, List.length_drop, List.length_take]; omega) | (dsimp only; omega) | decide | (simp [keyV, be8_len]; done))) ?_
                        rintro _ w1103 ⟨E1104, rfl⟩
                        have E1104 := grown_of_below E1104
                        have z_w1103 := E1104.size
                        have hv := hv.keep0 E1104
                        have hB1030 := hB1030.keep0 E1104
                        have hB1034 := hB1034.keep0 E1104
                        have hB1038 := hB1038.keep0 E1104
                        have hO1084 := hO1084.keep0 E1104
                        have hB1093 := hB1093.keep0 E1104
                        have hb := below_step0 hb E1104 hb.size
                        refine g_true (j := 1) (dj := 99) (b := true) rfl rfl rfl (ev_hit hN1071 rfl) ?_
                        refine op_move (ev_hit hN1071 rfl) ?_
                        refine g_true (j := 1) (dj := 99) (b := true) rfl rfl rfl (ev_hit hN1071 rfl) ?_
                        refine op_eql (ev_hit hN1071 rfl) (ev_hit hN1071 rfl) (fun c104 => ?_) (fun c104 => ?_)
                        · -- 104 True
                          refine op_pick_t (ev_hit hN1071 rfl) (ev_hit hN1071 rfl) ?_
                          refine op_move (ev_hit hN1071 rfl) ?_
                          refine g_true (j := 8) (dj := 106) (b := true) rfl rfl rfl (ev_hit hN1071 rfl) ?_
                          refine op_move (ev_hit hN1071 rfl) ?_
                          refine g_true (j := 8) (dj := 106) (b := true) rfl rfl rfl (ev_hit hN1071 rfl) ?_
                          refine op_loadA (cs := [(Value.int .i64 x.k), (Value.int .i64 x.n), (Value.string (bs x.s))]) agg50 rfl (ev_base hN1071 rfl s1071_4) (fun j u hu => by rw [Nat.zero_add]; exact hB1030.cell hu) ?_
                          refine g_true (j := 8) (dj := 106) (b := true) rfl rfl rfl (ev_hit hN1071 rfl) ?_
                          refine op_loadA (cs := [(Value.int .i64 y.k), (Value.int .i64 y.n), (Value.string (bs y.s))]) agg50 rfl (ev_base hN1071 rfl s1071_5) (fun j u hu => by rw [Nat.zero_add]; exact hB1034.cell hu) ?_
                          refine g_true (j := 8) (dj := 106) (b := true) rfl rfl rfl (ev_hit hN1071 rfl) ?_
                          by_cases c110 : x.k = y.k ∧ x.n = y.n ∧ x.s = y.s
                          · -- 110 True
                            refine op_aeql (xs := [(Value.int .i64 x.k), (Value.int .i64 x.n), (Value.string (bs x.s))]) (ys := [(Value.int .i64 y.k), (Value.int .i64 y.n), (Value.string (bs y.s))]) (b' := true) (ev_hit hN1071 rfl) (ev_hit hN1071 rfl) (eq50 x.k y.k x.n y.n x.s y.s) (decide_eq_true c110) ?_
                            refine g_true (j := 8) (dj := 106) (b := true) rfl rfl rfl (ev_hit hN1071 rfl) ?_
                            refine op_eqb Try.underlying4 (ev_hit hN1071 rfl) (ev_hit hN1071 rfl) ?_
                            refine op_pick_t (ev_hit hN1071 rfl) (ev_hit hN1071 rfl) ?_
                            refine op_move (ev_hit hN1071 rfl) ?_
                            refine g_true (j := 15) (dj := 113) (b := true) rfl rfl rfl (ev_hit hN1071 rfl) ?_
                            refine op_move (ev_hit hN1071 rfl) ?_
                            refine g_true (j := 15) (dj := 113) (b := true) rfl rfl rfl (ev_hit hN1071 rfl) ?_
                            refine op_eql (ev_hit hN1071 rfl) rfl (fun c115 => ?_) (fun c115 => ?_)
                            · -- 115 True
                              refine op_pick_t (ev_hit hN1071 rfl) (ev_hit hN1071 rfl) ?_
                              refine op_move (ev_hit hN1071 rfl) ?_
                              refine g_true (j := 19) (dj := 117) (b := true) rfl rfl rfl (ev_hit hN1071 rfl) ?_
                              refine op_move (ev_hit hN1071 rfl) ?_
                              refine g_true (j := 19) (dj := 117) (b := true) rfl rfl rfl (ev_hit hN1071 rfl) ?_
                              refine op_move (ev_base hN1071 rfl s1071_9) ?_
                              refine g_true (j := 19) (dj := 117) (b := true) rfl rfl rfl (ev_hit hN1071 rfl) ?_
                              refine op_len_str Try.underlying9 (ev_hit hN1071 rfl) ?_
                              refine g_true (j := 19) (dj := 117) (b := true) rfl rfl rfl (ev_hit hN1071 rfl) ?_
                              refine op_eql (ev_hit hN1071 rfl) (ev_hit hN1071 rfl) (fun c121 => ?_) (fun c121 => ?_)
                              · -- 121 True
                                refine op_pick_t (ev_hit hN1071 rfl) (ev_hit hN1071 rfl) ?_
                                refine op_move (ev_hit hN1071 rfl) ?_
                                refine g_true (j := 25) (dj := 123) (b := true) rfl rfl rfl (ev_hit hN1071 rfl) ?_
                                refine op_loadA (cs := [(Value.int .i64 (takeV ((keyV x) ++ rl)).1.k), (Value.int .i64 (takeV ((keyV x) ++ rl)).1.n), (Value.string (bs (takeV ((keyV x) ++ rl)).1.s))]) agg50 rfl (ev_hit hN1071 rfl) (fun j u hu => by rw [Nat.zero_add]; exact hB1093.cell hu) ?_
                                refine g_true (j := 25) (dj := 123) (b := true) rfl rfl rfl (ev_hit hN1071 rfl) ?_
                                refine op_loadA (cs := [(Value.int .i64 x.k), (Value.int .i64 x.n), (Value.string (bs x.s))]) agg50 rfl (ev_base hN1071 rfl s1071_4) (fun j u hu => by rw [Nat.zero_add]; exact hB1030.cell hu) ?_
                                refine g_true (j := 25) (dj := 123) (b := true) rfl rfl rfl (ev_hit hN1071 rfl) ?_
                                by_cases c126 : (takeV ((keyV x) ++ rl)).1.k = x.k ∧ (takeV ((keyV x) ++ rl)).1.n = x.n ∧ (takeV ((keyV x) ++ rl)).1.s = x.s
                                · -- 126 True
                                  refine op_aeql (xs := [(Value.int .i64 (takeV ((keyV x) ++ rl)).1.k), (Value.int .i64 (takeV ((keyV x) ++ rl)).1.n), (Value.string (bs (takeV ((keyV x) ++ rl)).1.s))]) (ys := [(Value.int .i64 x.k), (Value.int .i64 x.n), (Value.string (bs x.s))]) (b' := true) (ev_hit hN1071 rfl) (ev_hit hN1071 rfl) (eq50 (takeV ((keyV x) ++ rl)).1.k x.k (takeV ((keyV x) ++ rl)).1.n x.n (takeV ((keyV x) ++ rl)).1.s x.s) (decide_eq_true c126) ?_
                                  refine op_pick_t (ev_hit hN1071 rfl) (ev_hit hN1071 rfl) ?_
                                  refine op_assign (ev_hit hN1071 rfl) ?_
                                  refine reg_nil ?_
                                  refine hK1102 _ _ ?_
                                  refine wp_ret ?_
                                  refine ret1 rfl hd1071 (ev_hit hN1071 rfl) ⟨_, rfl, ?_⟩
                                  -- path 20T 24T 29T 35F 60T 63T 66T 71T 89T 96T 104T 110T 115T 121T 126T
                                  exact ⟨hb, rfl⟩
                                · -- 126 False
                                  exact absurd (by rw [htk]; exact ⟨rfl, rfl, rfl⟩) c126
                              · -- 121 False
                                exact absurd (by rw [htk]) c121
                            · -- 115 False
                              exact absurd (by rw [htk]) c115
                          · -- 110 False
                            exact absurd (veq_of (key_prefix c20 c24 ox oy (by simpa using c96))) c110
                        · -- 104 False
                          exact absurd (keys_stand c20 c24 ox oy) c104
                      · -- 96 False
                        refine op_pick_t (ev_hit hN1071 rfl) (ev_hit hN1071 rfl) ?_
                        refine op_assign (ev_hit hN1071 rfl) ?_
                        refine reg_nil ?_
                        refine hK1101 _ _ ?_
                        refine seq_any fun K1105 hK1105 => ?_
                        refine one_reg ?_
                        refine op_move (ev_hit hN1071 rfl) ?_
                        refine op_move (ev_hit hN1071 rfl) ?_
                        refine g_true (j := 1) (dj := 99) (b := true) rfl rfl rfl (ev_hit hN1071 rfl) ?_
                        refine op_move (ev_base hN1071 rfl s1071_9) ?_
                        refine g_true (j := 1) (dj := 99) (b := true) rfl rfl rfl (ev_hit hN1071 rfl) ?_
                        refine op_move (ev_base hN1071 rfl s1071_10) ?_
                        refine g_true (j := 1) (dj := 99) (b := true) rfl rfl rfl (ev_hit hN1071 rfl) ?_
                        refine op_fn (vs := [(Value.string (bs (keyV x))), (Value.string (bs (keyV y)))]) ok42 ⟨(ev_hit hN1071 rfl), ⟨(ev_hit hN1071 rfl), trivial⟩⟩ (CompareText_ret (keyV x) (keyV y) _ (by first | assumption | omega | (simp only [List.length_append, List.length_cons, List.length_nil, List.length_drop, List.length_take]; omega) | (dsimp only; omega) | decide | (simp [keyV, be8_len]; done)) (by first | assumption | omega | (simp only [List.length_append, List.length_cons, List.length_nil, List.length_drop, List.length_take]; omega) | (dsimp only; omega) | decide | (simp [keyV, be8_len]; done))) ?_
                        rintro _ w1106 ⟨E1107, rfl⟩
                        have E1107 := grown_of_below E1107
                        have z_w1106 := E1107.size
                        have hv := hv.keep0 E1107
                        have hB1030 := hB1030.keep0 E1107
                        have hB1034 := hB1034.keep0 E1107
                        have hB1038 := hB1038.keep0 E1107
                        have hO1084 := hO1084.keep0 E1107
                        have hB1093 := hB1093.keep0 E1107
                        have hb := below_step0 hb E1107 hb.size
                        refine g_true (j := 1) (dj := 99) (b := true) rfl rfl rfl (ev_hit hN1071 rfl) ?_
                        refine op_move (ev_hit hN1071 rfl) ?_
                        refine g_true (j := 1) (dj := 99) (b := true) rfl rfl rfl (ev_hit hN1071 rfl) ?_
                        refine op_eql (ev_hit hN1071 rfl) (ev_hit hN1071 rfl) (fun c104 => ?_) (fun c104 => ?_)
                        · -- 104 True
                          refine op_pick_t (ev_hit hN1071 rfl) (ev_hit hN1071 rfl) ?_
                          refine op_move (ev_hit hN1071 rfl) ?_
                          refine g_true (j := 8) (dj := 106) (b := true) rfl rfl rfl (ev_hit hN1071 rfl) ?_
                          refine op_move (ev_hit hN1071 rfl) ?_
                          refine g_true (j := 8) (dj := 106) (b := true) rfl rfl rfl (ev_hit hN1071 rfl) ?_
                          refine op_loadA (cs := [(Value.int .i64 x.k), (Value.int .i64 x.n), (Value.string (bs x.s))]) agg50 rfl (ev_base hN1071 rfl s1071_4) (fun j u hu => by rw [Nat.zero_add]; exact hB1030.cell hu) ?_
                          refine g_true (j := 8) (dj := 106) (b := true) rfl rfl rfl (ev_hit hN1071 rfl) ?_
                          refine op_loadA (cs := [(Value.int .i64 y.k), (Value.int .i64 y.n), (Value.string (bs y.s))]) agg50 rfl (ev_base hN1071 rfl s1071_5) (fun j u hu => by rw [Nat.zero_add]; exact hB1034.cell hu) ?_
                          refine g_true (j := 8) (dj := 106) (b := true) rfl rfl rfl (ev_hit hN1071 rfl) ?_
                          by_cases c110 : x.k = y.k ∧ x.n = y.n ∧ x.s = y.s
                          · -- 110 True
                            exact absurd (by rw [vl_ext c110]; simp) c96
                          · -- 110 False
                            refine op_aeql (xs := [(Value.int .i64 x.k), (Value.int .i64 x.n), (Value.string (bs x.s))]) (ys := [(Value.int .i64 y.k), (Value.int .i64 y.n), (Value.string (bs y.s))]) (b' := false) (ev_hit hN1071 rfl) (ev_hit hN1071 rfl) (eq50 x.k y.k x.n y.n x.s y.s) (decide_eq_false c110) ?_
                            refine g_true (j := 8) (dj := 106) (b := true) rfl rfl rfl (ev_hit hN1071 rfl) ?_
                            refine op_eqb Try.underlying4 (ev_hit hN1071 rfl) (ev_hit hN1071 rfl) ?_
                            refine op_pick_t (ev_hit hN1071 rfl) (ev_hit hN1071 rfl) ?_
                            refine op_move (ev_hit hN1071 rfl) ?_
                            refine g_true (j := 15) (dj := 113) (b := true) rfl rfl rfl (ev_hit hN1071 rfl) ?_
                            refine op_move (ev_hit hN1071 rfl) ?_
                            refine g_true (j := 15) (dj := 113) (b := true) rfl rfl rfl (ev_hit hN1071 rfl) ?_
                            refine op_eql (ev_hit hN1071 rfl) rfl (fun c115 => ?_) (fun c115 => ?_)
                            · -- 115 True
                              refine op_pick_t (ev_hit hN1071 rfl) (ev_hit hN1071 rfl) ?_
                              refine op_move (ev_hit hN1071 rfl) ?_
                              refine g_true (j := 19) (dj := 117) (b := true) rfl rfl rfl (ev_hit hN1071 rfl) ?_
                              refine op_move (ev_hit hN1071 rfl) ?_
                              refine g_true (j := 19) (dj := 117) (b := true) rfl rfl rfl (ev_hit hN1071 rfl) ?_
                              refine op_move (ev_base hN1071 rfl s1071_9) ?_
                              refine g_true (j := 19) (dj := 117) (b := true) rfl rfl rfl (ev_hit hN1071 rfl) ?_
                              refine op_len_str Try.underlying9 (ev_hit hN1071 rfl) ?_
                              refine g_true (j := 19) (dj := 117) (b := true) rfl rfl rfl (ev_hit hN1071 rfl) ?_
                              refine op_eql (ev_hit hN1071 rfl) (ev_hit hN1071 rfl) (fun c121 => ?_) (fun c121 => ?_)
                              · -- 121 True
                                refine op_pick_t (ev_hit hN1071 rfl) (ev_hit hN1071 rfl) ?_
                                refine op_move (ev_hit hN1071 rfl) ?_
                                refine g_true (j := 25) (dj := 123) (b := true) rfl rfl rfl (ev_hit hN1071 rfl) ?_
                                refine op_loadA (cs := [(Value.int .i64 (takeV ((keyV x) ++ rl)).1.k), (Value.int .i64 (takeV ((keyV x) ++ rl)).1.n), (Value.string (bs (takeV ((keyV x) ++ rl)).1.s))]) agg50 rfl (ev_hit hN1071 rfl) (fun j u hu => by rw [Nat.zero_add]; exact hB1093.cell hu) ?_
                                refine g_true (j := 25) (dj := 123) (b := true) rfl rfl rfl (ev_hit hN1071 rfl) ?_
                                refine op_loadA (cs := [(Value.int .i64 x.k), (Value.int .i64 x.n), (Value.string (bs x.s))]) agg50 rfl (ev_base hN1071 rfl s1071_4) (fun j u hu => by rw [Nat.zero_add]; exact hB1030.cell hu) ?_
                                refine g_true (j := 25) (dj := 123) (b := true) rfl rfl rfl (ev_hit hN1071 rfl) ?_
                                by_cases c126 : (takeV ((keyV x) ++ rl)).1.k = x.k ∧ (takeV ((keyV x) ++ rl)).1.n = x.n ∧ (takeV ((keyV x) ++ rl)).1.s = x.s
                                · -- 126 True
                                  refine op_aeql (xs := [(Value.int .i64 (takeV ((keyV x) ++ rl)).1.k), (Value.int .i64 (takeV ((keyV x) ++ rl)).1.n), (Value.string (bs (takeV ((keyV x) ++ rl)).1.s))]) (ys := [(Value.int .i64 x.k), (Value.int .i64 x.n), (Value.string (bs x.s))]) (b' := true) (ev_hit hN1071 rfl) (ev_hit hN1071 rfl) (eq50 (takeV ((keyV x) ++ rl)).1.k x.k (takeV ((keyV x) ++ rl)).1.n x.n (takeV ((keyV x) ++ rl)).1.s x.s) (decide_eq_true c126) ?_
                                  refine op_pick_t (ev_hit hN1071 rfl) (ev_hit hN1071 rfl) ?_
                                  refine op_assign (ev_hit hN1071 rfl) ?_
                                  refine reg_nil ?_
                                  refine hK1105 _ _ ?_
                                  refine wp_ret ?_
                                  refine ret1 rfl hd1071 (ev_hit hN1071 rfl) ⟨_, rfl, ?_⟩
                                  -- path 20T 24T 29T 35F 60T 63T 66T 71T 89T 96F 104T 110F 115T 121T 126T
                                  exact ⟨hb, rfl⟩
                                · -- 126 False
                                  exact absurd (by rw [htk]; exact ⟨rfl, rfl, rfl⟩) c126
                              · -- 121 False
                                exact absurd (by rw [htk]) c121
                            · -- 115 False
                              exact absurd (by rw [htk]) c115
                        · -- 104 False
                          exact absurd (keys_stand c20 c24 ox oy) c104
                    · -- 89 False
                      refine op_move (ev_hit hN1071 rfl) ?_
                      refine g_false (j := 5) (dj := 90) (b := true) rfl rfl rfl (ev_hit hN1071 rfl) rfl rfl ?_
                      refine g_false (j := 5) (dj := 90) (b := true) rfl rfl rfl (ev_hit hN1071 rfl) rfl rfl ?_
                      refine g_false (j := 5) (dj := 90) (b := true) rfl rfl rfl (ev_hit hN1071 rfl) rfl rfl ?_
                      refine g_false (j := 5) (dj := 90) (b := true) rfl rfl rfl (ev_hit hN1071 rfl) rfl rfl ?_
                      refine g_false (j := 5) (dj := 90) (b := true) rfl rfl rfl (ev_hit hN1071 rfl) rfl rfl ?_
                      refine g_false (j := 5) (dj := 90) (b := true) rfl rfl rfl (ev_hit hN1071 rfl) rfl rfl ?_
                      refine op_pick_f (ev_hit hN1071 rfl) rfl ?_
                      refine op_assign (ev_hit hN1071 rfl) ?_
                      refine reg_nil ?_
                      refine hK1101 _ _ ?_
                      refine seq_any fun K1108 hK1108 => ?_
                      refine one_reg ?_
                      refine op_move (ev_hit hN1071 rfl) ?_
                      refine op_move (ev_hit hN1071 rfl) ?_
                      refine g_true (j := 1) (dj := 99) (b := true) rfl rfl rfl (ev_hit hN1071 rfl) ?_
                      refine op_move (ev_base hN1071 rfl s1071_9) ?_
                      refine g_true (j := 1) (dj := 99) (b := true) rfl rfl rfl (ev_hit hN1071 rfl) ?_
                      refine op_move (ev_base hN1071 rfl s1071_10) ?_
                      refine g_true (j := 1) (dj := 99) (b := true) rfl rfl rfl (ev_hit hN1071 rfl) ?_
                      refine op_fn (vs := [(Value.string (bs (keyV x))), (Value.string (bs (keyV y)))]) ok42 ⟨(ev_hit hN1071 rfl), ⟨(ev_hit hN1071 rfl), trivial⟩⟩ (CompareText_ret (keyV x) (keyV y) _ (by first | assumption | omega | (simp only [List.length_append, List.length_cons, List.length_nil, List.length_drop, List.length_take]; omega) | (dsimp only; omega) | decide | (simp [keyV, be8_len]; done)) (by first | assumption | omega | (simp only [List.length_append, List.length_cons, List.length_nil, List.length_drop, List.length_take]; omega) | (dsimp only; omega) | decide | (simp [keyV, be8_len]; done))) ?_
                      rintro _ w1109 ⟨E1110, rfl⟩
                      have E1110 := grown_of_below E1110
                      have z_w1109 := E1110.size
                      have hv := hv.keep0 E1110
                      have hB1030 := hB1030.keep0 E1110
                      have hB1034 := hB1034.keep0 E1110
                      have hB1038 := hB1038.keep0 E1110
                      have hO1084 := hO1084.keep0 E1110
                      have hB1093 := hB1093.keep0 E1110
                      have hb := below_step0 hb E1110 hb.size
                      refine g_true (j := 1) (dj := 99) (b := true) rfl rfl rfl (ev_hit hN1071 rfl) ?_
                      refine op_move (ev_hit hN1071 rfl) ?_
                      refine g_true (j := 1) (dj := 99) (b := true) rfl rfl rfl (ev_hit hN1071 rfl) ?_
                      refine op_eql (ev_hit hN1071 rfl) (ev_hit hN1071 rfl) (fun c104 => ?_) (fun c104 => ?_)
                      · -- 104 True
                        refine op_pick_t (ev_hit hN1071 rfl) (ev_hit hN1071 rfl) ?_
                        refine op_move (ev_hit hN1071 rfl) ?_
                        refine g_true (j := 8) (dj := 106) (b := true) rfl rfl rfl (ev_hit hN1071 rfl) ?_
                        refine op_move (ev_hit hN1071 rfl) ?_
                        refine g_true (j := 8) (dj := 106) (b := true) rfl rfl rfl (ev_hit hN1071 rfl) ?_
                        refine op_loadA (cs := [(Value.int .i64 x.k), (Value.int .i64 x.n), (Value.string (bs x.s))]) agg50 rfl (ev_base hN1071 rfl s1071_4) (fun j u hu => by rw [Nat.zero_add]; exact hB1030.cell hu) ?_
                        refine g_true (j := 8) (dj := 106) (b := true) rfl rfl rfl (ev_hit hN1071 rfl) ?_
                        refine op_loadA (cs := [(Value.int .i64 y.k), (Value.int .i64 y.n), (Value.string (bs y.s))]) agg50 rfl (ev_base hN1071 rfl s1071_5) (fun j u hu => by rw [Nat.zero_add]; exact hB1034.cell hu) ?_
                        refine g_true (j := 8) (dj := 106) (b := true) rfl rfl rfl (ev_hit hN1071 rfl) ?_
                        by_cases c110 : x.k = y.k ∧ x.n = y.n ∧ x.s = y.s
                        · -- 110 True
                          exact absurd (by rw [vl_ext c110]; exact Int.le_refl _) c89
                        · -- 110 False
                          refine op_aeql (xs := [(Value.int .i64 x.k), (Value.int .i64 x.n), (Value.string (bs x.s))]) (ys := [(Value.int .i64 y.k), (Value.int .i64 y.n), (Value.string (bs y.s))]) (b' := false) (ev_hit hN1071 rfl) (ev_hit hN1071 rfl) (eq50 x.k y.k x.n y.n x.s y.s) (decide_eq_false c110) ?_
                          refine g_true (j := 8) (dj := 106) (b := true) rfl rfl rfl (ev_hit hN1071 rfl) ?_
                          refine op_eqb Try.underlying4 (ev_hit hN1071 rfl) (ev_hit hN1071 rfl) ?_
                          refine op_pick_t (ev_hit hN1071 rfl) (ev_hit hN1071 rfl) ?_
                          refine op_move (ev_hit hN1071 rfl) ?_
                          refine g_true (j := 15) (dj := 113) (b := true) rfl rfl rfl (ev_hit hN1071 rfl) ?_
                          refine op_move (ev_hit hN1071 rfl) ?_
                          refine g_true (j := 15) (dj := 113) (b := true) rfl rfl rfl (ev_hit hN1071 rfl) ?_
                          refine op_eql (ev_hit hN1071 rfl) rfl (fun c115 => ?_) (fun c115 => ?_)
                          · -- 115 True
                            refine op_pick_t (ev_hit hN1071 rfl) (ev_hit hN1071 rfl) ?_
                            refine op_move (ev_hit hN1071 rfl) ?_
                            refine g_true (j := 19) (dj := 117) (b := true) rfl rfl rfl (ev_hit hN1071 rfl) ?_
                            refine op_move (ev_hit hN1071 rfl) ?_
                            refine g_true (j := 19) (dj := 117) (b := true) rfl rfl rfl (ev_hit hN1071 rfl) ?_
                            refine op_move (ev_base hN1071 rfl s1071_9) ?_
                            refine g_true (j := 19) (dj := 117) (b := true) rfl rfl rfl (ev_hit hN1071 rfl) ?_
                            refine op_len_str Try.underlying9 (ev_hit hN1071 rfl) ?_
                            refine g_true (j := 19) (dj := 117) (b := true) rfl rfl rfl (ev_hit hN1071 rfl) ?_
                            refine op_eql (ev_hit hN1071 rfl) (ev_hit hN1071 rfl) (fun c121 => ?_) (fun c121 => ?_)
                            · -- 121 True
                              refine op_pick_t (ev_hit hN1071 rfl) (ev_hit hN1071 rfl) ?_
                              refine op_move (ev_hit hN1071 rfl) ?_
                              refine g_true (j := 25) (dj := 123) (b := true) rfl rfl rfl (ev_hit hN1071 rfl) ?_
                              refine op_loadA (cs := [(Value.int .i64 (takeV ((keyV x) ++ rl)).1.k), (Value.int .i64 (takeV ((keyV x) ++ rl)).1.n), (Value.string (bs (takeV ((keyV x) ++ rl)).1.s))]) agg50 rfl (ev_hit hN1071 rfl) (fun j u hu => by rw [Nat.zero_add]; exact hB1093.cell hu) ?_
                              refine g_true (j := 25) (dj := 123) (b := true) rfl rfl rfl (ev_hit hN1071 rfl) ?_
                              refine op_loadA (cs := [(Value.int .i64 x.k), (Value.int .i64 x.n), (Value.string (bs x.s))]) agg50 rfl (ev_base hN1071 rfl s1071_4) (fun j u hu => by rw [Nat.zero_add]; exact hB1030.cell hu) ?_
                              refine g_true (j := 25) (dj := 123) (b := true) rfl rfl rfl (ev_hit hN1071 rfl) ?_
                              by_cases c126 : (takeV ((keyV x) ++ rl)).1.k = x.k ∧ (takeV ((keyV x) ++ rl)).1.n = x.n ∧ (takeV ((keyV x) ++ rl)).1.s = x.s
                              · -- 126 True
                                refine op_aeql (xs := [(Value.int .i64 (takeV ((keyV x) ++ rl)).1.k), (Value.int .i64 (takeV ((keyV x) ++ rl)).1.n), (Value.string (bs (takeV ((keyV x) ++ rl)).1.s))]) (ys := [(Value.int .i64 x.k), (Value.int .i64 x.n), (Value.string (bs x.s))]) (b' := true) (ev_hit hN1071 rfl) (ev_hit hN1071 rfl) (eq50 (takeV ((keyV x) ++ rl)).1.k x.k (takeV ((keyV x) ++ rl)).1.n x.n (takeV ((keyV x) ++ rl)).1.s x.s) (decide_eq_true c126) ?_
                                refine op_pick_t (ev_hit hN1071 rfl) (ev_hit hN1071 rfl) ?_
                                refine op_assign (ev_hit hN1071 rfl) ?_
                                refine reg_nil ?_
                                refine hK1108 _ _ ?_
                                refine wp_ret ?_
                                refine ret1 rfl hd1071 (ev_hit hN1071 rfl) ⟨_, rfl, ?_⟩
                                -- path 20T 24T 29T 35F 60T 63T 66T 71T 89F 104T 110F 115T 121T 126T
                                exact ⟨hb, rfl⟩
                              · -- 126 False
                                exact absurd (by rw [htk]; exact ⟨rfl, rfl, rfl⟩) c126
                            · -- 121 False
                              exact absurd (by rw [htk]) c121
                          · -- 115 False
                            exact absurd (by rw [htk]) c115
                      · -- 104 False
                        exact absurd (keys_stand c20 c24 ox oy) c104
                  · -- 71 False
                    refine g_true (j := 14) (dj := 69) (b := true) rfl rfl rfl (ev_hit hN1071 rfl) ?_
                    refine op_move (ev_hit hN1071 rfl) ?_
                    refine g_true (j := 17) (dj := 72) (b := false) rfl rfl rfl (ev_hit hN1071 rfl) ?_
                    refine op_loadA (cs := [(Value.int .i64 y.k), (Value.int .i64 y.n), (Value.string (bs y.s))]) agg50 rfl (ev_base hN1071 rfl s1071_5) (fun j u hu => by rw [Nat.zero_add]; exact hB1034.cell hu) ?_
                    refine g_true (j := 17) (dj := 72) (b := false) rfl rfl rfl (ev_hit hN1071 rfl) ?_
                    refine op_loadA (cs := [(Value.int .i64 z.k), (Value.int .i64 z.n), (Value.string (bs z.s))]) agg50 rfl (ev_base hN1071 rfl s1071_6) (fun j u hu => by rw [Nat.zero_add]; exact hB1038.cell hu) ?_
                    refine g_true (j := 17) (dj := 72) (b := false) rfl rfl rfl (ev_hit hN1071 rfl) ?_
                    refine op_fn (vs := [(Value.agg #[(Value.int .i64 y.k), (Value.int .i64 y.n), (Value.string (bs y.s))]), (Value.agg #[(Value.int .i64 z.k), (Value.int .i64 z.n), (Value.string (bs z.s))])]) ok35 ⟨(ev_hit hN1071 rfl), ⟨(ev_hit hN1071 rfl), trivial⟩⟩ (Compare_ret y z _) ?_
                    rintro _ w1111 ⟨E1112, rfl⟩
                    have E1112 := grown_of_below E1112
                    have z_w1111 := E1112.size
                    have hv := hv.keep0 E1112
                    have hB1030 := hB1030.keep0 E1112
                    have hB1034 := hB1034.keep0 E1112
                    have hB1038 := hB1038.keep0 E1112
                    have hO1084 := hO1084.keep0 E1112
                    have hB1093 := hB1093.keep0 E1112
                    have hb := below_step0 hb E1112 hb.size
                    refine g_true (j := 17) (dj := 72) (b := false) rfl rfl rfl (ev_hit hN1071 rfl) ?_
                    refine op_neq (ev_hit hN1071 rfl) rfl (fun c76 => ?_) (fun c76 => ?_)
                    · -- 76 True
                      refine g_true (j := 14) (dj := 69) (b := true) rfl rfl rfl (ev_hit hN1071 rfl) ?_
                      refine op_pick_f (ev_hit hN1071 rfl) (ev_hit hN1071 rfl) ?_
                      refine g_true (j := 14) (dj := 69) (b := true) rfl rfl rfl (ev_hit hN1071 rfl) ?_
                      refine op_move (ev_hit hN1071 rfl) ?_
                      refine g_false (j := 23) (dj := 78) (b := false) rfl rfl rfl (ev_hit hN1071 rfl) rfl rfl ?_
                      refine g_false (j := 23) (dj := 78) (b := false) rfl rfl rfl (ev_hit hN1071 rfl) rfl rfl ?_
                      refine g_false (j := 23) (dj := 78) (b := false) rfl rfl rfl (ev_hit hN1071 rfl) rfl rfl ?_
                      refine g_false (j := 23) (dj := 78) (b := false) rfl rfl rfl (ev_hit hN1071 rfl) rfl rfl ?_
                      refine g_true (j := 14) (dj := 69) (b := true) rfl rfl rfl (ev_hit hN1071 rfl) ?_
                      refine op_pick_t (ev_hit hN1071 rfl) rfl ?_
                      refine op_pick_t (ev_hit hN1071 rfl) (ev_hit hN1071 rfl) ?_
                      refine op_assign (ev_hit hN1071 rfl) ?_
                      refine reg_nil ?_
                      refine hK1098 _ _ ?_
                      refine seq_any fun K1113 hK1113 => ?_
                      refine one_reg ?_
                      refine op_move (ev_base hN1071 rfl s1071_9) ?_
                      refine op_len_str Try.underlying9 (ev_hit hN1071 rfl) ?_
                      refine op_move (ev_base hN1071 rfl s1071_10) ?_
                      refine op_len_str Try.underlying9 (ev_hit hN1071 rfl) ?_
                      refine op_leq (ev_hit hN1071 rfl) (ev_hit hN1071 rfl) (fun c89 => ?_) (fun c89 => ?_)
                      · -- 89 True
                        refine op_move (ev_hit hN1071 rfl) ?_
                        refine g_true (j := 5) (dj := 90) (b := true) rfl rfl rfl (ev_hit hN1071 rfl) ?_
                        refine op_move (ev_base hN1071 rfl s1071_10) ?_
                        refine g_true (j := 5) (dj := 90) (b := true) rfl rfl rfl (ev_hit hN1071 rfl) ?_
                        refine op_move (ev_base hN1071 rfl s1071_9) ?_
                        refine g_true (j := 5) (dj := 90) (b := true) rfl rfl rfl (ev_hit hN1071 rfl) ?_
                        refine op_len_str Try.underlying9 (ev_hit hN1071 rfl) ?_
                        refine g_true (j := 5) (dj := 90) (b := true) rfl rfl rfl (ev_hit hN1071 rfl) ?_
                        refine op_slice_str (lo := 0) (hi := (keyV x).length) Try.underlying9 (ev_hit hN1071 rfl) (.inl ⟨rfl, rfl⟩) (.inr ⟨_, _, rfl, (ev_hit hN1071 rfl)⟩) (by omega) (by omega) ?_
                        refine g_true (j := 5) (dj := 90) (b := true) rfl rfl rfl (ev_hit hN1071 rfl) ?_
                        refine op_move (ev_base hN1071 rfl s1071_9) ?_
                        refine g_true (j := 5) (dj := 90) (b := true) rfl rfl rfl (ev_hit hN1071 rfl) ?_
                        refine op_seql (ev_hit hN1071 rfl) (ev_hit hN1071 rfl) (fun c96 => ?_) (fun c96 => ?_)
                        · -- 96 True
                          refine op_pick_t (ev_hit hN1071 rfl) (ev_hit hN1071 rfl) ?_
                          refine op_assign (ev_hit hN1071 rfl) ?_
                          refine reg_nil ?_
                          refine hK1113 _ _ ?_
                          refine seq_any fun K1114 hK1114 => ?_
                          refine one_reg ?_
                          refine op_move (ev_hit hN1071 rfl) ?_
                          refine op_move (ev_hit hN1071 rfl) ?_
                          refine g_true (j := 1) (dj := 99) (b := true) rfl rfl rfl (ev_hit hN1071 rfl) ?_
                          refine op_move (ev_base hN1071 rfl s1071_9) ?_
                          refine g_true (j := 1) (dj := 99) (b := true) rfl rfl rfl (ev_hit hN1071 rfl) ?_
                          refine op_move (ev_base hN1071 rfl s1071_10) ?_
                          refine g_true (j := 1) (dj := 99) (b := true) rfl rfl rfl (ev_hit hN1071 rfl) ?_
                          refine op_fn (vs := [(Value.string (bs (keyV x))), (Value.string (bs (keyV y)))]) ok42 ⟨(ev_hit hN1071 rfl), ⟨(ev_hit hN1071 rfl), trivial⟩⟩ (CompareText_ret (keyV x) (keyV y) _ (by first | assumption | omega | (simp only [List.length_append, List.length_cons, List.length_nil, List.length_drop, List.length_take]; omega) | (dsimp only; omega) | decide | (simp [keyV, be8_len]; done)) (by first | assumption | omega | (simp only [List.length_append, List.length_cons, List.length_nil, List.length_drop, List.length_take]; omega) | (dsimp only; omega) | decide | (simp [keyV, be8_len]; done))) ?_
                          rintro _ w1115 ⟨E1116, rfl⟩
                          have E1116 := grown_of_below E1116
                          have z_w1115 := E1116.size
                          have hv := hv.keep0 E1116
                          have hB1030 := hB1030.keep0 E1116
                          have hB1034 := hB1034.keep0 E1116
                          have hB1038 := hB1038.keep0 E1116
                          have hO1084 := hO1084.keep0 E1116
                          have hB1093 := hB1093.keep0 E1116
                          have hb := below_step0 hb E1116 hb.size
                          refine g_true (j := 1) (dj := 99) (b := true) rfl rfl rfl (ev_hit hN1071 rfl) ?_
                          refine op_move (ev_hit hN1071 rfl) ?_
                          refine g_true (j := 1) (dj := 99) (b := true) rfl rfl rfl (ev_hit hN1071 rfl) ?_
                          refine op_eql (ev_hit hN1071 rfl) (ev_hit hN1071 rfl) (fun c104 => ?_) (fun c104 => ?_)
                          · -- 104 True
                            refine op_pick_t (ev_hit hN1071 rfl) (ev_hit hN1071 rfl) ?_
                            refine op_move (ev_hit hN1071 rfl) ?_
                            refine g_true (j := 8) (dj := 106) (b := true) rfl rfl rfl (ev_hit hN1071 rfl) ?_
                            refine op_move (ev_hit hN1071 rfl) ?_
                            refine g_true (j := 8) (dj := 106) (b := true) rfl rfl rfl (ev_hit hN1071 rfl) ?_
                            refine op_loadA (cs := [(Value.int .i64 x.k), (Value.int .i64 x.n), (Value.string (bs x.s))]) agg50 rfl (ev_base hN1071 rfl s1071_4) (fun j u hu => by rw [Nat.zero_add]; exact hB1030.cell hu) ?_
                            refine g_true (j := 8) (dj := 106) (b := true) rfl rfl rfl (ev_hit hN1071 rfl) ?_
                            refine op_loadA (cs := [(Value.int .i64 y.k), (Value.int .i64 y.n), (Value.string (bs y.s))]) agg50 rfl (ev_base hN1071 rfl s1071_5) (fun j u hu => by rw [Nat.zero_add]; exact hB1034.cell hu) ?_
                            refine g_true (j := 8) (dj := 106) (b := true) rfl rfl rfl (ev_hit hN1071 rfl) ?_
                            by_cases c110 : x.k = y.k ∧ x.n = y.n ∧ x.s = y.s
                            · -- 110 True
                              refine op_aeql (xs := [(Value.int .i64 x.k), (Value.int .i64 x.n), (Value.string (bs x.s))]) (ys := [(Value.int .i64 y.k), (Value.int .i64 y.n), (Value.string (bs y.s))]) (b' := true) (ev_hit hN1071 rfl) (ev_hit hN1071 rfl) (eq50 x.k y.k x.n y.n x.s y.s) (decide_eq_true c110) ?_
                              refine g_true (j := 8) (dj := 106) (b := true) rfl rfl rfl (ev_hit hN1071 rfl) ?_
                              refine op_eqb Try.underlying4 (ev_hit hN1071 rfl) (ev_hit hN1071 rfl) ?_
                              refine op_pick_t (ev_hit hN1071 rfl) (ev_hit hN1071 rfl) ?_
                              refine op_move (ev_hit hN1071 rfl) ?_
                              refine g_true (j := 15) (dj := 113) (b := true) rfl rfl rfl (ev_hit hN1071 rfl) ?_
                              refine op_move (ev_hit hN1071 rfl) ?_
                              refine g_true (j := 15) (dj := 113) (b := true) rfl rfl rfl (ev_hit hN1071 rfl) ?_
                              refine op_eql (ev_hit hN1071 rfl) rfl (fun c115 => ?_) (fun c115 => ?_)
                              · -- 115 True
                                refine op_pick_t (ev_hit hN1071 rfl) (ev_hit hN1071 rfl) ?_
                                refine op_move (ev_hit hN1071 rfl) ?_
                                refine g_true (j := 19) (dj := 117) (b := true) rfl rfl rfl (ev_hit hN1071 rfl) ?_
                                refine op_move (ev_hit hN1071 rfl) ?_
                                refine g_true (j := 19) (dj := 117) (b := true) rfl rfl rfl (ev_hit hN1071 rfl) ?_
                                refine op_move (ev_base hN1071 rfl s1071_9) ?_
                                refine g_true (j := 19) (dj := 117) (b := true) rfl rfl rfl (ev_hit hN1071 rfl) ?_
                                refine op_len_str Try.underlying9 (ev_hit hN1071 rfl) ?_
                                refine g_true (j := 19) (dj := 117) (b := true) rfl rfl rfl (ev_hit hN1071 rfl) ?_
                                refine op_eql (ev_hit hN1071 rfl) (ev_hit hN1071 rfl) (fun c121 => ?_) (fun c121 => ?_)
                                · -- 121 True
                                  refine op_pick_t (ev_hit hN1071 rfl) (ev_hit hN1071 rfl) ?_
                                  refine op_move (ev_hit hN1071 rfl) ?_
                                  refine g_true (j := 25) (dj := 123) (b := true) rfl rfl rfl (ev_hit hN1071 rfl) ?_
                                  refine op_loadA (cs := [(Value.int .i64 (takeV ((keyV x) ++ rl)).1.k), (Value.int .i64 (takeV ((keyV x) ++ rl)).1.n), (Value.string (bs (takeV ((keyV x) ++ rl)).1.s))]) agg50 rfl (ev_hit hN1071 rfl) (fun j u hu => by rw [Nat.zero_add]; exact hB1093.cell hu) ?_
                                  refine g_true (j := 25) (dj := 123) (b := true) rfl rfl rfl (ev_hit hN1071 rfl) ?_
                                  refine op_loadA (cs := [(Value.int .i64 x.k), (Value.int .i64 x.n), (Value.string (bs x.s))]) agg50 rfl (ev_base hN1071 rfl s1071_4) (fun j u hu => by rw [Nat.zero_add]; exact hB1030.cell hu) ?_
                                  refine g_true (j := 25) (dj := 123) (b := true) rfl rfl rfl (ev_hit hN1071 rfl) ?_
                                  by_cases c126 : (takeV ((keyV x) ++ rl)).1.k = x.k ∧ (takeV ((keyV x) ++ rl)).1.n = x.n ∧ (takeV ((keyV x) ++ rl)).1.s = x.s
                                  · -- 126 True
                                    refine op_aeql (xs := [(Value.int .i64 (takeV ((keyV x) ++ rl)).1.k), (Value.int .i64 (takeV ((keyV x) ++ rl)).1.n), (Value.string (bs (takeV ((keyV x) ++ rl)).1.s))]) (ys := [(Value.int .i64 x.k), (Value.int .i64 x.n), (Value.string (bs x.s))]) (b' := true) (ev_hit hN1071 rfl) (ev_hit hN1071 rfl) (eq50 (takeV ((keyV x) ++ rl)).1.k x.k (takeV ((keyV x) ++ rl)).1.n x.n (takeV ((keyV x) ++ rl)).1.s x.s) (decide_eq_true c126) ?_
                                    refine op_pick_t (ev_hit hN1071 rfl) (ev_hit hN1071 rfl) ?_
                                    refine op_assign (ev_hit hN1071 rfl) ?_
                                    refine reg_nil ?_
                                    refine hK1114 _ _ ?_
                                    refine wp_ret ?_
                                    refine ret1 rfl hd1071 (ev_hit hN1071 rfl) ⟨_, rfl, ?_⟩
                                    -- path 20T 24T 29T 35F 60T 63T 66T 71F 76T 89T 96T 104T 110T 115T 121T 126T
                                    exact ⟨hb, rfl⟩
                                  · -- 126 False
                                    exact absurd (by rw [htk]; exact ⟨rfl, rfl, rfl⟩) c126
                                · -- 121 False
                                  exact absurd (by rw [htk]) c121
                              · -- 115 False
                                exact absurd (by rw [htk]) c115
                            · -- 110 False
                              exact absurd (veq_of (key_prefix c20 c24 ox oy (by simpa using c96))) c110
                          · -- 104 False
                            exact absurd (keys_stand c20 c24 ox oy) c104
                        · -- 96 False
                          refine op_pick_t (ev_hit hN1071 rfl) (ev_hit hN1071 rfl) ?_
                          refine op_assign (ev_hit hN1071 rfl) ?_
                          refine reg_nil ?_
                          refine hK1113 _ _ ?_
                          refine seq_any fun K1117 hK1117 => ?_
                          refine one_reg ?_
                          refine op_move (ev_hit hN1071 rfl) ?_
                          refine op_move (ev_hit hN1071 rfl) ?_
                          refine g_true (j := 1) (dj := 99) (b := true) rfl rfl rfl (ev_hit hN1071 rfl) ?_
                          refine op_move (ev_base hN1071 rfl s1071_9) ?_
                          refine g_true (j := 1) (dj := 99) (b := true) rfl rfl rfl (ev_hit hN1071 rfl) ?_
                          refine op_move (ev_base hN1071 rfl s1071_10) ?_
                          refine g_true (j := 1) (dj := 99) (b := true) rfl rfl rfl (ev_hit hN1071 rfl) ?_
                          refine op_fn (vs := [(Value.string (bs (keyV x))), (Value.string (bs (keyV y)))]) ok42 ⟨(ev_hit hN1071 rfl), ⟨(ev_hit hN1071 rfl), trivial⟩⟩ (CompareText_ret (keyV x) (keyV y) _ (by first | assumption | omega | (simp only [List.length_append, List.length_cons, List.length_nil, List.length_drop, List.length_take]; omega) | (dsimp only; omega) | decide | (simp [keyV, be8_len]; done)) (by first | assumption | omega | (simp only [List.length_append, List.length_cons, List.length_nil, List.length_drop, List.length_take]; omega) | (dsimp only; omega) | decide | (simp [keyV, be8_len]; done))) ?_
                          rintro _ w1118 ⟨E1119, rfl⟩
                          have E1119 := grown_of_below E1119
                          have z_w1118 := E1119.size
                          have hv := hv.keep0 E1119
                          have hB1030 := hB1030.keep0 E1119
                          have hB1034 := hB1034.keep0 E1119
                          have hB1038 := hB1038.keep0 E1119
                          have hO1084 := hO1084.keep0 E1119
                          have hB1093 := hB1093.keep0 E1119
                          have hb := below_step0 hb E1119 hb.size
                          refine g_true (j := 1) (dj := 99) (b := true) rfl rfl rfl (ev_hit hN1071 rfl) ?_
                          refine op_move (ev_hit hN1071 rfl) ?_
                          refine g_true (j := 1) (dj := 99) (b := true) rfl rfl rfl (ev_hit hN1071 rfl) ?_
                          refine op_eql (ev_hit hN1071 rfl) (ev_hit hN1071 rfl) (fun c104 => ?_) (fun c104 => ?_)
                          · -- 104 True
                            refine op_pick_t (ev_hit hN1071 rfl) (ev_hit hN1071 rfl) ?_
                            refine op_move (ev_hit hN1071 rfl) ?_
                            refine g_true (j := 8) (dj := 106) (b := true) rfl rfl rfl (ev_hit hN1071 rfl) ?_
                            refine op_move (ev_hit hN1071 rfl) ?_
                            refine g_true (j := 8) (dj := 106) (b := true) rfl rfl rfl (ev_hit hN1071 rfl) ?_
                            refine op_loadA (cs := [(Value.int .i64 x.k), (Value.int .i64 x.n), (Value.string (bs x.s))]) agg50 rfl (ev_base hN1071 rfl s1071_4) (fun j u hu => by rw [Nat.zero_add]; exact hB1030.cell hu) ?_
                            refine g_true (j := 8) (dj := 106) (b := true) rfl rfl rfl (ev_hit hN1071 rfl) ?_
                            refine op_loadA (cs := [(Value.int .i64 y.k), (Value.int .i64 y.n), (Value.string (bs y.s))]) agg50 rfl (ev_base hN1071 rfl s1071_5) (fun j u hu => by rw [Nat.zero_add]; exact hB1034.cell hu) ?_
                            refine g_true (j := 8) (dj := 106) (b := true) rfl rfl rfl (ev_hit hN1071 rfl) ?_
                            by_cases c110 : x.k = y.k ∧ x.n = y.n ∧ x.s = y.s
                            · -- 110 True
                              exact absurd (by rw [vl_ext c110]; simp) c96
                            · -- 110 False
                              refine op_aeql (xs := [(Value.int .i64 x.k), (Value.int .i64 x.n), (Value.string (bs x.s))]) (ys := [(Value.int .i64 y.k), (Value.int .i64 y.n), (Value.string (bs y.s))]) (b' := false) (ev_hit hN1071 rfl) (ev_hit hN1071 rfl) (eq50 x.k y.k x.n y.n x.s y.s) (decide_eq_false c110) ?_
                              refine g_true (j := 8) (dj := 106) (b := true) rfl rfl rfl (ev_hit hN1071 rfl) ?_
                              refine op_eqb Try.underlying4 (ev_hit hN1071 rfl) (ev_hit hN1071 rfl) ?_
                              refine op_pick_t (ev_hit hN1071 rfl) (ev_hit hN1071 rfl) ?_
                              refine op_move (ev_hit hN1071 rfl) ?_
                              refine g_true (j := 15) (dj := 113) (b := true) rfl rfl rfl (ev_hit hN1071 rfl) ?_
                              refine op_move (ev_hit hN1071 rfl) ?_
                              refine g_true (j := 15) (dj := 113) (b := true) rfl rfl rfl (ev_hit hN1071 rfl) ?_
                              refine op_eql (ev_hit hN1071 rfl) rfl (fun c115 => ?_) (fun c115 => ?_)
                              · -- 115 True
                                refine op_pick_t (ev_hit hN1071 rfl) (ev_hit hN1071 rfl) ?_
                                refine op_move (ev_hit hN1071 rfl) ?_
                                refine g_true (j := 19) (dj := 117) (b := true) rfl rfl rfl (ev_hit hN1071 rfl) ?_
                                refine op_move (ev_hit hN1071 rfl) ?_
                                refine g_true (j := 19) (dj := 117) (b := true) rfl rfl rfl (ev_hit hN1071 rfl) ?_
                                refine op_move (ev_base hN1071 rfl s1071_9) ?_
                                refine g_true (j := 19) (dj := 117) (b := true) rfl rfl rfl (ev_hit hN1071 rfl) ?_
                                refine op_len_str Try.underlying9 (ev_hit hN1071 rfl) ?_
                                refine g_true (j := 19) (dj := 117) (b := true) rfl rfl rfl (ev_hit hN1071 rfl) ?_
                                refine op_eql (ev_hit hN1071 rfl) (ev_hit hN1071 rfl) (fun c121 => ?_) (fun c121 => ?_)
                                · -- 121 True
                                  refine op_pick_t (ev_hit hN1071 rfl) (ev_hit hN1071 rfl) ?_
                                  refine op_move (ev_hit hN1071 rfl) ?_
                                  refine g_true (j := 25) (dj := 123) (b := true) rfl rfl rfl (ev_hit hN1071 rfl) ?_
                                  refine op_loadA (cs := [(Value.int .i64 (takeV ((keyV x) ++ rl)).1.k), (Value.int .i64 (takeV ((keyV x) ++ rl)).1.n), (Value.string (bs (takeV ((keyV x) ++ rl)).1.s))]) agg50 rfl (ev_hit hN1071 rfl) (fun j u hu => by rw [Nat.zero_add]; exact hB1093.cell hu) ?_
                                  refine g_true (j := 25) (dj := 123) (b := true) rfl rfl rfl (ev_hit hN1071 rfl) ?_
                                  refine op_loadA (cs := [(Value.int .i64 x.k), (Value.int .i64 x.n), (Value.string (bs x.s))]) agg50 rfl (ev_base hN1071 rfl s1071_4) (fun j u hu => by rw [Nat.zero_add]; exact hB1030.cell hu) ?_
                                  refine g_true (j := 25) (dj := 123) (b := true) rfl rfl rfl (ev_hit hN1071 rfl) ?_
                                  by_cases c126 : (takeV ((keyV x) ++ rl)).1.k = x.k ∧ (takeV ((keyV x) ++ rl)).1.n = x.n ∧ (takeV ((keyV x) ++ rl)).1.s = x.s
                                  · -- 126 True
                                    refine op_aeql (xs := [(Value.int .i64 (takeV ((keyV x) ++ rl)).1.k), (Value.int .i64 (takeV ((keyV x) ++ rl)).1.n), (Value.string (bs (takeV ((keyV x) ++ rl)).1.s))]) (ys := [(Value.int .i64 x.k), (Value.int .i64 x.n), (Value.string (bs x.s))]) (b' := true) (ev_hit hN1071 rfl) (ev_hit hN1071 rfl) (eq50 (takeV ((keyV x) ++ rl)).1.k x.k (takeV ((keyV x) ++ rl)).1.n x.n (takeV ((keyV x) ++ rl)).1.s x.s) (decide_eq_true c126) ?_
                                    refine op_pick_t (ev_hit hN1071 rfl) (ev_hit hN1071 rfl) ?_
                                    refine op_assign (ev_hit hN1071 rfl) ?_
                                    refine reg_nil ?_
                                    refine hK1117 _ _ ?_
                                    refine wp_ret ?_
                                    refine ret1 rfl hd1071 (ev_hit hN1071 rfl) ⟨_, rfl, ?_⟩
                                    -- path 20T 24T 29T 35F 60T 63T 66T 71F 76T 89T 96F 104T 110F 115T 121T 126T
                                    exact ⟨hb, rfl⟩
                                  · -- 126 False
                                    exact absurd (by rw [htk]; exact ⟨rfl, rfl, rfl⟩) c126
                                · -- 121 False
                                  exact absurd (by rw [htk]) c121
                              · -- 115 False
                                exact absurd (by rw [htk]) c115
                          · -- 104 False
                            exact absurd (keys_stand c20 c24 ox oy) c104
                      · -- 89 False
                        refine op_move (ev_hit hN1071 rfl) ?_
                        refine g_false (j := 5) (dj := 90) (b := true) rfl rfl rfl (ev_hit hN1071 rfl) rfl rfl ?_
                        refine g_false (j := 5) (dj := 90) (b := true) rfl rfl rfl (ev_hit hN1071 rfl) rfl rfl ?_
                        refine g_false (j := 5) (dj := 90) (b := true) rfl rfl rfl (ev_hit hN1071 rfl) rfl rfl ?_
                        refine g_false (j := 5) (dj := 90) (b := true) rfl rfl rfl (ev_hit hN1071 rfl) rfl rfl ?_
                        refine g_false (j := 5) (dj := 90) (b := true) rfl rfl rfl (ev_hit hN1071 rfl) rfl rfl ?_
                        refine g_false (j := 5) (dj := 90) (b := true) rfl rfl rfl (ev_hit hN1071 rfl) rfl rfl ?_
                        refine op_pick_f (ev_hit hN1071 rfl) rfl ?_
                        refine op_assign (ev_hit hN1071 rfl) ?_
                        refine reg_nil ?_
                        refine hK1113 _ _ ?_
                        refine seq_any fun K1120 hK1120 => ?_
                        refine one_reg ?_
                        refine op_move (ev_hit hN1071 rfl) ?_
                        refine op_move (ev_hit hN1071 rfl) ?_
                        refine g_true (j := 1) (dj := 99) (b := true) rfl rfl rfl (ev_hit hN1071 rfl) ?_
                        refine op_move (ev_base hN1071 rfl s1071_9) ?_
                        refine g_true (j := 1) (dj := 99) (b := true) rfl rfl rfl (ev_hit hN1071 rfl) ?_
                        refine op_move (ev_base hN1071 rfl s1071_10) ?_
                        refine g_true (j := 1) (dj := 99) (b := true) rfl rfl rfl (ev_hit hN1071 rfl) ?_
                        refine op_fn (vs := [(Value.string (bs (keyV x))), (Value.string (bs (keyV y)))]) ok42 ⟨(ev_hit hN1071 rfl), ⟨(ev_hit hN1071 rfl), trivial⟩⟩ (CompareText_ret (keyV x) (keyV y) _ (by first | assumption | omega | (simp only [List.length_append, List.length_cons, List.length_nil, List.length_drop, List.length_take]; omega) | (dsimp only; omega) | decide | (simp [keyV, be8_len]; done)) (by first | assumption | omega | (simp only [List.length_append, List.length_cons, List.length_nil, List.length_drop, List.length_take]; omega) | (dsimp only; omega) | decide | (simp [keyV, be8_len]; done))) ?_
                        rintro _ w1121 ⟨E1122, rfl⟩
                        have E1122 := grown_of_below E1122
                        have z_w1121 := E1122.size
                        have hv := hv.keep0 E1122
                        have hB1030 := hB1030.keep0 E1122
                        have hB1034 := hB1034.keep0 E1122
                        have hB1038 := hB1038.keep0 E1122
                        have hO1084 := hO1084.keep0 E1122
                        have hB1093 := hB1093.keep0 E1122
                        have hb := below_step0 hb E1122 hb.size
                        refine g_true (j := 1) (dj := 99) (b := true) rfl rfl rfl (ev_hit hN1071 rfl) ?_
                        refine op_move (ev_hit hN1071 rfl) ?_
                        refine g_true (j := 1) (dj := 99) (b := true) rfl rfl rfl (ev_hit hN1071 rfl) ?_
                        refine op_eql (ev_hit hN1071 rfl) (ev_hit hN1071 rfl) (fun c104 => ?_) (fun c104 => ?_)
                        · -- 104 True
                          refine op_pick_t (ev_hit hN1071 rfl) (ev_hit hN1071 rfl) ?_
                          refine op_move (ev_hit hN1071 rfl) ?_
                          refine g_true (j := 8) (dj := 106) (b := true) rfl rfl rfl (ev_hit hN1071 rfl) ?_
                          refine op_move (ev_hit hN1071 rfl) ?_
                          refine g_true (j := 8) (dj := 106) (b := true) rfl rfl rfl (ev_hit hN1071 rfl) ?_
                          refine op_loadA (cs := [(Value.int .i64 x.k), (Value.int .i64 x.n), (Value.string (bs x.s))]) agg50 rfl (ev_base hN1071 rfl s1071_4) (fun j u hu => by rw [Nat.zero_add]; exact hB1030.cell hu) ?_
                          refine g_true (j := 8) (dj := 106) (b := true) rfl rfl rfl (ev_hit hN1071 rfl) ?_
                          refine op_loadA (cs := [(Value.int .i64 y.k), (Value.int .i64 y.n), (Value.string (bs y.s))]) agg50 rfl (ev_base hN1071 rfl s1071_5) (fun j u hu => by rw [Nat.zero_add]; exact hB1034.cell hu) ?_
                          refine g_true (j := 8) (dj := 106) (b := true) rfl rfl rfl (ev_hit hN1071 rfl) ?_
                          by_cases c110 : x.k = y.k ∧ x.n = y.n ∧ x.s = y.s
                          · -- 110 True
                            exact absurd (by rw [vl_ext c110]; exact Int.le_refl _) c89
                          · -- 110 False
                            refine op_aeql (xs := [(Value.int .i64 x.k), (Value.int .i64 x.n), (Value.string (bs x.s))]) (ys := [(Value.int .i64 y.k), (Value.int .i64 y.n), (Value.string (bs y.s))]) (b' := false) (ev_hit hN1071 rfl) (ev_hit hN1071 rfl) (eq50 x.k y.k x.n y.n x.s y.s) (decide_eq_false c110) ?_
                            refine g_true (j := 8) (dj := 106) (b := true) rfl rfl rfl (ev_hit hN1071 rfl) ?_
                            refine op_eqb Try.underlying4 (ev_hit hN1071 rfl) (ev_hit hN1071 rfl) ?_
                            refine op_pick_t (ev_hit hN1071 rfl) (ev_hit hN1071 rfl) ?_
                            refine op_move (ev_hit hN1071 rfl) ?_
                            refine g_true (j := 15) (dj := 113) (b := true) rfl rfl rfl (ev_hit hN1071 rfl) ?_
                            refine op_move (ev_hit hN1071 rfl) ?_
                            refine g_true (j := 15) (dj := 113) (b := true) rfl rfl rfl (ev_hit hN1071 rfl) ?_
                            refine op_eql (ev_hit hN1071 rfl) rfl (fun c115 => ?_) (fun c115 => ?_)
                            · -- 115 True
                              refine op_pick_t (ev_hit hN1071 rfl) (ev_hit hN1071 rfl) ?_
                              refine op_move (ev_hit hN1071 rfl) ?_
                              refine g_true (j := 19) (dj := 117) (b := true) rfl rfl rfl (ev_hit hN1071 rfl) ?_
                              refine op_move (ev_hit hN1071 rfl) ?_
                              refine g_true (j := 19) (dj := 117) (b := true) rfl rfl rfl (ev_hit hN1071 rfl) ?_
                              refine op_move (ev_base hN1071 rfl s1071_9) ?_
                              refine g_true (j := 19) (dj := 117) (b := true) rfl rfl rfl (ev_hit hN1071 rfl) ?_
                              refine op_len_str Try.underlying9 (ev_hit hN1071 rfl) ?_
                              refine g_true (j := 19) (dj := 117) (b := true) rfl rfl rfl (ev_hit hN1071 rfl) ?_
                              refine op_eql (ev_hit hN1071 rfl) (ev_hit hN1071 rfl) (fun c121 => ?_) (fun c121 => ?_)
                              · -- 121 True
                                refine op_pick_t (ev_hit hN1071 rfl) (ev_hit hN1071 rfl) ?_
                                refine op_move (ev_hit hN1071 rfl) ?_
                                refine g_true (j := 25) (dj := 123) (b := true) rfl rfl rfl (ev_hit hN1071 rfl) ?_
                                refine op_loadA (cs := [(Value.int .i64 (takeV ((keyV x) ++ rl)).1.k), (Value.int .i64 (takeV ((keyV x) ++ rl)).1.n), (Value.string (bs (takeV ((keyV x) ++ rl)).1.s))]) agg50 rfl (ev_hit hN1071 rfl) (fun j u hu => by rw [Nat.zero_add]; exact hB1093.cell hu) ?_
                                refine g_true (j := 25) (dj := 123) (b := true) rfl rfl rfl (ev_hit hN1071 rfl) ?_
                                refine op_loadA (cs := [(Value.int .i64 x.k), (Value.int .i64 x.n), (Value.string (bs x.s))]) agg50 rfl (ev_base hN1071 rfl s1071_4) (fun j u hu => by rw [Nat.zero_add]; exact hB1030.cell hu) ?_
                                refine g_true (j := 25) (dj := 123) (b := true) rfl rfl rfl (ev_hit hN1071 rfl) ?_
                                by_cases c126 : (takeV ((keyV x) ++ rl)).1.k = x.k ∧ (takeV ((keyV x) ++ rl)).1.n = x.n ∧ (takeV ((keyV x) ++ rl)).1.s = x.s
                                · -- 126 True
                                  refine op_aeql (xs := [(Value.int .i64 (takeV ((keyV x) ++ rl)).1.k), (Value.int .i64 (takeV ((keyV x) ++ rl)).1.n), (Value.string (bs (takeV ((keyV x) ++ rl)).1.s))]) (ys := [(Value.int .i64 x.k), (Value.int .i64 x.n), (Value.string (bs x.s))]) (b' := true) (ev_hit hN1071 rfl) (ev_hit hN1071 rfl) (eq50 (takeV ((keyV x) ++ rl)).1.k x.k (takeV ((keyV x) ++ rl)).1.n x.n (takeV ((keyV x) ++ rl)).1.s x.s) (decide_eq_true c126) ?_
                                  refine op_pick_t (ev_hit hN1071 rfl) (ev_hit hN1071 rfl) ?_
                                  refine op_assign (ev_hit hN1071 rfl) ?_
                                  refine reg_nil ?_
                                  refine hK1120 _ _ ?_
                                  refine wp_ret ?_
                                  refine ret1 rfl hd1071 (ev_hit hN1071 rfl) ⟨_, rfl, ?_⟩
                                  -- path 20T 24T 29T 35F 60T 63T 66T 71F 76T 89F 104T 110F 115T 121T 126T
                                  exact ⟨hb, rfl⟩
                                · -- 126 False
                                  exact absurd (by rw [htk]; exact ⟨rfl, rfl, rfl⟩) c126
                              · -- 121 False
                                exact absurd (by rw [htk]) c121
                            · -- 115 False
                              exact absurd (by rw [htk]) c115
                        · -- 104 False
                          exact absurd (keys_stand c20 c24 ox oy) c104
                    · -- 76 False
                      refine g_true (j := 14) (dj := 69) (b := true) rfl rfl rfl (ev_hit hN1071 rfl) ?_
                      refine op_pick_f (ev_hit hN1071 rfl) (ev_hit hN1071 rfl) ?_
                      refine g_true (j := 14) (dj := 69) (b := true) rfl rfl rfl (ev_hit hN1071 rfl) ?_
                      refine op_move (ev_hit hN1071 rfl) ?_
                      refine g_true (j := 23) (dj := 78) (b := false) rfl rfl rfl (ev_hit hN1071 rfl) ?_
                      refine op_loadA (cs := [(Value.int .i64 x.k), (Value.int .i64 x.n), (Value.string (bs x.s))]) agg50 rfl (ev_base hN1071 rfl s1071_4) (fun j u hu => by rw [Nat.zero_add]; exact hB1030.cell hu) ?_
                      refine g_true (j := 23) (dj := 78) (b := false) rfl rfl rfl (ev_hit hN1071 rfl) ?_
                      refine op_loadA (cs := [(Value.int .i64 z.k), (Value.int .i64 z.n), (Value.string (bs z.s))]) agg50 rfl (ev_base hN1071 rfl s1071_6) (fun j u hu => by rw [Nat.zero_add]; exact hB1038.cell hu) ?_
                      refine g_true (j := 23) (dj := 78) (b := false) rfl rfl rfl (ev_hit hN1071 rfl) ?_
                      refine op_fn (vs := [(Value.agg #[(Value.int .i64 x.k), (Value.int .i64 x.n), (Value.string (bs x.s))]), (Value.agg #[(Value.int .i64 z.k), (Value.int .i64 z.n), (Value.string (bs z.s))])]) ok35 ⟨(ev_hit hN1071 rfl), ⟨(ev_hit hN1071 rfl), trivial⟩⟩ (Compare_ret x z _) ?_
                      rintro _ w1123 ⟨E1124, rfl⟩
                      have E1124 := grown_of_below E1124
                      have z_w1123 := E1124.size
                      have hv := hv.keep0 E1124
                      have hB1030 := hB1030.keep0 E1124
                      have hB1034 := hB1034.keep0 E1124
                      have hB1038 := hB1038.keep0 E1124
                      have hO1084 := hO1084.keep0 E1124
                      have hB1093 := hB1093.keep0 E1124
                      have hb := below_step0 hb E1124 hb.size
                      refine g_true (j := 23) (dj := 78) (b := false) rfl rfl rfl (ev_hit hN1071 rfl) ?_
                      refine op_eql (ev_hit hN1071 rfl) rfl (fun c82 => ?_) (fun c82 => ?_)
                      · -- 82 True
                        refine g_true (j := 14) (dj := 69) (b := true) rfl rfl rfl (ev_hit hN1071 rfl) ?_
                        refine op_pick_f (ev_hit hN1071 rfl) (ev_hit hN1071 rfl) ?_
                        refine op_pick_t (ev_hit hN1071 rfl) (ev_hit hN1071 rfl) ?_
                        refine op_assign (ev_hit hN1071 rfl) ?_
                        refine reg_nil ?_
                        refine hK1098 _ _ ?_
                        refine seq_any fun K1125 hK1125 => ?_
                        refine one_reg ?_
                        refine op_move (ev_base hN1071 rfl s1071_9) ?_
                        refine op_len_str Try.underlying9 (ev_hit hN1071 rfl) ?_
                        refine op_move (ev_base hN1071 rfl s1071_10) ?_
                        refine op_len_str Try.underlying9 (ev_hit hN1071 rfl) ?_
                        refine op_leq (ev_hit hN1071 rfl) (ev_hit hN1071 rfl) (fun c89 => ?_) (fun c89 => ?_)
                        · -- 89 True
                          refine op_move (ev_hit hN1071 rfl) ?_
                          refine g_true (j := 5) (dj := 90) (b := true) rfl rfl rfl (ev_hit hN1071 rfl) ?_
                          refine op_move (ev_base hN1071 rfl s1071_10) ?_
                          refine g_true (j := 5) (dj := 90) (b := true) rfl rfl rfl (ev_hit hN1071 rfl) ?_
                          refine op_move (ev_base hN1071 rfl s1071_9) ?_
                          refine g_true (j := 5) (dj := 90) (b := true) rfl rfl rfl (ev_hit hN1071 rfl) ?_
                          refine op_len_str Try.underlying9 (ev_hit hN1071 rfl) ?_
                          refine g_true (j := 5) (dj := 90) (b := true) rfl rfl rfl (ev_hit hN1071 rfl) ?_
                          refine op_slice_str (lo := 0) (hi := (keyV x).length) Try.underlying9 (ev_hit hN1071 rfl) (.inl ⟨rfl, rfl⟩) (.inr ⟨_, _, rfl, (ev_hit hN1071 rfl)⟩) (by omega) (by omega) ?_
                          refine g_true (j := 5) (dj := 90) (b := true) rfl rfl rfl (ev_hit hN1071 rfl) ?_
                          refine op_move (ev_base hN1071 rfl s1071_9) ?_
                          refine g_true (j := 5) (dj := 90) (b := true) rfl rfl rfl (ev_hit hN1071 rfl) ?_
                          refine op_seql (ev_hit hN1071 rfl) (ev_hit hN1071 rfl) (fun c96 => ?_) (fun c96 => ?_)
                          · -- 96 True
                            refine op_pick_t (ev_hit hN1071 rfl) (ev_hit hN1071 rfl) ?_
                            refine op_assign (ev_hit hN1071 rfl) ?_
                            refine reg_nil ?_
                            refine hK1125 _ _ ?_
                            refine seq_any fun K1126 hK1126 => ?_
                            refine one_reg ?_
                            refine op_move (ev_hit hN1071 rfl) ?_
                            refine op_move (ev_hit hN1071 rfl) ?_
                            refine g_true (j := 1) (dj := 99) (b := true) rfl rfl rfl (ev_hit hN1071 rfl) ?_
                            refine op_move (ev_base hN1071 rfl s1071_9) ?_
                            refine g_true (j := 1) (dj := 99) (b := true) rfl rfl rfl (ev_hit hN1071 rfl) ?_
                            refine op_move (ev_base hN1071 rfl s1071_10) ?_
                            refine g_true (j := 1) (dj := 99) (b := true) rfl rfl rfl (ev_hit hN1071 rfl) ?_
                            refine op_fn (vs := [(Value.string (bs (keyV x))), (Value.string (bs (keyV y)))]) ok42 ⟨(ev_hit hN1071 rfl), ⟨(ev_hit hN1071 rfl), trivial⟩⟩ (CompareText_ret (keyV x) (keyV y) _ (by first | assumption | omega | (simp only [List.length_append, List.length_cons, List.length_nil, List.length_drop, List.length_take]; omega) | (dsimp only; omega) | decide | (simp [keyV, be8_len]; done)) (by first | assumption | omega | (simp only [List.length_append, List.length_cons, List.length_nil, List.length_drop, List.length_take]; omega) | (dsimp only; omega) | decide | (simp [keyV, be8_len]; done))) ?_
                            rintro _ w1127 ⟨E1128, rfl⟩
                            have E1128 := grown_of_below E1128
                            have z_w1127 := E1128.size
                            have hv := hv.keep0 E1128
                            have hB1030 := hB1030.keep0 E1128
                            have hB1034 := hB1034.keep0 E1128
                            have hB1038 := hB1038.keep0 E1128
                            have hO1084 := hO1084.keep0 E1128
                            have hB1093 := hB1093.keep0 E1128
                            have hb := below_step0 hb E1128 hb.size
                            refine g_true (j := 1) (dj := 99) (b := true) rfl rfl rfl (ev_hit hN1071 rfl) ?_
                            refine op_move (ev_hit hN1071 rfl) ?_
                            refine g_true (j := 1) (dj := 99) (b := true) rfl rfl rfl (ev_hit hN1071 rfl) ?_
                            refine op_eql (ev_hit hN1071 rfl) (ev_hit hN1071 rfl) (fun c104 => ?_) (fun c104 => ?_)
                            · -- 104 True
                              refine op_pick_t (ev_hit hN1071 rfl) (ev_hit hN1071 rfl) ?_
                              refine op_move (ev_hit hN1071 rfl) ?_
                              refine g_true (j := 8) (dj := 106) (b := true) rfl rfl rfl (ev_hit hN1071 rfl) ?_
                              refine op_move (ev_hit hN1071 rfl) ?_
                              refine g_true (j := 8) (dj := 106) (b := true) rfl rfl rfl (ev_hit hN1071 rfl) ?_
                              refine op_loadA (cs := [(Value.int .i64 x.k), (Value.int .i64 x.n), (Value.string (bs x.s))]) agg50 rfl (ev_base hN1071 rfl s1071_4) (fun j u hu => by rw [Nat.zero_add]; exact hB1030.cell hu) ?_
                              refine g_true (j := 8) (dj := 106) (b := true) rfl rfl rfl (ev_hit hN1071 rfl) ?_
                              refine op_loadA (cs := [(Value.int .i64 y.k), (Value.int .i64 y.n), (Value.string (bs y.s))]) agg50 rfl (ev_base hN1071 rfl s1071_5) (fun j u hu => by rw [Nat.zero_add]; exact hB1034.cell hu) ?_
                              refine g_true (j := 8) (dj := 106) (b := true) rfl rfl rfl (ev_hit hN1071 rfl) ?_
                              by_cases c110 : x.k = y.k ∧ x.n = y.n ∧ x.s = y.s
                              · -- 110 True
                                refine op_aeql (xs := [(Value.int .i64 x.k), (Value.int .i64 x.n), (Value.string (bs x.s))]) (ys := [(Value.int .i64 y.k), (Value.int .i64 y.n), (Value.string (bs y.s))]) (b' := true) (ev_hit hN1071 rfl) (ev_hit hN1071 rfl) (eq50 x.k y.k x.n y.n x.s y.s) (decide_eq_true c110) ?_
                                refine g_true (j := 8) (dj := 106) (b := true) rfl rfl rfl (ev_hit hN1071 rfl) ?_
                                refine op_eqb Try.underlying4 (ev_hit hN1071 rfl) (ev_hit hN1071 rfl) ?_
                                refine op_pick_t (ev_hit hN1071 rfl) (ev_hit hN1071 rfl) ?_
                                refine op_move (ev_hit hN1071 rfl) ?_
                                refine g_true (j := 15) (dj := 113) (b := true) rfl rfl rfl (ev_hit hN1071 rfl) ?_
                                refine op_move (ev_hit hN1071 rfl) ?_
                                refine g_true (j := 15) (dj := 113) (b := true) rfl rfl rfl (ev_hit hN1071 rfl) ?_
                                refine op_eql (ev_hit hN1071 rfl) rfl (fun c115 => ?_) (fun c115 => ?_)
                                · -- 115 True
                                  refine op_pick_t (ev_hit hN1071 rfl) (ev_hit hN1071 rfl) ?_
                                  refine op_move (ev_hit hN1071 rfl) ?_
                                  refine g_true (j := 19) (dj := 117) (b := true) rfl rfl rfl (ev_hit hN1071 rfl) ?_
                                  refine op_move (ev_hit hN1071 rfl) ?_
                                  refine g_true (j := 19) (dj := 117) (b := true) rfl rfl rfl (ev_hit hN1071 rfl) ?_
                                  refine op_move (ev_base hN1071 rfl s1071_9) ?_
                                  refine g_true (j := 19) (dj := 117) (b := true) rfl rfl rfl (ev_hit hN1071 rfl) ?_
                                  refine op_len_str Try.underlying9 (ev_hit hN1071 rfl) ?_
                                  refine g_true (j := 19) (dj := 117) (b := true) rfl rfl rfl (ev_hit hN1071 rfl) ?_
                                  refine op_eql (ev_hit hN1071 rfl) (ev_hit hN1071 rfl) (fun c121 => ?_) (fun c121 => ?_)
                                  · -- 121 True
                                    refine op_pick_t (ev_hit hN1071 rfl) (ev_hit hN1071 rfl) ?_
                                    refine op_move (ev_hit hN1071 rfl) ?_
                                    refine g_true (j := 25) (dj := 123) (b := true) rfl rfl rfl (ev_hit hN1071 rfl) ?_
                                    refine op_loadA (cs := [(Value.int .i64 (takeV ((keyV x) ++ rl)).1.k), (Value.int .i64 (takeV ((keyV x) ++ rl)).1.n), (Value.string (bs (takeV ((keyV x) ++ rl)).1.s))]) agg50 rfl (ev_hit hN1071 rfl) (fun j u hu => by rw [Nat.zero_add]; exact hB1093.cell hu) ?_
                                    refine g_true (j := 25) (dj := 123) (b := true) rfl rfl rfl (ev_hit hN1071 rfl) ?_
                                    refine op_loadA (cs := [(Value.int .i64 x.k), (Value.int .i64 x.n), (Value.string (bs x.s))]) agg50 rfl (ev_base hN1071 rfl s1071_4) (fun j u hu => by rw [Nat.zero_add]; exact hB1030.cell hu) ?_
                                    refine g_true (j := 25) (dj := 123) (b := true) rfl rfl rfl (ev_hit hN1071 rfl) ?_
                                    by_cases c126 : (takeV ((keyV x) ++ rl)).1.k = x.k ∧ (takeV ((keyV x) ++ rl)).1.n = x.n ∧ (takeV ((keyV x) ++ rl)).1.s = x.s
                                    · -- 126 True
                                      refine op_aeql (xs := [(Value.int .i64 (takeV ((keyV x) ++ rl)).1.k), (Value.int .i64 (takeV ((keyV x) ++ rl)).1.n), (Value.string (bs (takeV ((keyV x) ++ rl)).1.s))]) (ys := [(Value.int .i64 x.k), (Value.int .i64 x.n), (Value.string (bs x.s))]) (b' := true) (ev_hit hN1071 rfl) (ev_hit hN1071 rfl) (eq50 (takeV ((keyV x) ++ rl)).1.k x.k (takeV ((keyV x) ++ rl)).1.n x.n (takeV ((keyV x) ++ rl)).1.s x.s) (decide_eq_true c126) ?_
                                      refine op_pick_t (ev_hit hN1071 rfl) (ev_hit hN1071 rfl) ?_
                                      refine op_assign (ev_hit hN1071 rfl) ?_
                                      refine reg_nil ?_
                                      refine hK1126 _ _ ?_
                                      refine wp_ret ?_
                                      refine ret1 rfl hd1071 (ev_hit hN1071 rfl) ⟨_, rfl, ?_⟩
                                      -- path 20T 24T 29T 35F 60T 63T 66T 71F 76F 82T 89T 96T 104T 110T 115T 121T 126T
                                      exact ⟨hb, rfl⟩
                                    · -- 126 False
                                      exact absurd (by rw [htk]; exact ⟨rfl, rfl, rfl⟩) c126
                                  · -- 121 False
                                    exact absurd (by rw [htk]) c121
                                · -- 115 False
                                  exact absurd (by rw [htk]) c115
                              · -- 110 False
                                exact absurd (veq_of (key_prefix c20 c24 ox oy (by simpa using c96))) c110
                            · -- 104 False
                              exact absurd (keys_stand c20 c24 ox oy) c104
                          · -- 96 False
                            refine op_pick_t (ev_hit hN1071 rfl) (ev_hit hN1071 rfl) ?_
                            refine op_assign (ev_hit hN1071 rfl) ?_
                            refine reg_nil ?_
                            refine hK1125 _ _ ?_
                            refine seq_any fun K1129 hK1129 => ?_
                            refine one_reg ?_
                            refine op_move (ev_hit hN1071 rfl) ?_
                            refine op_move (ev_hit hN1071 rfl) ?_
                            refine g_true (j := 1) (dj := 99) (b := true) rfl rfl rfl (ev_hit hN1071 rfl) ?_
                            refine op_move (ev_base hN1071 rfl s1071_9) ?_
                            refine g_true (j := 1) (dj := 99) (b := true) rfl rfl rfl (ev_hit hN1071 rfl) ?_
                            refine op_move (ev_base hN1071 rfl s1071_10) ?_
                            refine g_true (j := 1) (dj := 99) (b := true) rfl rfl rfl (ev_hit hN1071 rfl) ?_
                            refine op_fn (vs := [(Value.string (bs (keyV x))), (Value.string (bs (keyV y)))]) ok42 ⟨(ev_hit hN1071 rfl), ⟨(ev_hit hN1071 rfl), trivial⟩⟩ (CompareText_ret (keyV x) (keyV y) _ (by first | assumption | omega | (simp only [List.length_append, List.length_cons, List.length_nil, List.length_drop, List.length_take]; omega) | (dsimp only; omega) | decide | (simp [keyV, be8_len]; done)) (by first | assumption | omega | (simp only [List.length_append, List.length_cons, List.length_nil, List.length_drop, List.length_take]; omega) | (dsimp only; omega) | decide | (simp [keyV, be8_len]; done))) ?_
                            rintro _ w1130 ⟨E1131, rfl⟩
                            have E1131 := grown_of_below E1131
                            have z_w1130 := E1131.size
                            have hv := hv.keep0 E1131
                            have hB1030 := hB1030.keep0 E1131
                            have hB1034 := hB1034.keep0 E1131
                            have hB1038 := hB1038.keep0 E1131
                            have hO1084 := hO1084.keep0 E1131
                            have hB1093 := hB1093.keep0 E1131
                            have hb := below_step0 hb E1131 hb.size
                            refine g_true (j := 1) (dj := 99) (b := true) rfl rfl rfl (ev_hit hN1071 rfl) ?_
                            refine op_move (ev_hit hN1071 rfl) ?_
                            refine g_true (j := 1) (dj := 99) (b := true) rfl rfl rfl (ev_hit hN1071 rfl) ?_
                            refine op_eql (ev_hit hN1071 rfl) (ev_hit hN1071 rfl) (fun c104 => ?_) (fun c104 => ?_)
                            · -- 104 True
                              refine op_pick_t (ev_hit hN1071 rfl) (ev_hit hN1071 rfl) ?_
                              refine op_move (ev_hit hN1071 rfl) ?_
                              refine g_true (j := 8) (dj := 106) (b := true) rfl rfl rfl (ev_hit hN1071 rfl) ?_
                              refine op_move (ev_hit hN1071 rfl) ?_
                              refine g_true (j := 8) (dj := 106) (b := true) rfl rfl rfl (ev_hit hN1071 rfl) ?_
                              refine op_loadA (cs := [(Value.int .i64 x.k), (Value.int .i64 x.n), (Value.string (bs x.s))]) agg50 rfl (ev_base hN1071 rfl s1071_4) (fun j u hu => by rw [Nat.zero_add]; exact hB1030.cell hu) ?_
                              refine g_true (j := 8) (dj := 106) (b := true) rfl rfl rfl (ev_hit hN1071 rfl) ?_
                              refine op_loadA (cs := [(Value.int .i64 y.k), (Value.int .i64 y.n), (Value.string (bs y.s))]) agg50 rfl (ev_base hN1071 rfl s1071_5) (fun j u hu => by rw [Nat.zero_add]; exact hB1034.cell hu) ?_
                              refine g_true (j := 8) (dj := 106) (b := true) rfl rfl rfl (ev_hit hN1071 rfl) ?_
                              by_cases c110 : x.k = y.k ∧ x.n = y.n ∧ x.s = y.s
                              · -- 110 True
                                exact absurd (by rw [vl_ext c110]; simp) c96
                              · -- 110 False
                                refine op_aeql (xs := [(Value.int .i64 x.k), (Value.int .i64 x.n), (Value.string (bs x.s))]) (ys := [(Value.int .i64 y.k), (Value.int .i64 y.n), (Value.string (bs y.s))]) (b' := false) (ev_hit hN1071 rfl) (ev_hit hN1071 rfl) (eq50 x.k y.k x.n y.n x.s y.s) (decide_eq_false c110) ?_
                                refine g_true (j := 8) (dj := 106) (b := true) rfl rfl rfl (ev_hit hN1071 rfl) ?_
                                refine op_eqb Try.underlying4 (ev_hit hN1071 rfl) (ev_hit hN1071 rfl) ?_
                                refine op_pick_t (ev_hit hN1071 rfl) (ev_hit hN1071 rfl) ?_
                                refine op_move (ev_hit hN1071 rfl) ?_
                                refine g_true (j := 15) (dj := 113) (b := true) rfl rfl rfl (ev_hit hN1071 rfl) ?_
                                refine op_move (ev_hit hN1071 rfl) ?_
                                refine g_true (j := 15) (dj := 113) (b := true) rfl rfl rfl (ev_hit hN1071 rfl) ?_
                                refine op_eql (ev_hit hN1071 rfl) rfl (fun c115 => ?_) (fun c115 => ?_)
                                · -- 115 True
                                  refine op_pick_t (ev_hit hN1071 rfl) (ev_hit hN1071 rfl) ?_
                                  refine op_move (ev_hit hN1071 rfl) ?_
                                  refine g_true (j := 19) (dj := 117) (b := true) rfl rfl rfl (ev_hit hN1071 rfl) ?_
                                  refine op_move (ev_hit hN1071 rfl) ?_
                                  refine g_true (j := 19) (dj := 117) (b := true) rfl rfl rfl (ev_hit hN1071 rfl) ?_
                                  refine op_move (ev_base hN1071 rfl s1071_9) ?_
                                  refine g_true (j := 19) (dj := 117) (b := true) rfl rfl rfl (ev_hit hN1071 rfl) ?_
                                  refine op_len_str Try.underlying9 (ev_hit hN1071 rfl) ?_
                                  refine g_true (j := 19) (dj := 117) (b := true) rfl rfl rfl (ev_hit hN1071 rfl) ?_
                                  refine op_eql (ev_hit hN1071 rfl) (ev_hit hN1071 rfl) (fun c121 => ?_) (fun c121 => ?_)
                                  · -- 121 True
                                    refine op_pick_t (ev_hit hN1071 rfl) (ev_hit hN1071 rfl) ?_
                                    refine op_move (ev_hit hN1071 rfl) ?_
                                    refine g_true (j := 25) (dj := 123) (b := true) rfl rfl rfl (ev_hit hN1071 rfl) ?_
                                    refine op_loadA (cs := [(Value.int .i64 (takeV ((keyV x) ++ rl)).1.k), (Value.int .i64 (takeV ((keyV x) ++ rl)).1.n), (Value.string (bs (takeV ((keyV x) ++ rl)).1.s))]) agg50 rfl (ev_hit hN1071 rfl) (fun j u hu => by rw [Nat.zero_add]; exact hB1093.cell hu) ?_
                                    refine g_true (j := 25) (dj := 123) (b := true) rfl rfl rfl (ev_hit hN1071 rfl) ?_
                                    refine op_loadA (cs := [(Value.int .i64 x.k), (Value.int .i64 x.n), (Value.string (bs x.s))]) agg50 rfl (ev_base hN1071 rfl s1071_4) (fun j u hu => by rw [Nat.zero_add]; exact hB1030.cell hu) ?_
                                    refine g_true (j := 25) (dj := 123) (b := true) rfl rfl rfl (ev_hit hN1071 rfl) ?_
                                    by_cases c126 : (takeV ((keyV x) ++ rl)).1.k = x.k ∧ (takeV ((keyV x) ++ rl)).1.n = x.n ∧ (takeV ((keyV x) ++ rl)).1.s = x.s
                                    · -- 126 True
                                      refine op_aeql (xs := [(Value.int .i64 (takeV ((keyV x) ++ rl)).1.k), (Value.int .i64 (takeV ((keyV x) ++ rl)).1.n), (Value.string (bs (takeV ((keyV x) ++ rl)).1.s))]) (ys := [(Value.int .i64 x.k), (Value.int .i64 x.n), (Value.string (bs x.s))]) (b' := true) (ev_hit hN1071 rfl) (ev_hit hN1071 rfl) (eq50 (takeV ((keyV x) ++ rl)).1.k x.k (takeV ((keyV x) ++ rl)).1.n x.n (takeV ((keyV x) ++ rl)).1.s x.s) (decide_eq_true c126) ?_
                                      refine op_pick_t (ev_hit hN1071 rfl) (ev_hit hN1071 rfl) ?_
                                      refine op_assign (ev_hit hN1071 rfl) ?_
                                      refine reg_nil ?_
                                      refine hK1129 _ _ ?_
                                      refine wp_ret ?_
                                      refine ret1 rfl hd1071 (ev_hit hN1071 rfl) ⟨_, rfl, ?_⟩
                                      -- path 20T 24T 29T 35F 60T 63T 66T 71F 76F 82T 89T 96F 104T 110F 115T 121T 126T
                                      exact ⟨hb, rfl⟩
                                    · -- 126 False
                                      exact absurd (by rw [htk]; exact ⟨rfl, rfl, rfl⟩) c126
                                  · -- 121 False
                                    exact absurd (by rw [htk]) c121
                                · -- 115 False
                                  exact absurd (by rw [htk]) c115
                            · -- 104 False
                              exact absurd (keys_stand c20 c24 ox oy) c104
                        · -- 89 False
                          refine op_move (ev_hit hN1071 rfl) ?_
                          refine g_false (j := 5) (dj := 90) (b := true) rfl rfl rfl (ev_hit hN1071 rfl) rfl rfl ?_
                          refine g_false (j := 5) (dj := 90) (b := true) rfl rfl rfl (ev_hit hN1071 rfl) rfl rfl ?_
                          refine g_false (j := 5) (dj := 90) (b := true) rfl rfl rfl (ev_hit hN1071 rfl) rfl rfl ?_
                          refine g_false (j := 5) (dj := 90) (b := true) rfl rfl rfl (ev_hit hN1071 rfl) rfl rfl ?_
                          refine g_false (j := 5) (dj := 90) (b := true) rfl rfl rfl (ev_hit hN1071 rfl) rfl rfl ?_
                          refine g_false (j := 5) (dj := 90) (b := true) rfl rfl rfl (ev_hit hN1071 rfl) rfl rfl ?_
                          refine op_pick_f (ev_hit hN1071 rfl) rfl ?_
                          refine op_assign (ev_hit hN1071 rfl) ?_
                          refine reg_nil ?_
                          refine hK1125 _ _ ?_
                          refine seq_any fun K1132 hK1132 => ?_
                          refine one_reg ?_
                          refine op_move (ev_hit hN1071 rfl) ?_
                          refine op_move (ev_hit hN1071 rfl) ?_
                          refine g_true (j := 1) (dj := 99) (b := true) rfl rfl rfl (ev_hit hN1071 rfl) ?_
                          refine op_move (ev_base hN1071 rfl s1071_9) ?_
                          refine g_true (j := 1) (dj := 99) (b := true) rfl rfl rfl (ev_hit hN1071 rfl) ?_
                          refine op_move (ev_base hN1071 rfl s1071_10) ?_
                          refine g_true (j := 1) (dj := 99) (b := true) rfl rfl rfl (ev_hit hN1071 rfl) ?_
                          refine op_fn (vs := [(Value.string (bs (keyV x))), (Value.string (bs (keyV y)))]) ok42 ⟨(ev_hit hN1071 rfl), ⟨(ev_hit hN1071 rfl), trivial⟩⟩ (CompareText_ret (keyV x) (keyV y) _ (by first | assumption | omega | (simp only [List.length_append, List.length_cons, List.length_nil, List.length_drop, List.length_take]; omega) | (dsimp only; omega) | decide | (simp [keyV, be8_len]; done)) (by first | assumption | omega | (simp only [List.length_append, List.length_cons, List.length_nil, List.length_drop, List.length_take]; omega) | (dsimp only; omega) | decide | (simp [keyV, be8_len]; done))) ?_
                          rintro _ w1133 ⟨E1134, rfl⟩
                          have E1134 := grown_of_below E1134
                          have z_w1133 := E1134.size
                          have hv := hv.keep0 E1134
                          have hB1030 := hB1030.keep0 E1134
                          have hB1034 := hB1034.keep0 E1134
                          have hB1038 := hB1038.keep0 E1134
                          have hO1084 := hO1084.keep0 E1134
                          have hB1093 := hB1093.keep0 E1134
                          have hb := below_step0 hb E1134 hb.size
                          refine g_true (j := 1) (dj := 99) (b := true) rfl rfl rfl (ev_hit hN1071 rfl) ?_
                          refine op_move (ev_hit hN1071 rfl) ?_
                          refine g_true (j := 1) (dj := 99) (b := true) rfl rfl rfl (ev_hit hN1071 rfl) ?_
                          refine op_eql (ev_hit hN1071 rfl) (ev_hit hN1071 rfl) (fun c104 => ?_) (fun c104 => ?_)
                          · -- 104 True
                            refine op_pick_t (ev_hit hN1071 rfl) (ev_hit hN1071 rfl) ?_
                            refine op_move (ev_hit hN1071 rfl) ?_
                            refine g_true (j := 8) (dj := 106) (b := true) rfl rfl rfl (ev_hit hN1071 rfl) ?_
                            refine op_move (ev_hit hN1071 rfl) ?_
                            refine g_true (j := 8) (dj := 106) (b := true) rfl rfl rfl (ev_hit hN1071 rfl) ?_
                            refine op_loadA (cs := [(Value.int .i64 x.k), (Value.int .i64 x.n), (Value.string (bs x.s))]) agg50 rfl (ev_base hN1071 rfl s1071_4) (fun j u hu => by rw [Nat.zero_add]; exact hB1030.cell hu) ?_
                            refine g_true (j := 8) (dj := 106) (b := true) rfl rfl rfl (ev_hit hN1071 rfl) ?_
                            refine op_loadA (cs := [(Value.int .i64 y.k), (Value.int .i64 y.n), (Value.string (bs y.s))]) agg50 rfl (ev_base hN1071 rfl s1071_5) (fun j u hu => by rw [Nat.zero_add]; exact hB1034.cell hu) ?_
                            refine g_true (j := 8) (dj := 106) (b := true) rfl rfl rfl (ev_hit hN1071 rfl) ?_
                            by_cases c110 : x.k = y.k ∧ x.n = y.n ∧ x.s = y.s
                            · -- 110 True
                              exact absurd (by rw [vl_ext c110]; exact Int.le_refl _) c89
                            · -- 110 False
                              refine op_aeql (xs := [(Value.int .i64 x.k), (Value.int .i64 x.n), (Value.string (bs x.s))]) (ys := [(Value.int .i64 y.k), (Value.int .i64 y.n), (Value.string (bs y.s))]) (b' := false) (ev_hit hN1071 rfl) (ev_hit hN1071 rfl) (eq50 x.k y.k x.n y.n x.s y.s) (decide_eq_false c110) ?_
                              refine g_true (j := 8) (dj := 106) (b := true) rfl rfl rfl (ev_hit hN1071 rfl) ?_
                              refine op_eqb Try.underlying4 (ev_hit hN1071 rfl) (ev_hit hN1071 rfl) ?_
                              refine op_pick_t (ev_hit hN1071 rfl) (ev_hit hN1071 rfl) ?_
                              refine op_move (ev_hit hN1071 rfl) ?_
                              refine g_true (j := 15) (dj := 113) (b := true) rfl rfl rfl (ev_hit hN1071 rfl) ?_
                              refine op_move (ev_hit hN1071 rfl) ?_
                              refine g_true (j := 15) (dj := 113) (b := true) rfl rfl rfl (ev_hit hN1071 rfl) ?_
                              refine op_eql (ev_hit hN1071 rfl) rfl (fun c115 => ?_) (fun c115 => ?_)
                              · -- 115 True
                                refine op_pick_t (ev_hit hN1071 rfl) (ev_hit hN1071 rfl) ?_
                                refine op_move (ev_hit hN1071 rfl) ?_
                                refine g_true (j := 19) (dj := 117) (b := true) rfl rfl rfl (ev_hit hN1071 rfl) ?_
                                refine op_move (ev_hit hN1071 rfl) ?_
                                refine g_true (j := 19) (dj := 117) (b := true) rfl rfl rfl (ev_hit hN1071 rfl) ?_
                                refine op_move (ev_base hN1071 rfl s1071_9) ?_
                                refine g_true (j := 19) (dj := 117) (b := true) rfl rfl rfl (ev_hit hN1071 rfl) ?_
                                refine op_len_str Try.underlying9 (ev_hit hN1071 rfl) ?_
                                refine g_true (j := 19) (dj := 117) (b := true) rfl rfl rfl (ev_hit hN1071 rfl) ?_
                                refine op_eql (ev_hit hN1071 rfl) (ev_hit hN1071 rfl) (fun c121 => ?_) (fun c121 => ?_)
                                · -- 121 True
                                  refine op_pick_t (ev_hit hN1071 rfl) (ev_hit hN1071 rfl) ?_
                                  refine op_move (ev_hit hN1071 rfl) ?_
                                  refine g_true (j := 25) (dj := 123) (b := true) rfl rfl rfl (ev_hit hN1071 rfl) ?_
                                  refine op_loadA (cs := [(Value.int .i64 (takeV ((keyV x) ++ rl)).1.k), (Value.int .i64 (takeV ((keyV x) ++ rl)).1.n), (Value.string (bs (takeV ((keyV x) ++ rl)).1.s))]) agg50 rfl (ev_hit hN1071 rfl) (fun j u hu => by rw [Nat.zero_add]; exact hB1093.cell hu) ?_
                                  refine g_true (j := 25) (dj := 123) (b := true) rfl rfl rfl (ev_hit hN1071 rfl) ?_
                                  refine op_loadA (cs := [(Value.int .i64 x.k), (Value.int .i64 x.n), (Value.string (bs x.s))]) agg50 rfl (ev_base hN1071 rfl s1071_4) (fun j u hu => by rw [Nat.zero_add]; exact hB1030.cell hu) ?_
                                  refine g_true (j := 25) (dj := 123) (b := true) rfl rfl rfl (ev_hit hN1071 rfl) ?_
                                  by_cases c126 : (takeV ((keyV x) ++ rl)).1.k = x.k ∧ (takeV ((keyV x) ++ rl)).1.n = x.n ∧ (takeV ((keyV x) ++ rl)).1.s = x.s
                                  · -- 126 True
                                    refine op_aeql (xs := [(Value.int .i64 (takeV ((keyV x) ++ rl)).1.k), (Value.int .i64 (takeV ((keyV x) ++ rl)).1.n), (Value.string (bs (takeV ((keyV x) ++ rl)).1.s))]) (ys := [(Value.int .i64 x.k), (Value.int .i64 x.n), (Value.string (bs x.s))]) (b' := true) (ev_hit hN1071 rfl) (ev_hit hN1071 rfl) (eq50 (takeV ((keyV x) ++ rl)).1.k x.k (takeV ((keyV x) ++ rl)).1.n x.n (takeV ((keyV x) ++ rl)).1.s x.s) (decide_eq_true c126) ?_
                                    refine op_pick_t (ev_hit hN1071 rfl) (ev_hit hN1071 rfl) ?_
                                    refine op_assign (ev_hit hN1071 rfl) ?_
                                    refine reg_nil ?_
                                    refine hK1132 _ _ ?_
                                    refine wp_ret ?_
                                    refine ret1 rfl hd1071 (ev_hit hN1071 rfl) ⟨_, rfl, ?_⟩
                                    -- path 20T 24T 29T 35F 60T 63T 66T 71F 76F 82T 89F 104T 110F 115T 121T 126T
                                    exact ⟨hb, rfl⟩
                                  · -- 126 False
                                    exact absurd (by rw [htk]; exact ⟨rfl, rfl, rfl⟩) c126
                                · -- 121 False
                                  exact absurd (by rw [htk]) c121
                              · -- 115 False
                                exact absurd (by rw [htk]) c115
                          · -- 104 False
                            exact absurd (keys_stand c20 c24 ox oy) c104
                      · -- 82 False
                        exact absurd (cmpW_trans (x := x) (y := y) (z := z) (by omega) (by omega)) c82
                · -- 66 False
                  exact absurd (veq_of (cmpW_zero.1 c63)) c66
              · -- 63 False
                refine g_true (j := 6) (dj := 61) (b := true) rfl rfl rfl (ev_hit hN1071 rfl) ?_
                refine op_loadA (cs := [(Value.int .i64 x.k), (Value.int .i64 x.n), (Value.string (bs x.s))]) agg50 rfl (ev_base hN1071 rfl s1071_4) (fun j u hu => by rw [Nat.zero_add]; exact hB1030.cell hu) ?_
                refine g_true (j := 6) (dj := 61) (b := true) rfl rfl rfl (ev_hit hN1071 rfl) ?_
                refine op_loadA (cs := [(Value.int .i64 y.k), (Value.int .i64 y.n), (Value.string (bs y.s))]) agg50 rfl (ev_base hN1071 rfl s1071_5) (fun j u hu => by rw [Nat.zero_add]; exact hB1034.cell hu) ?_
                refine g_true (j := 6) (dj := 61) (b := true) rfl rfl rfl (ev_hit hN1071 rfl) ?_
                by_cases c66 : x.k = y.k ∧ x.n = y.n ∧ x.s = y.s
                · -- 66 True
                  exact absurd (cmpW_zero.2 (vl_ext c66)) c63
                · -- 66 False
                  refine op_aeql (xs := [(Value.int .i64 x.k), (Value.int .i64 x.n), (Value.string (bs x.s))]) (ys := [(Value.int .i64 y.k), (Value.int .i64 y.n), (Value.string (bs y.s))]) (b' := false) (ev_hit hN1071 rfl) (ev_hit hN1071 rfl) (eq50 x.k y.k x.n y.n x.s y.s) (decide_eq_false c66) ?_
                  refine g_true (j := 6) (dj := 61) (b := true) rfl rfl rfl (ev_hit hN1071 rfl) ?_
                  refine op_eqb Try.underlying4 (ev_hit hN1071 rfl) (ev_hit hN1071 rfl) ?_
                  refine op_pick_t (ev_hit hN1071 rfl) (ev_hit hN1071 rfl) ?_
                  refine op_move (ev_hit hN1071 rfl) ?_
                  refine g_true (j := 14) (dj := 69) (b := true) rfl rfl rfl (ev_hit hN1071 rfl) ?_
                  refine op_move (ev_hit hN1071 rfl) ?_
                  refine g_true (j := 14) (dj := 69) (b := true) rfl rfl rfl (ev_hit hN1071 rfl) ?_
                  refine op_neq (ev_hit hN1071 rfl) rfl (fun c71 => ?_) (fun c71 => ?_)
                  · -- 71 True
                    refine g_true (j := 14) (dj := 69) (b := true) rfl rfl rfl (ev_hit hN1071 rfl) ?_
                    refine op_move (ev_hit hN1071 rfl) ?_
                    refine g_false (j := 17) (dj := 72) (b := false) rfl rfl rfl (ev_hit hN1071 rfl) rfl rfl ?_
                    refine g_false (j := 17) (dj := 72) (b := false) rfl rfl rfl (ev_hit hN1071 rfl) rfl rfl ?_
                    refine g_false (j := 17) (dj := 72) (b := false) rfl rfl rfl (ev_hit hN1071 rfl) rfl rfl ?_
                    refine g_false (j := 17) (dj := 72) (b := false) rfl rfl rfl (ev_hit hN1071 rfl) rfl rfl ?_
                    refine g_true (j := 14) (dj := 69) (b := true) rfl rfl rfl (ev_hit hN1071 rfl) ?_
                    refine op_pick_t (ev_hit hN1071 rfl) rfl ?_
                    refine g_true (j := 14) (dj := 69) (b := true) rfl rfl rfl (ev_hit hN1071 rfl) ?_
                    refine op_move (ev_hit hN1071 rfl) ?_
                    refine g_false (j := 23) (dj := 78) (b := false) rfl rfl rfl (ev_hit hN1071 rfl) rfl rfl ?_
                    refine g_false (j := 23) (dj := 78) (b := false) rfl rfl rfl (ev_hit hN1071 rfl) rfl rfl ?_
                    refine g_false (j := 23) (dj := 78) (b := false) rfl rfl rfl (ev_hit hN1071 rfl) rfl rfl ?_
                    refine g_false (j := 23) (dj := 78) (b := false) rfl rfl rfl (ev_hit hN1071 rfl) rfl rfl ?_
                    refine g_true (j := 14) (dj := 69) (b := true) rfl rfl rfl (ev_hit hN1071 rfl) ?_
                    refine op_pick_t (ev_hit hN1071 rfl) rfl ?_
                    refine op_pick_t (ev_hit hN1071 rfl) (ev_hit hN1071 rfl) ?_
                    refine op_assign (ev_hit hN1071 rfl) ?_
                    refine reg_nil ?_
                    refine hK1098 _ _ ?_
                    refine seq_any fun K1135 hK1135 => ?_
                    refine one_reg ?_
                    refine op_move (ev_base hN1071 rfl s1071_9) ?_
                    refine op_len_str Try.underlying9 (ev_hit hN1071 rfl) ?_
                    refine op_move (ev_base hN1071 rfl s1071_10) ?_
                    refine op_len_str Try.underlying9 (ev_hit hN1071 rfl) ?_
                    refine op_leq (ev_hit hN1071 rfl) (ev_hit hN1071 rfl) (fun c89 => ?_) (fun c89 => ?_)
                    · -- 89 True
                      refine op_move (ev_hit hN1071 rfl) ?_
                      refine g_true (j := 5) (dj := 90) (b := true) rfl rfl rfl (ev_hit hN1071 rfl) ?_
                      refine op_move (ev_base hN1071 rfl s1071_10) ?_
                      refine g_true (j := 5) (dj := 90) (b := true) rfl rfl rfl (ev_hit hN1071 rfl) ?_
                      refine op_move (ev_base hN1071 rfl s1071_9) ?_
                      refine g_true (j := 5) (dj := 90) (b := true) rfl rfl rfl (ev_hit hN1071 rfl) ?_
                      refine op_len_str Try.underlying9 (ev_hit hN1071 rfl) ?_
                      refine g_true (j := 5) (dj := 90) (b := true) rfl rfl rfl (ev_hit hN1071 rfl) ?_
                      refine op_slice_str (lo := 0) (hi := (keyV x).length) Try.underlying9 (ev_hit hN1071 rfl) (.inl ⟨rfl, rfl⟩) (.inr ⟨_, _, rfl, (ev_hit hN1071 rfl)⟩) (by omega) (by omega) ?_
                      refine g_true (j := 5) (dj := 90) (b := true) rfl rfl rfl (ev_hit hN1071 rfl) ?_
                      refine op_move (ev_base hN1071 rfl s1071_9) ?_
                      refine g_true (j := 5) (dj := 90) (b := true) rfl rfl rfl (ev_hit hN1071 rfl) ?_
                      refine op_seql (ev_hit hN1071 rfl) (ev_hit hN1071 rfl) (fun c96 => ?_) (fun c96 => ?_)
                      · -- 96 True
                        refine op_pick_t (ev_hit hN1071 rfl) (ev_hit hN1071 rfl) ?_
                        refine op_assign (ev_hit hN1071 rfl) ?_
                        refine reg_nil ?_
                        refine hK1135 _ _ ?_
                        refine seq_any fun K1136 hK1136 => ?_
                        refine one_reg ?_
                        refine op_move (ev_hit hN1071 rfl) ?_
                        refine op_move (ev_hit hN1071 rfl) ?_
                        refine g_true (j := 1) (dj := 99) (b := true) rfl rfl rfl (ev_hit hN1071 rfl) ?_
                        refine op_move (ev_base hN1071 rfl s1071_9) ?_
                        refine g_true (j := 1) (dj := 99) (b := true) rfl rfl rfl (ev_hit hN1071 rfl) ?_
                        refine op_move (ev_base hN1071 rfl s1071_10) ?_
                        refine g_true (j := 1) (dj := 99) (b := true) rfl rfl rfl (ev_hit hN1071 rfl) ?_
                        refine op_fn (vs := [(Value.string (bs (keyV x))), (Value.string (bs (keyV y)))]) ok42 ⟨(ev_hit hN1071 rfl), ⟨(ev_hit hN1071 rfl), trivial⟩⟩ (CompareText_ret (keyV x) (keyV y) _ (by first | assumption | omega | (simp only [List.length_append, List.length_cons, List.length_nil, List.length_drop, List.length_take]; omega) | (dsimp only; omega) | decide | (simp [keyV, be8_len]; done)) (by first | assumption | omega | (simp only [List.length_append, List.length_cons, List.length_nil, List.length_drop, List.length_take]; omega) | (dsimp only; omega) | decide | (simp [keyV, be8_len]; done))) ?_
                        rintro _ w1137 ⟨E1138, rfl⟩
                        have E1138 := grown_of_below E1138
                        have z_w1137 := E1138.size
                        have hv := hv.keep0 E1138
                        have hB1030 := hB1030.keep0 E1138
                        have hB1034 := hB1034.keep0 E1138
                        have hB1038 := hB1038.keep0 E1138
                        have hO1084 := hO1084.keep0 E1138
                        have hB1093 := hB1093.keep0 E1138
                        have hb := below_step0 hb E1138 hb.size
                        refine g_true (j := 1) (dj := 99) (b := true) rfl rfl rfl (ev_hit hN1071 rfl) ?_
                        refine op_move (ev_hit hN1071 rfl) ?_
                        refine g_true (j := 1) (dj := 99) (b := true) rfl rfl rfl (ev_hit hN1071 rfl) ?_
                        refine op_eql (ev_hit hN1071 rfl) (ev_hit hN1071 rfl) (fun c104 => ?_) (fun c104 => ?_)
                        · -- 104 True
                          refine op_pick_t (ev_hit hN1071 rfl) (ev_hit hN1071 rfl) ?_
                          refine op_move (ev_hit hN1071 rfl) ?_
                          refine g_true (j := 8) (dj := 106) (b := true) rfl rfl rfl (ev_hit hN1071 rfl) ?_
                          refine op_move (ev_hit hN1071 rfl) ?_
                          refine g_true (j := 8) (dj := 106) (b := true) rfl rfl rfl (ev_hit hN1071 rfl) ?_
                          refine op_loadA (cs := [(Value.int .i64 x.k), (Value.int .i64 x.n), (Value.string (bs x.s))]) agg50 rfl (ev_base hN1071 rfl s1071_4) (fun j u hu => by rw [Nat.zero_add]; exact hB1030.cell hu) ?_
                          refine g_true (j := 8) (dj := 106) (b := true) rfl rfl rfl (ev_hit hN1071 rfl) ?_
                          refine op_loadA (cs := [(Value.int .i64 y.k), (Value.int .i64 y.n), (Value.string (bs y.s))]) agg50 rfl (ev_base hN1071 rfl s1071_5) (fun j u hu => by rw [Nat.zero_add]; exact hB1034.cell hu) ?_
                          refine g_true (j := 8) (dj := 106) (b := true) rfl rfl rfl (ev_hit hN1071 rfl) ?_
                          by_cases c110 : x.k = y.k ∧ x.n = y.n ∧ x.s = y.s
                          · -- 110 True
                            refine op_aeql (xs := [(Value.int .i64 x.k), (Value.int .i64 x.n), (Value.string (bs x.s))]) (ys := [(Value.int .i64 y.k), (Value.int .i64 y.n), (Value.string (bs y.s))]) (b' := true) (ev_hit hN1071 rfl) (ev_hit hN1071 rfl) (eq50 x.k y.k x.n y.n x.s y.s) (decide_eq_true c110) ?_
                            refine g_true (j := 8) (dj := 106) (b := true) rfl rfl rfl (ev_hit hN1071 rfl) ?_
                            refine op_eqb Try.underlying4 (ev_hit hN1071 rfl) (ev_hit hN1071 rfl) ?_
                            refine op_pick_t (ev_hit hN1071 rfl) (ev_hit hN1071 rfl) ?_
                            refine op_move (ev_hit hN1071 rfl) ?_
                            refine g_true (j := 15) (dj := 113) (b := true) rfl rfl rfl (ev_hit hN1071 rfl) ?_
                            refine op_move (ev_hit hN1071 rfl) ?_
                            refine g_true (j := 15) (dj := 113) (b := true) rfl rfl rfl (ev_hit hN1071 rfl) ?_
                            refine op_eql (ev_hit hN1071 rfl) rfl (fun c115 => ?_) (fun c115 => ?_)
                            · -- 115 True
                              refine op_pick_t (ev_hit hN1071 rfl) (ev_hit hN1071 rfl) ?_
                              refine op_move (ev_hit hN1071 rfl) ?_
                              refine g_true (j := 19) (dj := 117) (b := true) rfl rfl rfl (ev_hit hN1071 rfl) ?_
                              refine op_move (ev_hit hN1071 rfl) ?_
                              refine g_true (j := 19) (dj := 117) (b := true) rfl rfl rfl (ev_hit hN1071 rfl) ?_
                              refine op_move (ev_base hN1071 rfl s1071_9) ?_
                              refine g_true (j := 19) (dj := 117) (b := true) rfl rfl rfl (ev_hit hN1071 rfl) ?_
                              refine op_len_str Try.underlying9 (ev_hit hN1071 rfl) ?_
                              refine g_true (j := 19) (dj := 117) (b := true) rfl rfl rfl (ev_hit hN1071 rfl) ?_
                              refine op_eql (ev_hit hN1071 rfl) (ev_hit hN1071 rfl) (fun c121 => ?_) (fun c121 => ?_)
                              · -- 121 True
                                refine op_pick_t (ev_hit hN1071 rfl) (ev_hit hN1071 rfl) ?_
                                refine op_move (ev_hit hN1071 rfl) ?_
                                refine g_true (j := 25) (dj := 123) (b := true) rfl rfl rfl (ev_hit hN1071 rfl) ?_
                                refine op_loadA (cs := [(Value.int .i64 (takeV ((keyV x) ++ rl)).1.k), (Value.int .i64 (takeV ((keyV x) ++ rl)).1.n), (Value.string (bs (takeV ((keyV x) ++ rl)).1.s))]) agg50 rfl (ev_hit hN1071 rfl) (fun j u hu => by rw [Nat.zero_add]; exact hB1093.cell hu) ?_
                                refine g_true (j := 25) (dj := 123) (b := true) rfl rfl rfl (ev_hit hN1071 rfl) ?_
                                refine op_loadA (cs := [(Value.int .i64 x.k), (Value.int .i64 x.n), (Value.string (bs x.s))]) agg50 rfl (ev_base hN1071 rfl s1071_4) (fun j u hu => by rw [Nat.zero_add]; exact hB1030.cell hu) ?_
                                refine g_true (j := 25) (dj := 123) (b := true) rfl rfl rfl (ev_hit hN1071 rfl) ?_
                                by_cases c126 : (takeV ((keyV x) ++ rl)).1.k = x.k ∧ (takeV ((keyV x) ++ rl)).1.n = x.n ∧ (takeV ((keyV x) ++ rl)).1.s = x.s
                                · -- 126 True
                                  refine op_aeql (xs := [(Value.int .i64 (takeV ((keyV x) ++ rl)).1.k), (Value.int .i64 (takeV ((keyV x) ++ rl)).1.n), (Value.string (bs (takeV ((keyV x) ++ rl)).1.s))]) (ys := [(Value.int .i64 x.k), (Value.int .i64 x.n), (Value.string (bs x.s))]) (b' := true) (ev_hit hN1071 rfl) (ev_hit hN1071 rfl) (eq50 (takeV ((keyV x) ++ rl)).1.k x.k (takeV ((keyV x) ++ rl)).1.n x.n (takeV ((keyV x) ++ rl)).1.s x.s) (decide_eq_true c126) ?_
                                  refine op_pick_t (ev_hit hN1071 rfl) (ev_hit hN1071 rfl) ?_
                                  refine op_assign (ev_hit hN1071 rfl) ?_
                                  refine reg_nil ?_
                                  refine hK1136 _ _ ?_
                                  refine wp_ret ?_
                                  refine ret1 rfl hd1071 (ev_hit hN1071 rfl) ⟨_, rfl, ?_⟩
                                  -- path 20T 24T 29T 35F 60T 63F 66F 71T 89T 96T 104T 110T 115T 121T 126T
                                  exact ⟨hb, rfl⟩
                                · -- 126 False
                                  exact absurd (by rw [htk]; exact ⟨rfl, rfl, rfl⟩) c126
                              · -- 121 False
                                exact absurd (by rw [htk]) c121
                            · -- 115 False
                              exact absurd (by rw [htk]) c115
                          · -- 110 False
                            exact absurd (veq_of (key_prefix c20 c24 ox oy (by simpa using c96))) c110
                        · -- 104 False
                          exact absurd (keys_stand c20 c24 ox oy) c104
                      · -- 96 False
                        refine op_pick_t (ev_hit hN1071 rfl) (ev_hit hN1071 rfl) ?_
                        refine op_assign (ev_hit hN1071 rfl) ?_
                        refine reg_nil ?_
                        refine hK1135 _ _ ?_
                        refine seq_any fun K1139 hK1139 => ?_
                        refine one_reg ?_
                        refine op_move (ev_hit hN1071 rfl) ?_
                        refine op_move (ev_hit hN1071 rfl) ?_
                        refine g_true (j := 1) (dj := 99) (b := true) rfl rfl rfl (ev_hit hN1071 rfl) ?_
                        refine op_move (ev_base hN1071 rfl s1071_9) ?_
                        refine g_true (j := 1) (dj := 99) (b := true) rfl rfl rfl (ev_hit hN1071 rfl) ?_
                        refine op_move (ev_base hN1071 rfl s1071_10) ?_
                        refine g_true (j := 1) (dj := 99) (b := true) rfl rfl rfl (ev_hit hN1071 rfl) ?_
                        refine op_fn (vs := [(Value.string (bs (keyV x))), (Value.string (bs (keyV y)))]) ok42 ⟨(ev_hit hN1071 rfl), ⟨(ev_hit hN1071 rfl), trivial⟩⟩ (CompareText_ret (keyV x) (keyV y) _ (by first | assumption | omega | (simp only [List.length_append, List.length_cons, List.length_nil, List.length_drop, List.length_take]; omega) | (dsimp only; omega) | decide | (simp [keyV, be8_len]; done)) (by first | assumption | omega | (simp only [List.length_append, List.length_cons, List.length_nil, List.length_drop, List.length_take]; omega) | (dsimp only; omega) | decide | (simp [keyV, be8_len]; done))) ?_
                        rintro _ w1140 ⟨E1141, rfl⟩
                        have E1141 := grown_of_below E1141
                        have z_w1140 := E1141.size
                        have hv := hv.keep0 E1141
                        have hB1030 := hB1030.keep0 E1141
                        have hB1034 := hB1034.keep0 E1141
                        have hB1038 := hB1038.keep0 E1141
                        have hO1084 := hO1084.keep0 E1141
                        have hB1093 := hB1093.keep0 E1141
                        have hb := below_step0 hb E1141 hb.size
                        refine g_true (j := 1) (dj := 99) (b := true) rfl rfl rfl (ev_hit hN1071 rfl) ?_
                        refine op_move (ev_hit hN1071 rfl) ?_
                        refine g_true (j := 1) (dj := 99) (b := true) rfl rfl rfl (ev_hit hN1071 rfl) ?_
                        refine op_eql (ev_hit hN1071 rfl) (ev_hit hN1071 rfl) (fun c104 => ?_) (fun c104 => ?_)
                        · -- 104 True
                          refine op_pick_t (ev_hit hN1071 rfl) (ev_hit hN1071 rfl) ?_
                          refine op_move (ev_hit hN1071 rfl) ?_
                          refine g_true (j := 8) (dj := 106) (b := true) rfl rfl rfl (ev_hit hN1071 rfl) ?_
                          refine op_move (ev_hit hN1071 rfl) ?_
                          refine g_true (j := 8) (dj := 106) (b := true) rfl rfl rfl (ev_hit hN1071 rfl) ?_
                          refine op_loadA (cs := [(Value.int .i64 x.k), (Value.int .i64 x.n), (Value.string (bs x.s))]) agg50 rfl (ev_base hN1071 rfl s1071_4) (fun j u hu => by rw [Nat.zero_add]; exact hB1030.cell hu) ?_
                          refine g_true (j := 8) (dj := 106) (b := true) rfl rfl rfl (ev_hit hN1071 rfl) ?_
                          refine op_loadA (cs := [(Value.int .i64 y.k), (Value.int .i64 y.n), (Value.string (bs y.s))]) agg50 rfl (ev_base hN1071 rfl s1071_5) (fun j u hu => by rw [Nat.zero_add]; exact hB1034.cell hu) ?_
                          refine g_true (j := 8) (dj := 106) (b := true) rfl rfl rfl (ev_hit hN1071 rfl) ?_
                          by_cases c110 : x.k = y.k ∧ x.n = y.n ∧ x.s = y.s
                          · -- 110 True
                            exact absurd (by rw [vl_ext c110]; simp) c96
                          · -- 110 False
                            refine op_aeql (xs := [(Value.int .i64 x.k), (Value.int .i64 x.n), (Value.string (bs x.s))]) (ys := [(Value.int .i64 y.k), (Value.int .i64 y.n), (Value.string (bs y.s))]) (b' := false) (ev_hit hN1071 rfl) (ev_hit hN1071 rfl) (eq50 x.k y.k x.n y.n x.s y.s) (decide_eq_false c110) ?_
                            refine g_true (j := 8) (dj := 106) (b := true) rfl rfl rfl (ev_hit hN1071 rfl) ?_
                            refine op_eqb Try.underlying4 (ev_hit hN1071 rfl) (ev_hit hN1071 rfl) ?_
                            refine op_pick_t (ev_hit hN1071 rfl) (ev_hit hN1071 rfl) ?_
                            refine op_move (ev_hit hN1071 rfl) ?_
                            refine g_true (j := 15) (dj := 113) (b := true) rfl rfl rfl (ev_hit hN1071 rfl) ?_
                            refine op_move (ev_hit hN1071 rfl) ?_
                            refine g_true (j := 15) (dj := 113) (b := true) rfl rfl rfl (ev_hit hN1071 rfl) ?_
                            refine op_eql (ev_hit hN1071 rfl) rfl (fun c115 => ?_) (fun c115 => ?_)
                            · -- 115 True
                              refine op_pick_t (ev_hit hN1071 rfl) (ev_hit hN1071 rfl) ?_
                              refine op_move (ev_hit hN1071 rfl) ?_
                              refine g_true (j := 19) (dj := 117) (b := true) rfl rfl rfl (ev_hit hN1071 rfl) ?_
                              refine op_move (ev_hit hN1071 rfl) ?_
                              refine g_true (j := 19) (dj := 117) (b := true) rfl rfl rfl (ev_hit hN1071 rfl) ?_
                              refine op_move (ev_base hN1071 rfl s1071_9) ?_
                              refine g_true (j := 19) (dj := 117) (b := true) rfl rfl rfl (ev_hit hN1071 rfl) ?_
                              refine op_len_str Try.underlying9 (ev_hit hN1071 rfl) ?_
                              refine g_true (j := 19) (dj := 117) (b := true) rfl rfl rfl (ev_hit hN1071 rfl) ?_
                              refine op_eql (ev_hit hN1071 rfl) (ev_hit hN1071 rfl) (fun c121 => ?_) (fun c121 => ?_)
                              · -- 121 True
                                refine op_pick_t (ev_hit hN1071 rfl) (ev_hit hN1071 rfl) ?_
                                refine op_move (ev_hit hN1071 rfl) ?_
                                refine g_true (j := 25) (dj := 123) (b := true) rfl rfl rfl (ev_hit hN1071 rfl) ?_
                                refine op_loadA (cs := [(Value.int .i64 (takeV ((keyV x) ++ rl)).1.k), (Value.int .i64 (takeV ((keyV x) ++ rl)).1.n), (Value.string (bs (takeV ((keyV x) ++ rl)).1.s))]) agg50 rfl (ev_hit hN1071 rfl) (fun j u hu => by rw [Nat.zero_add]; exact hB1093.cell hu) ?_
                                refine g_true (j := 25) (dj := 123) (b := true) rfl rfl rfl (ev_hit hN1071 rfl) ?_
                                refine op_loadA (cs := [(Value.int .i64 x.k), (Value.int .i64 x.n), (Value.string (bs x.s))]) agg50 rfl (ev_base hN1071 rfl s1071_4) (fun j u hu => by rw [Nat.zero_add]; exact hB1030.cell hu) ?_
                                refine g_true (j := 25) (dj := 123) (b := true) rfl rfl rfl (ev_hit hN1071 rfl) ?_
                                by_cases c126 : (takeV ((keyV x) ++ rl)).1.k = x.k ∧ (takeV ((keyV x) ++ rl)).1.n = x.n ∧ (takeV ((keyV x) ++ rl)).1.s = x.s
                                · -- 126 True
                                  refine op_aeql (xs := [(Value.int .i64 (takeV ((keyV x) ++ rl)).1.k), (Value.int .i64 (takeV ((keyV x) ++ rl)).1.n), (Value.string (bs (takeV ((keyV x) ++ rl)).1.s))]) (ys := [(Value.int .i64 x.k), (Value.int .i64 x.n), (Value.string (bs x.s))]) (b' := true) (ev_hit hN1071 rfl) (ev_hit hN1071 rfl) (eq50 (takeV ((keyV x) ++ rl)).1.k x.k (takeV ((keyV x) ++ rl)).1.n x.n (takeV ((keyV x) ++ rl)).1.s x.s) (decide_eq_true c126) ?_
                                  refine op_pick_t (ev_hit hN1071 rfl) (ev_hit hN1071 rfl) ?_
                                  refine op_assign (ev_hit hN1071 rfl) ?_
                                  refine reg_nil ?_
                                  refine hK1139 _ _ ?_
                                  refine wp_ret ?_
                                  refine ret1 rfl hd1071 (ev_hit hN1071 rfl) ⟨_, rfl, ?_⟩
                                  -- path 20T 24T 29T 35F 60T 63F 66F 71T 89T 96F 104T 110F 115T 121T 126T
                                  exact ⟨hb, rfl⟩
                                · -- 126 False
                                  exact absurd (by rw [htk]; exact ⟨rfl, rfl, rfl⟩) c126
                              · -- 121 False
                                exact absurd (by rw [htk]) c121
                            · -- 115 False
                              exact absurd (by rw [htk]) c115
                        · -- 104 False
                          exact absurd (keys_stand c20 c24 ox oy) c104
                    · -- 89 False
                      refine op_move (ev_hit hN1071 rfl) ?_
                      refine g_false (j := 5) (dj := 90) (b := true) rfl rfl rfl (ev_hit hN1071 rfl) rfl rfl ?_
                      refine g_false (j := 5) (dj := 90) (b := true) rfl rfl rfl (ev_hit hN1071 rfl) rfl rfl ?_
                      refine g_false (j := 5) (dj := 90) (b := true) rfl rfl rfl (ev_hit hN1071 rfl) rfl rfl ?_
                      refine g_false (j := 5) (dj := 90) (b := true) rfl rfl rfl (ev_hit hN1071 rfl) rfl rfl ?_
                      refine g_false (j := 5) (dj := 90) (b := true) rfl rfl rfl (ev_hit hN1071 rfl) rfl rfl ?_
                      refine g_false (j := 5) (dj := 90) (b := true) rfl rfl rfl (ev_hit hN1071 rfl) rfl rfl ?_
                      refine op_pick_f (ev_hit hN1071 rfl) rfl ?_
                      refine op_assign (ev_hit hN1071 rfl) ?_
                      refine reg_nil ?_
                      refine hK1135 _ _ ?_
                      refine seq_any fun K1142 hK1142 => ?_
                      refine one_reg ?_
                      refine op_move (ev_hit hN1071 rfl) ?_
                      refine op_move (ev_hit hN1071 rfl) ?_
                      refine g_true (j := 1) (dj := 99) (b := true) rfl rfl rfl (ev_hit hN1071 rfl) ?_
                      refine op_move (ev_base hN1071 rfl s1071_9) ?_
                      refine g_true (j := 1) (dj := 99) (b := true) rfl rfl rfl (ev_hit hN1071 rfl) ?_
                      refine op_move (ev_base hN1071 rfl s1071_10) ?_
                      refine g_true (j := 1) (dj := 99) (b := true) rfl rfl rfl (ev_hit hN1071 rfl) ?_
                      refine op_fn (vs := [(Value.string (bs (keyV x))), (Value.string (bs (keyV y)))]) ok42 ⟨(ev_hit hN1071 rfl), ⟨(ev_hit hN1071 rfl), trivial⟩⟩ (CompareText_ret (keyV x) (keyV y) _ (by first | assumption | omega | (simp only [List.length_append, List.length_cons, List.length_nil, List.length_drop, List.length_take]; omega) | (dsimp only; omega) | decide | (simp [keyV, be8_len]; done)) (by first | assumption | omega | (simp only [List.length_append, List.length_cons, List.length_nil, List.length_drop, List.length_take]; omega) | (dsimp only; omega) | decide | (simp [keyV, be8_len]; done))) ?_
                      rintro _ w1143 ⟨E1144, rfl⟩
                      have E1144 := grown_of_below E1144
                      have z_w1143 := E1144.size
                      have hv := hv.keep0 E1144
                      have hB1030 := hB1030.keep0 E1144
                      have hB1034 := hB1034.keep0 E1144
                      have hB1038 := hB1038.keep0 E1144
                      have hO1084 := hO1084.keep0 E1144
                      have hB1093 := hB1093.keep0 E1144
                      have hb := below_step0 hb E1144 hb.size
                      refine g_true (j := 1) (dj := 99) (b := true) rfl rfl rfl (ev_hit hN1071 rfl) ?_
                      refine op_move (ev_hit hN1071 rfl) ?_
                      refine g_true (j := 1) (dj := 99) (b := true) rfl rfl rfl (ev_hit hN1071 rfl) ?_
                      refine op_eql (ev_hit hN1071 rfl) (ev_hit hN1071 rfl) (fun c104 => ?_) (fun c104 => ?_)
                      · -- 104 True
                        refine op_pick_t (ev_hit hN1071 rfl) (ev_hit hN1071 rfl) ?_
                        refine op_move (ev_hit hN1071 rfl) ?_
                        refine g_true (j := 8) (dj := 106) (b := true) rfl rfl rfl (ev_hit hN1071 rfl) ?_
                        refine op_move (ev_hit hN1071 rfl) ?_
                        refine g_true (j := 8) (dj := 106) (b := true) rfl rfl rfl (ev_hit hN1071 rfl) ?_
                        refine op_loadA (cs := [(Value.int .i64 x.k), (Value.int .i64 x.n), (Value.string (bs x.s))]) agg50 rfl (ev_base hN1071 rfl s1071_4) (fun j u hu => by rw [Nat.zero_add]; exact hB1030.cell hu) ?_
                        refine g_true (j := 8) (dj := 106) (b := true) rfl rfl rfl (ev_hit hN1071 rfl) ?_
                        refine op_loadA (cs := [(Value.int .i64 y.k), (Value.int .i64 y.n), (Value.string (bs y.s))]) agg50 rfl (ev_base hN1071 rfl s1071_5) (fun j u hu => by rw [Nat.zero_add]; exact hB1034.cell hu) ?_
                        refine g_true (j := 8) (dj := 106) (b := true) rfl rfl rfl (ev_hit hN1071 rfl) ?_
                        by_cases c110 : x.k = y.k ∧ x.n = y.n ∧ x.s = y.s
                        · -- 110 True
                          exact absurd (by rw [vl_ext c110]; exact Int.le_refl _) c89
                        · -- 110 False
                          refine op_aeql (xs := [(Value.int .i64 x.k), (Value.int .i64 x.n), (Value.string (bs x.s))]) (ys := [(Value.int .i64 y.k), (Value.int .i64 y.n), (Value.string (bs y.s))]) (b' := false) (ev_hit hN1071 rfl) (ev_hit hN1071 rfl) (eq50 x.k y.k x.n y.n x.s y.s) (decide_eq_false c110) ?_
                          refine g_true (j := 8) (dj := 106) (b := true) rfl rfl rfl (ev_hit hN1071 rfl) ?_
                          refine op_eqb Try.underlying4 (ev_hit hN1071 rfl) (ev_hit hN1071 rfl) ?_
                          refine op_pick_t (ev_hit hN1071 rfl) (ev_hit hN1071 rfl) ?_
                          refine op_move (ev_hit hN1071 rfl) ?_
                          refine g_true (j := 15) (dj := 113) (b := true) rfl rfl rfl (ev_hit hN1071 rfl) ?_
                          refine op_move (ev_hit hN1071 rfl) ?_
                          refine g_true (j := 15) (dj := 113) (b := true) rfl rfl rfl (ev_hit hN1071 rfl) ?_
                          refine op_eql (ev_hit hN1071 rfl) rfl (fun c115 => ?_) (fun c115 => ?_)
                          · -- 115 True
                            refine op_pick_t (ev_hit hN1071 rfl) (ev_hit hN1071 rfl) ?_
                            refine op_move (ev_hit hN1071 rfl) ?_
                            refine g_true (j := 19) (dj := 117) (b := true) rfl rfl rfl (ev_hit hN1071 rfl) ?_
                            refine op_move (ev_hit hN1071 rfl) ?_
                            refine g_true (j := 19) (dj := 117) (b := true) rfl rfl rfl (ev_hit hN1071 rfl) ?_
                            refine op_move (ev_base hN1071 rfl s1071_9) ?_
                            refine g_true (j := 19) (dj := 117) (b := true) rfl rfl rfl (ev_hit hN1071 rfl) ?_
                            refine op_len_str Try.underlying9 (ev_hit hN1071 rfl) ?_
                            refine g_true (j := 19) (dj := 117) (b := true) rfl rfl rfl (ev_hit hN1071 rfl) ?_
                            refine op_eql (ev_hit hN1071 rfl) (ev_hit hN1071 rfl) (fun c121 => ?_) (fun c121 => ?_)
                            · -- 121 True
                              refine op_pick_t (ev_hit hN1071 rfl) (ev_hit hN1071 rfl) ?_
                              refine op_move (ev_hit hN1071 rfl) ?_
                              refine g_true (j := 25) (dj := 123) (b := true) rfl rfl rfl (ev_hit hN1071 rfl) ?_
                              refine op_loadA (cs := [(Value.int .i64 (takeV ((keyV x) ++ rl)).1.k), (Value.int .i64 (takeV ((keyV x) ++ rl)).1.n), (Value.string (bs (takeV ((keyV x) ++ rl)).1.s))]) agg50 rfl (ev_hit hN1071 rfl) (fun j u hu => by rw [Nat.zero_add]; exact hB1093.cell hu) ?_
                              refine g_true (j := 25) (dj := 123) (b := true) rfl rfl rfl (ev_hit hN1071 rfl) ?_
                              refine op_loadA (cs := [(Value.int .i64 x.k), (Value.int .i64 x.n), (Value.string (bs x.s))]) agg50 rfl (ev_base hN1071 rfl s1071_4) (fun j u hu => by rw [Nat.zero_add]; exact hB1030.cell hu) ?_
                              refine g_true (j := 25) (dj := 123) (b := true) rfl rfl rfl (ev_hit hN1071 rfl) ?_
                              by_cases c126 : (takeV ((keyV x) ++ rl)).1.k = x.k ∧ (takeV ((keyV x) ++ rl)).1.n = x.n ∧ (takeV ((keyV x) ++ rl)).1.s = x.s
                              · -- 126 True
                                refine op_aeql (xs := [(Value.int .i64 (takeV ((keyV x) ++ rl)).1.k), (Value.int .i64 (takeV ((keyV x) ++ rl)).1.n), (Value.string (bs (takeV ((keyV x) ++ rl)).1.s))]) (ys := [(Value.int .i64 x.k), (Value.int .i64 x.n), (Value.string (bs x.s))]) (b' := true) (ev_hit hN1071 rfl) (ev_hit hN1071 rfl) (eq50 (takeV ((keyV x) ++ rl)).1.k x.k (takeV ((keyV x) ++ rl)).1.n x.n (takeV ((keyV x) ++ rl)).1.s x.s) (decide_eq_true c126) ?_
                                refine op_pick_t (ev_hit hN1071 rfl) (ev_hit hN1071 rfl) ?_
                                refine op_assign (ev_hit hN1071 rfl) ?_
                                refine reg_nil ?_
                                refine hK1142 _ _ ?_
                                refine wp_ret ?_
                                refine ret1 rfl hd1071 (ev_hit hN1071 rfl) ⟨_, rfl, ?_⟩
                                -- path 20T 24T 29T 35F 60T 63F 66F 71T 89F 104T 110F 115T 121T 126T
                                exact ⟨hb, rfl⟩
                              · -- 126 False
                                exact absurd (by rw [htk]; exact ⟨rfl, rfl, rfl⟩) c126
                            · -- 121 False
                              exact absurd (by rw [htk]) c121
                          · -- 115 False
                            exact absurd (by rw [htk]) c115
                      · -- 104 False
                        exact absurd (keys_stand c20 c24 ox oy) c104
                  · -- 71 False
                    refine g_true (j := 14) (dj := 69) (b := true) rfl rfl rfl (ev_hit hN1071 rfl) ?_
                    refine op_move (ev_hit hN1071 rfl) ?_
                    refine g_true (j := 17) (dj := 72) (b := false) rfl rfl rfl (ev_hit hN1071 rfl) ?_
                    refine op_loadA (cs := [(Value.int .i64 y.k), (Value.int .i64 y.n), (Value.string (bs y.s))]) agg50 rfl (ev_base hN1071 rfl s1071_5) (fun j u hu => by rw [Nat.zero_add]; exact hB1034.cell hu) ?_
                    refine g_true (j := 17) (dj := 72) (b := false) rfl rfl rfl (ev_hit hN1071 rfl) ?_
                    refine op_loadA (cs := [(Value.int .i64 z.k), (Value.int .i64 z.n), (Value.string (bs z.s))]) agg50 rfl (ev_base hN1071 rfl s1071_6) (fun j u hu => by rw [Nat.zero_add]; exact hB1038.cell hu) ?_
                    refine g_true (j := 17) (dj := 72) (b := false) rfl rfl rfl (ev_hit hN1071 rfl) ?_
                    refine op_fn (vs := [(Value.agg #[(Value.int .i64 y.k), (Value.int .i64 y.n), (Value.string (bs y.s))]), (Value.agg #[(Value.int .i64 z.k), (Value.int .i64 z.n), (Value.string (bs z.s))])]) ok35 ⟨(ev_hit hN1071 rfl), ⟨(ev_hit hN1071 rfl), trivial⟩⟩ (Compare_ret y z _) ?_
                    rintro _ w1145 ⟨E1146, rfl⟩
                    have E1146 := grown_of_below E1146
                    have z_w1145 := E1146.size
                    have hv := hv.keep0 E1146
                    have hB1030 := hB1030.keep0 E1146
                    have hB1034 := hB1034.keep0 E1146
                    have hB1038 := hB1038.keep0 E1146
                    have hO1084 := hO1084.keep0 E1146
                    have hB1093 := hB1093.keep0 E1146
                    have hb := below_step0 hb E1146 hb.size
                    refine g_true (j := 17) (dj := 72) (b := false) rfl rfl rfl (ev_hit hN1071 rfl) ?_
                    refine op_neq (ev_hit hN1071 rfl) rfl (fun c76 => ?_) (fun c76 => ?_)
                    · -- 76 True
                      refine g_true (j := 14) (dj := 69) (b := true) rfl rfl rfl (ev_hit hN1071 rfl) ?_
                      refine op_pick_f (ev_hit hN1071 rfl) (ev_hit hN1071 rfl) ?_
                      refine g_true (j := 14) (dj := 69) (b := true) rfl rfl rfl (ev_hit hN1071 rfl) ?_
                      refine op_move (ev_hit hN1071 rfl) ?_
                      refine g_false (j := 23) (dj := 78) (b := false) rfl rfl rfl (ev_hit hN1071 rfl) rfl rfl ?_
                      refine g_false (j := 23) (dj := 78) (b := false) rfl rfl rfl (ev_hit hN1071 rfl) rfl rfl ?_
                      refine g_false (j := 23) (dj := 78) (b := false) rfl rfl rfl (ev_hit hN1071 rfl) rfl rfl ?_
                      refine g_false (j := 23) (dj := 78) (b := false) rfl rfl rfl (ev_hit hN1071 rfl) rfl rfl ?_
                      refine g_true (j := 14) (dj := 69) (b := true) rfl rfl rfl (ev_hit hN1071 rfl) ?_
                      refine op_pick_t (ev_hit hN1071 rfl) rfl ?_
                      refine op_pick_t (ev_hit hN1071 rfl) (ev_hit hN1071 rfl) ?_
                      refine op_assign (ev_hit hN1071 rfl) ?_
                      refine reg_nil ?_
                      refine hK1098 _ _ ?_
                      refine seq_any fun K1147 hK1147 => ?_
                      refine one_reg ?_
                      refine op_move (ev_base hN1071 rfl s1071_9) ?_
                      refine op_len_str Try.underlying9 (ev_hit hN1071 rfl) ?_
                      refine op_move (ev_base hN1071 rfl s1071_10) ?_
                      refine op_len_str Try.underlying9 (ev_hit hN1071 rfl) ?_
                      refine op_leq (ev_hit hN1071 rfl) (ev_hit hN1071 rfl) (fun c89 => ?_) (fun c89 => ?_)
                      · -- 89 True
                        refine op_move (ev_hit hN1071 rfl) ?_
                        refine g_true (j := 5) (dj := 90) (b := true) rfl rfl rfl (ev_hit hN1071 rfl) ?_
                        refine op_move (ev_base hN1071 rfl s1071_10) ?_
                        refine g_true (j := 5) (dj := 90) (b := true) rfl rfl rfl (ev_hit hN1071 rfl) ?_
                        refine op_move (ev_base hN1071 rfl s1071_9) ?_
                        refine g_true (j := 5) (dj := 90) (b := true) rfl rfl rfl (ev_hit hN1071 rfl) ?_
                        refine op_len_str Try.underlying9 (ev_hit hN1071 rfl) ?_
                        refine g_true (j := 5) (dj := 90) (b := true) rfl rfl rfl (ev_hit hN1071 rfl) ?_
                        refine op_slice_str (lo := 0) (hi := (keyV x).length) Try.underlying9 (ev_hit hN1071 rfl) (.inl ⟨rfl, rfl⟩) (.inr ⟨_, _, rfl, (ev_hit hN1071 rfl)⟩) (by omega) (by omega) ?_
                        refine g_true (j := 5) (dj := 90) (b := true) rfl rfl rfl (ev_hit hN1071 rfl) ?_
                        refine op_move (ev_base hN1071 rfl s1071_9) ?_
                        refine g_true (j := 5) (dj := 90) (b := true) rfl rfl rfl (ev_hit hN1071 rfl) ?_
                        refine op_seql (ev_hit hN1071 rfl) (ev_hit hN1071 rfl) (fun c96 => ?_) (fun c96 => ?_)
                        · -- 96 True
                          refine op_pick_t (ev_hit hN1071 rfl) (ev_hit hN1071 rfl) ?_
                          refine op_assign (ev_hit hN1071 rfl) ?_
                          refine reg_nil ?_
                          refine hK1147 _ _ ?_
                          refine seq_any fun K1148 hK1148 => ?_
                          refine one_reg ?_
                          refine op_move (ev_hit hN1071 rfl) ?_
                          refine op_move (ev_hit hN1071 rfl) ?_
                          refine g_true (j := 1) (dj := 99) (b := true) rfl rfl rfl (ev_hit hN1071 rfl) ?_
                          refine op_move (ev_base hN1071 rfl s1071_9) ?_
                          refine g_true (j := 1) (dj := 99) (b := true) rfl rfl rfl (ev_hit hN1071 rfl) ?_
                          refine op_move (ev_base hN1071 rfl s1071_10) ?_
                          refine g_true (j := 1) (dj := 99) (b := true) rfl rfl rfl (ev_hit hN1071 rfl) ?_
                          refine op_fn (vs := [(Value.string (bs (keyV x))), (Value.string (bs (keyV y)))]) ok42 ⟨(ev_hit hN1071 rfl), ⟨(ev_hit hN1071 rfl), trivial⟩⟩ (CompareText_ret (keyV x) (keyV y) _ (by first | assumption | omega | (simp only [List.length_append, List.length_cons, List.length_nil, List.length_drop, List.length_take]; omega) | (dsimp only; omega) | decide | (simp [keyV, be8_len]; done)) (by first | assumption | omega | (simp only [List.length_append, List.length_cons, List.length_nil, List.length_drop, List.length_take]; omega) | (dsimp only; omega) | decide | (simp [keyV, be8_len]; done))) ?_
                          rintro _ w1149 ⟨E1150, rfl⟩
                          have E1150 := grown_of_below E1150
                          have z_w1149 := E1150.size
                          have hv := hv.keep0 E1150
                          have hB1030 := hB1030.keep0 E1150
                          have hB1034 := hB1034.keep0 E1150
                          have hB1038 := hB1038.keep0 E1150
                          have hO1084 := hO1084.keep0 E1150
                          have hB1093 := hB1093.keep0 E1150
                          have hb := below_step0 hb E1150 hb.size
                          refine g_true (j := 1) (dj := 99) (b := true) rfl rfl rfl (ev_hit hN1071 rfl) ?_
                          refine op_move (ev_hit hN1071 rfl) ?_
                          refine g_true (j := 1) (dj := 99) (b := true) rfl rfl rfl (ev_hit hN1071 rfl) ?_
                          refine op_eql (ev_hit hN1071 rfl) (ev_hit hN1071 rfl) (fun c104 => ?_) (fun c104 => ?_)
                          · -- 104 True
                            refine op_pick_t (ev_hit hN1071 rfl) (ev_hit hN1071 rfl) ?_
                            refine op_move (ev_hit hN1071 rfl) ?_
                            refine g_true (j := 8) (dj := 106) (b := true) rfl rfl rfl (ev_hit hN1071 rfl) ?_
                            refine op_move (ev_hit hN1071 rfl) ?_
                            refine g_true (j := 8) (dj := 106) (b := true) rfl rfl rfl (ev_hit hN1071 rfl) ?_
                            refine op_loadA (cs := [(Value.int .i64 x.k), (Value.int .i64 x.n), (Value.string (bs x.s))]) agg50 rfl (ev_base hN1071 rfl s1071_4) (fun j u hu => by rw [Nat.zero_add]; exact hB1030.cell hu) ?_
                            refine g_true (j := 8) (dj := 106) (b := true) rfl rfl rfl (ev_hit hN1071 rfl) ?_
                            refine op_loadA (cs := [(Value.int .i64 y.k), (Value.int .i64 y.n), (Value.string (bs y.s))]) agg50 rfl (ev_base hN1071 rfl s1071_5) (fun j u hu => by rw [Nat.zero_add]; exact hB1034.cell hu) ?_
                            refine g_true (j := 8) (dj := 106) (b := true) rfl rfl rfl (ev_hit hN1071 rfl) ?_
                            by_cases c110 : x.k = y.k ∧ x.n = y.n ∧ x.s = y.s
                            · -- 110 True
                              refine op_aeql (xs := [(Value.int .i64 x.k), (Value.int .i64 x.n), (Value.string (bs x.s))]) (ys := [(Value.int .i64 y.k), (Value.int .i64 y.n), (Value.string (bs y.s))]) (b' := true) (ev_hit hN1071 rfl) (ev_hit hN1071 rfl) (eq50 x.k y.k x.n y.n x.s y.s) (decide_eq_true c110) ?_
                              refine g_true (j := 8) (dj := 106) (b := true) rfl rfl rfl (ev_hit hN1071 rfl) ?_
                              refine op_eqb Try.underlying4 (ev_hit hN1071 rfl) (ev_hit hN1071 rfl) ?_
                              refine op_pick_t (ev_hit hN1071 rfl) (ev_hit hN1071 rfl) ?_
                              refine op_move (ev_hit hN1071 rfl) ?_
                              refine g_true (j := 15) (dj := 113) (b := true) rfl rfl rfl (ev_hit hN1071 rfl) ?_
                              refine op_move (ev_hit hN1071 rfl) ?_
                              refine g_true (j := 15) (dj := 113) (b := true) rfl rfl rfl (ev_hit hN1071 rfl) ?_
                              refine op_eql (ev_hit hN1071 rfl) rfl (fun c115 => ?_) (fun c115 => ?_)
                              · -- 115 True
                                refine op_pick_t (ev_hit hN1071 rfl) (ev_hit hN1071 rfl) ?_
                                refine op_move (ev_hit hN1071 rfl) ?_
                                refine g_true (j := 19) (dj := 117) (b := true) rfl rfl rfl (ev_hit hN1071 rfl) ?_
                                refine op_move (ev_hit hN1071 rfl) ?_
                                refine g_true (j := 19) (dj := 117) (b := true) rfl rfl rfl (ev_hit hN1071 rfl) ?_
                                refine op_move (ev_base hN1071 rfl s1071_9) ?_
                                refine g_true (j := 19) (dj := 117) (b := true) rfl rfl rfl (ev_hit hN1071 rfl) ?_
                                refine op_len_str Try.underlying9 (ev_hit hN1071 rfl) ?_
                                refine g_true (j := 19) (dj := 117) (b := true) rfl rfl rfl (ev_hit hN1071 rfl) ?_
                                refine op_eql (ev_hit hN1071 rfl) (ev_hit hN1071 rfl) (fun c121 => ?_) (fun c121 => ?_)
                                · -- 121 True
                                  refine op_pick_t (ev_hit hN1071 rfl) (ev_hit hN1071 rfl) ?_
                                  refine op_move (ev_hit hN1071 rfl) ?_
                                  refine g_true (j := 25) (dj := 123) (b := true) rfl rfl rfl (ev_hit hN1071 rfl) ?_
                                  refine op_loadA (cs := [(Value.int .i64 (takeV ((keyV x) ++ rl)).1.k), (Value.int .i64 (takeV ((keyV x) ++ rl)).1.n), (Value.string (bs (takeV ((keyV x) ++ rl)).1.s))]) agg50 rfl (ev_hit hN1071 rfl) (fun j u hu => by rw [Nat.zero_add]; exact hB1093.cell hu) ?_
                                  refine g_true (j := 25) (dj := 123) (b := true) rfl rfl rfl (ev_hit hN1071 rfl) ?_
                                  refine op_loadA (cs := [(Value.int .i64 x.k), (Value.int .i64 x.n), (Value.string (bs x.s))]) agg50 rfl (ev_base hN1071 rfl s1071_4) (fun j u hu => by rw [Nat.zero_add]; exact hB1030.cell hu) ?_
                                  refine g_true (j := 25) (dj := 123) (b := true) rfl rfl rfl (ev_hit hN1071 rfl) ?_
                                  by_cases c126 : (takeV ((keyV x) ++ rl)).1.k = x.k ∧ (takeV ((keyV x) ++ rl)).1.n = x.n ∧ (takeV ((keyV x) ++ rl)).1.s = x.s
                                  · -- 126 True
                                    refine op_aeql (xs := [(Value.int .i64 (takeV ((keyV x) ++ rl)).1.k), (Value.int .i64 (takeV ((keyV x) ++ rl)).1.n), (Value.string (bs (takeV ((keyV x) ++ rl)).1.s))]) (ys := [(Value.int .i64 x.k), (Value.int .i64 x.n), (Value.string (bs x.s))]) (b' := true) (ev_hit hN1071 rfl) (ev_hit hN1071 rfl) (eq50 (takeV ((keyV x) ++ rl)).1.k x.k (takeV ((keyV x) ++ rl)).1.n x.n (takeV ((keyV x) ++ rl)).1.s x.s) (decide_eq_true c126) ?_
                                    refine op_pick_t (ev_hit hN1071 rfl) (ev_hit hN1071 rfl) ?_
                                    refine op_assign (ev_hit hN1071 rfl) ?_
                                    refine reg_nil ?_
                                    refine hK1148 _ _ ?_
                                    refine wp_ret ?_
                                    refine ret1 rfl hd1071 (ev_hit hN1071 rfl) ⟨_, rfl, ?_⟩
                                    -- path 20T 24T 29T 35F 60T 63F 66F 71F 76T 89T 96T 104T 110T 115T 121T 126T
                                    exact ⟨hb, rfl⟩
                                  · -- 126 False
                                    exact absurd (by rw [htk]; exact ⟨rfl, rfl, rfl⟩) c126
                                · -- 121 False
                                  exact absurd (by rw [htk]) c121
                              · -- 115 False
                                exact absurd (by rw [htk]) c115
                            · -- 110 False
                              exact absurd (veq_of (key_prefix c20 c24 ox oy (by simpa using c96))) c110
                          · -- 104 False
                            exact absurd (keys_stand c20 c24 ox oy) c104
                        · -- 96 False
                          refine op_pick_t (ev_hit hN1071 rfl) (ev_hit hN1071 rfl) ?_
                          refine op_assign (ev_hit hN1071 rfl) ?_
                          refine reg_nil ?_
                          refine hK1147 _ _ ?_
                          refine seq_any fun K1151 hK1151 => ?_
                          refine one_reg ?_
                          refine op_move (ev_hit hN1071 rfl) ?_
                          refine op_move (ev_hit hN1071 rfl) ?_
                          refine g_true (j := 1) (dj := 99) (b := true) rfl rfl rfl (ev_hit hN1071 rfl) ?_
                          refine op_move (ev_base hN1071 rfl s1071_9) ?_
                          refine g_true (j := 1) (dj := 99) (b := true) rfl rfl rfl (ev_hit hN1071 rfl) ?_
                          refine op_move (ev_base hN1071 rfl s1071_10) ?_
                          refine g_true (j := 1) (dj := 99) (b := true) rfl rfl rfl (ev_hit hN1071 rfl) ?_
                          refine op_fn (vs := [(Value.string (bs (keyV x))), (Value.string (bs (keyV y)))]) ok42 ⟨(ev_hit hN1071 rfl), ⟨(ev_hit hN1071 rfl), trivial⟩⟩ (CompareText_ret (keyV x) (keyV y) _ (by first | assumption | omega | (simp only [List.length_append, List.length_cons, List.length_nil, List.length_drop, List.length_take]; omega) | (dsimp only; omega) | decide | (simp [keyV, be8_len]; done)) (by first | assumption | omega | (simp only [List.length_append, List.length_cons, List.length_nil, List.length_drop, List.length_take]; omega) | (dsimp only; omega) | decide | (simp [keyV, be8_len]; done))) ?_
                          rintro _ w1152 ⟨E1153, rfl⟩
                          have E1153 := grown_of_below E1153
                          have z_w1152 := E1153.size
                          have hv := hv.keep0 E1153
                          have hB1030 := hB1030.keep0 E1153
                          have hB1034 := hB1034.keep0 E1153
                          have hB1038 := hB1038.keep0 E1153
                          have hO1084 := hO1084.keep0 E1153
                          have hB1093 := hB1093.keep0 E1153
                          have hb := below_step0 hb E1153 hb.size
                          refine g_true (j := 1) (dj := 99) (b := true) rfl rfl rfl (ev_hit hN1071 rfl) ?_
                          refine op_move (ev_hit hN1071 rfl) ?_
                          refine g_true (j := 1) (dj := 99) (b := true) rfl rfl rfl (ev_hit hN1071 rfl) ?_
                          refine op_eql (ev_hit hN1071 rfl) (ev_hit hN1071 rfl) (fun c104 => ?_) (fun c104 => ?_)
                          · -- 104 True
                            refine op_pick_t (ev_hit hN1071 rfl) (ev_hit hN1071 rfl) ?_
                            refine op_move (ev_hit hN1071 rfl) ?_
                            refine g_true (j := 8) (dj := 106) (b := true) rfl rfl rfl (ev_hit hN1071 rfl) ?_
                            refine op_move (ev_hit hN1071 rfl) ?_
                            refine g_true (j := 8) (dj := 106) (b := true) rfl rfl rfl (ev_hit hN1071 rfl) ?_
                            refine op_loadA (cs := [(Value.int .i64 x.k), (Value.int .i64 x.n), (Value.string (bs x.s))]) agg50 rfl (ev_base hN1071 rfl s1071_4) (fun j u hu => by rw [Nat.zero_add]; exact hB1030.cell hu) ?_
                            refine g_true (j := 8) (dj := 106) (b := true) rfl rfl rfl (ev_hit hN1071 rfl) ?_
                            refine op_loadA (cs := [(Value.int .i64 y.k), (Value.int .i64 y.n), (Value.string (bs y.s))]) agg50 rfl (ev_base hN1071 rfl s1071_5) (fun j u hu => by rw [Nat.zero_add]; exact hB1034.cell hu) ?_
                            refine g_true (j := 8) (dj := 106) (b := true) rfl rfl rfl (ev_hit hN1071 rfl) ?_
                            by_cases c110 : x.k = y.k ∧ x.n = y.n ∧ x.s = y.s
                            · -- 110 True
                              exact absurd (by rw [vl_ext c110]; simp) c96
                            · -- 110 False
                              refine op_aeql (xs := [(Value.int .i64 x.k), (Value.int .i64 x.n), (Value.string (bs x.s))]) (ys := [(Value.int .i64 y.k), (Value.int .i64 y.n), (Value.string (bs y.s))]) (b' := false) (ev_hit hN1071 rfl) (ev_hit hN1071 rfl) (eq50 x.k y.k x.n y.n x.s y.s) (decide_eq_false c110) ?_
                              refine g_true (j := 8) (dj := 106) (b := true) rfl rfl rfl (ev_hit hN1071 rfl) ?_
                              refine op_eqb Try.underlying4 (ev_hit hN1071 rfl) (ev_hit hN1071 rfl) ?_
                              refine op_pick_t (ev_hit hN1071 rfl) (ev_hit hN1071 rfl) ?_
                              refine op_move (ev_hit hN1071 rfl) ?_
                              refine g_true (j := 15) (dj := 113) (b := true) rfl rfl rfl (ev_hit hN1071 rfl) ?_
                              refine op_move (ev_hit hN1071 rfl) ?_
                              refine g_true (j := 15) (dj := 113) (b := true) rfl rfl rfl (ev_hit hN1071 rfl) ?_
                              refine op_eql (ev_hit hN1071 rfl) rfl (fun c115 => ?_) (fun c115 => ?_)
                              · -- 115 True
                                refine op_pick_t (ev_hit hN1071 rfl) (ev_hit hN1071 rfl) ?_
                                refine op_move (ev_hit hN1071 rfl) ?_
                                refine g_true (j := 19) (dj := 117) (b := true) rfl rfl rfl (ev_hit hN1071 rfl) ?_
                                refine op_move (ev_hit hN1071 rfl) ?_
                                refine g_true (j := 19) (dj := 117) (b := true) rfl rfl rfl (ev_hit hN1071 rfl) ?_
                                refine op_move (ev_base hN1071 rfl s1071_9) ?_
                                refine g_true (j := 19) (dj := 117) (b := true) rfl rfl rfl (ev_hit hN1071 rfl) ?_
                                refine op_len_str Try.underlying9 (ev_hit hN1071 rfl) ?_
                                refine g_true (j := 19) (dj := 117) (b := true) rfl rfl rfl (ev_hit hN1071 rfl) ?_
                                refine op_eql (ev_hit hN1071 rfl) (ev_hit hN1071 rfl) (fun c121 => ?_) (fun c121 => ?_)
                                · -- 121 True
                                  refine op_pick_t (ev_hit hN1071 rfl) (ev_hit hN1071 rfl) ?_
                                  refine op_move (ev_hit hN1071 rfl) ?_
                                  refine g_true (j := 25) (dj := 123) (b := true) rfl rfl rfl (ev_hit hN1071 rfl) ?_
                                  refine op_loadA (cs := [(Value.int .i64 (takeV ((keyV x) ++ rl)).1.k), (Value.int .i64 (takeV ((keyV x) ++ rl)).1.n), (Value.string (bs (takeV ((keyV x) ++ rl)).1.s))]) agg50 rfl (ev_hit hN1071 rfl) (fun j u hu => by rw [Nat.zero_add]; exact hB1093.cell hu) ?_
                                  refine g_true (j := 25) (dj := 123) (b := true) rfl rfl rfl (ev_hit hN1071 rfl) ?_
                                  refine op_loadA (cs := [(Value.int .i64 x.k), (Value.int .i64 x.n), (Value.string (bs x.s))]) agg50 rfl (ev_base hN1071 rfl s1071_4) (fun j u hu => by rw [Nat.zero_add]; exact hB1030.cell hu) ?_
                                  refine g_true (j := 25) (dj := 123) (b := true) rfl rfl rfl (ev_hit hN1071 rfl) ?_
                                  by_cases c126 : (takeV ((keyV x) ++ rl)).1.k = x.k ∧ (takeV ((keyV x) ++ rl)).1.n = x.n ∧ (takeV ((keyV x) ++ rl)).1.s = x.s
                                  · -- 126 True
                                    refine op_aeql (xs := [(Value.int .i64 (takeV ((keyV x) ++ rl)).1.k), (Value.int .i64 (takeV ((keyV x) ++ rl)).1.n), (Value.string (bs (takeV ((keyV x) ++ rl)).1.s))]) (ys := [(Value.int .i64 x.k), (Value.int .i64 x.n), (Value.string (bs x.s))]) (b' := true) (ev_hit hN1071 rfl) (ev_hit hN1071 rfl) (eq50 (takeV ((keyV x) ++ rl)).1.k x.k (takeV ((keyV x) ++ rl)).1.n x.n (takeV ((keyV x) ++ rl)).1.s x.s) (decide_eq_true c126) ?_
                                    refine op_pick_t (ev_hit hN1071 rfl) (ev_hit hN1071 rfl) ?_
                                    refine op_assign (ev_hit hN1071 rfl) ?_
                                    refine reg_nil ?_
                                    refine hK1151 _ _ ?_
                                    refine wp_ret ?_
                                    refine ret1 rfl hd1071 (ev_hit hN1071 rfl) ⟨_, rfl, ?_⟩
                                    -- path 20T 24T 29T 35F 60T 63F 66F 71F 76T 89T 96F 104T 110F 115T 121T 126T
                                    exact ⟨hb, rfl⟩
                                  · -- 126 False
                                    exact absurd (by rw [htk]; exact ⟨rfl, rfl, rfl⟩) c126
                                · -- 121 False
                                  exact absurd (by rw [htk]) c121
                              · -- 115 False
                                exact absurd (by rw [htk]) c115
                          · -- 104 False
                            exact absurd (keys_stand c20 c24 ox oy) c104
                      · -- 89 False
                        refine op_move (ev_hit hN1071 rfl) ?_
                        refine g_false (j := 5) (dj := 90) (b := true) rfl rfl rfl (ev_hit hN1071 rfl) rfl rfl ?_
                        refine g_false (j := 5) (dj := 90) (b := true) rfl rfl rfl (ev_hit hN1071 rfl) rfl rfl ?_
                        refine g_false (j := 5) (dj := 90) (b := true) rfl rfl rfl (ev_hit hN1071 rfl) rfl rfl ?_
                        refine g_false (j := 5) (dj := 90) (b := true) rfl rfl rfl (ev_hit hN1071 rfl) rfl rfl ?_
                        refine g_false (j := 5) (dj := 90) (b := true) rfl rfl rfl (ev_hit hN1071 rfl) rfl rfl ?_
                        refine g_false (j := 5) (dj := 90) (b := true) rfl rfl rfl (ev_hit hN1071 rfl) rfl rfl ?_
                        refine op_pick_f (ev_hit hN1071 rfl) rfl ?_
                        refine op_assign (ev_hit hN1071 rfl) ?_
                        refine reg_nil ?_
                        refine hK1147 _ _ ?_
                        refine seq_any fun K1154 hK1154 => ?_
                        refine one_reg ?_
                        refine op_move (ev_hit hN1071 rfl) ?_
                        refine op_move (ev_hit hN1071 rfl) ?_
                        refine g_true (j := 1) (dj := 99) (b := true) rfl rfl rfl (ev_hit hN1071 rfl) ?_
                        refine op_move (ev_base hN1071 rfl s1071_9) ?_
                        refine g_true (j := 1) (dj := 99) (b := true) rfl rfl rfl (ev_hit hN1071 rfl) ?_
                        refine op_move (ev_base hN1071 rfl s1071_10) ?_
                        refine g_true (j := 1) (dj := 99) (b := true) rfl rfl rfl (ev_hit hN1071 rfl) ?_
                        refine op_fn (vs := [(Value.string (bs (keyV x))), (Value.string (bs (keyV y)))]) ok42 ⟨(ev_hit hN1071 rfl), ⟨(ev_hit hN1071 rfl), trivial⟩⟩ (CompareText_ret (keyV x) (keyV y) _ (by first | assumption | omega | (simp only [List.length_append, List.length_cons, List.length_nil, List.length_drop, List.length_take]; omega) | (dsimp only; omega) | decide | (simp [keyV, be8_len]; done)) (by first | assumption | omega | (simp only [List.length_append, List.length_cons, List.length_nil, List.length_drop, List.length_take]; omega) | (dsimp only; omega) | decide | (simp [keyV, be8_len]; done))) ?_
                        rintro _ w1155 ⟨E1156, rfl⟩
                        have E1156 := grown_of_below E1156
                        have z_w1155 := E1156.size
                        have hv := hv.keep0 E1156
                        have hB1030 := hB1030.keep0 E1156
                        have hB1034 := hB1034.keep0 E1156
                        have hB1038 := hB1038.keep0 E1156
                        have hO1084 := hO1084.keep0 E1156
                        have hB1093 := hB1093.keep0 E1156
                        have hb := below_step0 hb E1156 hb.size
                        refine g_true (j := 1) (dj := 99) (b := true) rfl rfl rfl (ev_hit hN1071 rfl) ?_
                        refine op_move (ev_hit hN1071 rfl) ?_
                        refine g_true (j := 1) (dj := 99) (b := true) rfl rfl rfl (ev_hit hN1071 rfl) ?_
                        refine op_eql (ev_hit hN1071 rfl) (ev_hit hN1071 rfl) (fun c104 => ?_) (fun c104 => ?_)
                        · -- 104 True
                          refine op_pick_t (ev_hit hN1071 rfl) (ev_hit hN1071 rfl) ?_
                          refine op_move (ev_hit hN1071 rfl) ?_
                          refine g_true (j := 8) (dj := 106) (b := true) rfl rfl rfl (ev_hit hN1071 rfl) ?_
                          refine op_move (ev_hit hN1071 rfl) ?_
                          refine g_true (j := 8) (dj := 106) (b := true) rfl rfl rfl (ev_hit hN1071 rfl) ?_
                          refine op_loadA (cs := [(Value.int .i64 x.k), (Value.int .i64 x.n), (Value.string (bs x.s))]) agg50 rfl (ev_base hN1071 rfl s1071_4) (fun j u hu => by rw [Nat.zero_add]; exact hB1030.cell hu) ?_
                          refine g_true (j := 8) (dj := 106) (b := true) rfl rfl rfl (ev_hit hN1071 rfl) ?_
                          refine op_loadA (cs := [(Value.int .i64 y.k), (Value.int .i64 y.n), (Value.string (bs y.s))]) agg50 rfl (ev_base hN1071 rfl s1071_5) (fun j u hu => by rw [Nat.zero_add]; exact hB1034.cell hu) ?_
                          refine g_true (j := 8) (dj := 106) (b := true) rfl rfl rfl (ev_hit hN1071 rfl) ?_
                          by_cases c110 : x.k = y.k ∧ x.n = y.n ∧ x.s = y.s
                          · -- 110 True
                            exact absurd (by rw [vl_ext c110]; exact Int.le_refl _) c89
                          · -- 110 False
                            refine op_aeql (xs := [(Value.int .i64 x.k), (Value.int .i64 x.n), (Value.string (bs x.s))]) (ys := [(Value.int .i64 y.k), (Value.int .i64 y.n), (Value.string (bs y.s))]) (b' := false) (ev_hit hN1071 rfl) (ev_hit hN1071 rfl) (eq50 x.k y.k x.n y.n x.s y.s) (decide_eq_false c110) ?_
                            refine g_true (j := 8) (dj := 106) (b := true) rfl rfl rfl (ev_hit hN1071 rfl) ?_
                            refine op_eqb Try.underlying4 (ev_hit hN1071 rfl) (ev_hit hN1071 rfl) ?_
                            refine op_pick_t (ev_hit hN1071 rfl) (ev_hit hN1071 rfl) ?_
                            refine op_move (ev_hit hN1071 rfl) ?_
                            refine g_true (j := 15) (dj := 113) (b := true) rfl rfl rfl (ev_hit hN1071 rfl) ?_
                            refine op_move (ev_hit hN1071 rfl) ?_
                            refine g_true (j := 15) (dj := 113) (b := true) rfl rfl rfl (ev_hit hN1071 rfl) ?_
                            refine op_eql (ev_hit hN1071 rfl) rfl (fun c115 => ?_) (fun c115 => ?_)
                            · -- 115 True
                              refine op_pick_t (ev_hit hN1071 rfl) (ev_hit hN1071 rfl) ?_
                              refine op_move (ev_hit hN1071 rfl) ?_
                              refine g_true (j := 19) (dj := 117) (b := true) rfl rfl rfl (ev_hit hN1071 rfl) ?_
                              refine op_move (ev_hit hN1071 rfl) ?_
                              refine g_true (j := 19) (dj := 117) (b := true) rfl rfl rfl (ev_hit hN1071 rfl) ?_
                              refine op_move (ev_base hN1071 rfl s1071_9) ?_
                              refine g_true (j := 19) (dj := 117) (b := true) rfl rfl rfl (ev_hit hN1071 rfl) ?_
                              refine op_len_str Try.underlying9 (ev_hit hN1071 rfl) ?_
                              refine g_true (j := 19) (dj := 117) (b := true) rfl rfl rfl (ev_hit hN1071 rfl) ?_
                              refine op_eql (ev_hit hN1071 rfl) (ev_hit hN1071 rfl) (fun c121 => ?_) (fun c121 => ?_)
                              · -- 121 True
                                refine op_pick_t (ev_hit hN1071 rfl) (ev_hit hN1071 rfl) ?_
                                refine op_move (ev_hit hN1071 rfl) ?_
                                refine g_true (j := 25) (dj := 123) (b := true) rfl rfl rfl (ev_hit hN1071 rfl) ?_
                                refine op_loadA (cs := [(Value.int .i64 (takeV ((keyV x) ++ rl)).1.k), (Value.int .i64 (takeV ((keyV x) ++ rl)).1.n), (Value.string (bs (takeV ((keyV x) ++ rl)).1.s))]) agg50 rfl (ev_hit hN1071 rfl) (fun j u hu => by rw [Nat.zero_add]; exact hB1093.cell hu) ?_
                                refine g_true (j := 25) (dj := 123) (b := true) rfl rfl rfl (ev_hit hN1071 rfl) ?_
                                refine op_loadA (cs := [(Value.int .i64 x.k), (Value.int .i64 x.n), (Value.string (bs x.s))]) agg50 rfl (ev_base hN1071 rfl s1071_4) (fun j u hu => by rw [Nat.zero_add]; exact hB1030.cell hu) ?_
                                refine g_true (j := 25) (dj := 123) (b := true) rfl rfl rfl (ev_hit hN1071 rfl) ?_
                                by_cases c126 : (takeV ((keyV x) ++ rl)).1.k = x.k ∧ (takeV ((keyV x) ++ rl)).1.n = x.n ∧ (takeV ((keyV x) ++ rl)).1.s = x.s
                                · -- 126 True
                                  refine op_aeql (xs := [(Value.int .i64 (takeV ((keyV x) ++ rl)).1.k), (Value.int .i64 (takeV ((keyV x) ++ rl)).1.n), (Value.string (bs (takeV ((keyV x) ++ rl)).1.s))]) (ys := [(Value.int .i64 x.k), (Value.int .i64 x.n), (Value.string (bs x.s))]) (b' := true) (ev_hit hN1071 rfl) (ev_hit hN1071 rfl) (eq50 (takeV ((keyV x) ++ rl)).1.k x.k (takeV ((keyV x) ++ rl)).1.n x.n (takeV ((keyV x) ++ rl)).1.s x.s) (decide_eq_true c126) ?_
                                  refine op_pick_t (ev_hit hN1071 rfl) (ev_hit hN1071 rfl) ?_
                                  refine op_assign (ev_hit hN1071 rfl) ?_
                                  refine reg_nil ?_
                                  refine hK1154 _ _ ?_
                                  refine wp_ret ?_
                                  refine ret1 rfl hd1071 (ev_hit hN1071 rfl) ⟨_, rfl, ?_⟩
                                  -- path 20T 24T 29T 35F 60T 63F 66F 71F 76T 89F 104T 110F 115T 121T 126T
                                  exact ⟨hb, rfl⟩
                                · -- 126 False
                                  exact absurd (by rw [htk]; exact ⟨rfl, rfl, rfl⟩) c126
                              · -- 121 False
                                exact absurd (by rw [htk]) c121
                            · -- 115 False
                              exact absurd (by rw [htk]) c115
                        · -- 104 False
                          exact absurd (keys_stand c20 c24 ox oy) c104
                    · -- 76 False
                      refine g_true (j := 14) (dj := 69) (b := true) rfl rfl rfl (ev_hit hN1071 rfl) ?_
                      refine op_pick_f (ev_hit hN1071 rfl) (ev_hit hN1071 rfl) ?_
                      refine g_true (j := 14) (dj := 69) (b := true) rfl rfl rfl (ev_hit hN1071 rfl) ?_
                      refine op_move (ev_hit hN1071 rfl) ?_
                      refine g_true (j := 23) (dj := 78) (b := false) rfl rfl rfl (ev_hit hN1071 rfl) ?_
                      refine op_loadA (cs := [(Value.int .i64 x.k), (Value.int .i64 x.n), (Value.string (bs x.s))]) agg50 rfl (ev_base hN1071 rfl s1071_4) (fun j u hu => by rw [Nat.zero_add]; exact hB1030.cell hu) ?_
                      refine g_true (j := 23) (dj := 78) (b := false) rfl rfl rfl (ev_hit hN1071 rfl) ?_
                      refine op_loadA (cs := [(Value.int .i64 z.k), (Value.int .i64 z.n), (Value.string (bs z.s))]) agg50 rfl (ev_base hN1071 rfl s1071_6) (fun j u hu => by rw [Nat.zero_add]; exact hB1038.cell hu) ?_
                      refine g_true (j := 23) (dj := 78) (b := false) rfl rfl rfl (ev_hit hN1071 rfl) ?_
                      refine op_fn (vs := [(Value.agg #[(Value.int .i64 x.k), (Value.int .i64 x.n), (Value.string (bs x.s))]), (Value.agg #[(Value.int .i64 z.k), (Value.int .i64 z.n), (Value.string (bs z.s))])]) ok35 ⟨(ev_hit hN1071 rfl), ⟨(ev_hit hN1071 rfl), trivial⟩⟩ (Compare_ret x z _) ?_
                      rintro _ w1157 ⟨E1158, rfl⟩
                      have E1158 := grown_of_below E1158
                      have z_w1157 := E1158.size
                      have hv := hv.keep0 E1158
                      have hB1030 := hB1030.keep0 E1158
                      have hB1034 := hB1034.keep0 E1158
                      have hB1038 := hB1038.keep0 E1158
                      have hO1084 := hO1084.keep0 E1158
                      have hB1093 := hB1093.keep0 E1158
                      have hb := below_step0 hb E1158 hb.size
                      refine g_true (j := 23) (dj := 78) (b := false) rfl rfl rfl (ev_hit hN1071 rfl) ?_
                      refine op_eql (ev_hit hN1071 rfl) rfl (fun c82 => ?_) (fun c82 => ?_)
                      · -- 82 True
                        refine g_true (j := 14) (dj := 69) (b := true) rfl rfl rfl (ev_hit hN1071 rfl) ?_
                        refine op_pick_f (ev_hit hN1071 rfl) (ev_hit hN1071 rfl) ?_
                        refine op_pick_t (ev_hit hN1071 rfl) (ev_hit hN1071 rfl) ?_
                        refine op_assign (ev_hit hN1071 rfl) ?_
                        refine reg_nil ?_
                        refine hK1098 _ _ ?_
                        refine seq_any fun K1159 hK1159 => ?_
                        refine one_reg ?_
                        refine op_move (ev_base hN1071 rfl s1071_9) ?_
                        refine op_len_str Try.underlying9 (ev_hit hN1071 rfl) ?_
                        refine op_move (ev_base hN1071 rfl s1071_10) ?_
                        refine op_len_str Try.underlying9 (ev_hit hN1071 rfl) ?_
                        refine op_leq (ev_hit hN1071 rfl) (ev_hit hN1071 rfl) (fun c89 => ?_) (fun c89 => ?_)
                        · -- 89 True
                          refine op_move (ev_hit hN1071 rfl) ?_
                          refine g_true (j := 5) (dj := 90) (b := true) rfl rfl rfl (ev_hit hN1071 rfl) ?_
                          refine op_move (ev_base hN1071 rfl s1071_10) ?_
                          refine g_true (j := 5) (dj := 90) (b := true) rfl rfl rfl (ev_hit hN1071 rfl) ?_
                          refine op_move (ev_base hN1071 rfl s1071_9) ?_
                          refine g_true (j := 5) (dj := 90) (b := true) rfl rfl rfl (ev_hit hN1071 rfl) ?_
                          refine op_len_str Try.underlying9 (ev_hit hN1071 rfl) ?_
                          refine g_true (j := 5) (dj := 90) (b := true) rfl rfl rfl (ev_hit hN1071 rfl) ?_
                          refine op_slice_str (lo := 0) (hi := (keyV x).length) Try.underlying9 (ev_hit hN1071 rfl) (.inl ⟨rfl, rfl⟩) (.inr ⟨_, _, rfl, (ev_hit hN1071 rfl)⟩) (by omega) (by omega) ?_
                          refine g_true (j := 5) (dj := 90) (b := true) rfl rfl rfl (ev_hit hN1071 rfl) ?_
                          refine op_move (ev_base hN1071 rfl s1071_9) ?_
                          refine g_true (j := 5) (dj := 90) (b := true) rfl rfl rfl (ev_hit hN1071 rfl) ?_
                          refine op_seql (ev_hit hN1071 rfl) (ev_hit hN1071 rfl) (fun c96 => ?_) (fun c96 => ?_)
                          · -- 96 True
                            refine op_pick_t (ev_hit hN1071 rfl) (ev_hit hN1071 rfl) ?_
                            refine op_assign (ev_hit hN1071 rfl) ?_
                            refine reg_nil ?_
                            refine hK1159 _ _ ?_
                            refine seq_any fun K1160 hK1160 => ?_
                            refine one_reg ?_
                            refine op_move (ev_hit hN1071 rfl) ?_
                            refine op_move (ev_hit hN1071 rfl) ?_
                            refine g_true (j := 1) (dj := 99) (b := true) rfl rfl rfl (ev_hit hN1071 rfl) ?_
                            refine op_move (ev_base hN1071 rfl s1071_9) ?_
                            refine g_true (j := 1) (dj := 99) (b := true) rfl rfl rfl (ev_hit hN1071 rfl) ?_
                            refine op_move (ev_base hN1071 rfl s1071_10) ?_
                            refine g_true (j := 1) (dj := 99) (b := true) rfl rfl rfl (ev_hit hN1071 rfl) ?_
                            refine op_fn (vs := [(Value.string (bs (keyV x))), (Value.string (bs (keyV y)))]) ok42 ⟨(ev_hit hN1071 rfl), ⟨(ev_hit hN1071 rfl), trivial⟩⟩ (CompareText_ret (keyV x) (keyV y) _ (by first | assumption | omega | (simp only [List.length_append, List.length_cons, List.length_nil, List.length_drop, List.length_take]; omega) | (dsimp only; omega) | decide | (simp [keyV, be8_len]; done)) (by first | assumption | omega | (simp only [List.length_append, List.length_cons, List.length_nil, List.length_drop, List.length_take]; omega) | (dsimp only; omega) | decide | (simp [keyV, be8_len]; done))) ?_
                            rintro _ w1161 ⟨E1162, rfl⟩
                            have E1162 := grown_of_below E1162
                            have z_w1161 := E1162.size
                            have hv := hv.keep0 E1162
                            have hB1030 := hB1030.keep0 E1162
                            have hB1034 := hB1034.keep0 E1162
                            have hB1038 := hB1038.keep0 E1162
                            have hO1084 := hO1084.keep0 E1162
                            have hB1093 := hB1093.keep0 E1162
                            have hb := below_step0 hb E1162 hb.size
                            refine g_true (j := 1) (dj := 99) (b := true) rfl rfl rfl (ev_hit hN1071 rfl) ?_
                            refine op_move (ev_hit hN1071 rfl) ?_
                            refine g_true (j := 1) (dj := 99) (b := true) rfl rfl rfl (ev_hit hN1071 rfl) ?_
                            refine op_eql (ev_hit hN1071 rfl) (ev_hit hN1071 rfl) (fun c104 => ?_) (fun c104 => ?_)
                            · -- 104 True
                              refine op_pick_t (ev_hit hN1071 rfl) (ev_hit hN1071 rfl) ?_
                              refine op_move (ev_hit hN1071 rfl) ?_
                              refine g_true (j := 8) (dj := 106) (b := true) rfl rfl rfl (ev_hit hN1071 rfl) ?_
                              refine op_move (ev_hit hN1071 rfl) ?_
                              refine g_true (j := 8) (dj := 106) (b := true) rfl rfl rfl (ev_hit hN1071 rfl) ?_
                              refine op_loadA (cs := [(Value.int .i64 x.k), (Value.int .i64 x.n), (Value.string (bs x.s))]) agg50 rfl (ev_base hN1071 rfl s1071_4) (fun j u hu => by rw [Nat.zero_add]; exact hB1030.cell hu) ?_
                              refine g_true (j := 8) (dj := 106) (b := true) rfl rfl rfl (ev_hit hN1071 rfl) ?_
                              refine op_loadA (cs := [(Value.int .i64 y.k), (Value.int .i64 y.n), (Value.string (bs y.s))]) agg50 rfl (ev_base hN1071 rfl s1071_5) (fun j u hu => by rw [Nat.zero_add]; exact hB1034.cell hu) ?_
                              refine g_true (j := 8) (dj := 106) (b := true) rfl rfl rfl (ev_hit hN1071 rfl) ?_
                              by_cases c110 : x.k = y.k ∧ x.n = y.n ∧ x.s = y.s
                              · -- 110 True
                                refine op_aeql (xs := [(Value.int .i64 x.k), (Value.int .i64 x.n), (Value.string (bs x.s))]) (ys := [(Value.int .i64 y.k), (Value.int .i64 y.n), (Value.string (bs y.s))]) (b' := true) (ev_hit hN1071 rfl) (ev_hit hN1071 rfl) (eq50 x.k y.k x.n y.n x.s y.s) (decide_eq_true c110) ?_
                                refine g_true (j := 8) (dj := 106) (b := true) rfl rfl rfl (ev_hit hN1071 rfl) ?_
                                refine op_eqb Try.underlying4 (ev_hit hN1071 rfl) (ev_hit hN1071 rfl) ?_
                                refine op_pick_t (ev_hit hN1071 rfl) (ev_hit hN1071 rfl) ?_
                                refine op_move (ev_hit hN1071 rfl) ?_
                                refine g_true (j := 15) (dj := 113) (b := true) rfl rfl rfl (ev_hit hN1071 rfl) ?_
                                refine op_move (ev_hit hN1071 rfl) ?_
                                refine g_true (j := 15) (dj := 113) (b := true) rfl rfl rfl (ev_hit hN1071 rfl) ?_
                                refine op_eql (ev_hit hN1071 rfl) rfl (fun c115 => ?_) (fun c115 => ?_)
                                · -- 115 True
                                  refine op_pick_t (ev_hit hN1071 rfl) (ev_hit hN1071 rfl) ?_
                                  refine op_move (ev_hit hN1071 rfl) ?_
                                  refine g_true (j := 19) (dj := 117) (b := true) rfl rfl rfl (ev_hit hN1071 rfl) ?_
                                  refine op_move (ev_hit hN1071 rfl) ?_
                                  refine g_true (j := 19) (dj := 117) (b := true) rfl rfl rfl (ev_hit hN1071 rfl) ?_
                                  refine op_move (ev_base hN1071 rfl s1071_9) ?_
                                  refine g_true (j := 19) (dj := 117) (b := true) rfl rfl rfl (ev_hit hN1071 rfl) ?_
                                  refine op_len_str Try.underlying9 (ev_hit hN1071 rfl) ?_
                                  refine g_true (j := 19) (dj := 117) (b := true) rfl rfl rfl (ev_hit hN1071 rfl) ?_
                                  refine op_eql (ev_hit hN1071 rfl) (ev_hit hN1071 rfl) (fun c121 => ?_) (fun c121 => ?_)
                                  · -- 121 True
                                    refine op_pick_t (ev_hit hN1071 rfl) (ev_hit hN1071 rfl) ?_
                                    refine op_move (ev_hit hN1071 rfl) ?_
                                    refine g_true (j := 25) (dj := 123) (b := true) rfl rfl rfl (ev_hit hN1071 rfl) ?_
                                    refine op_loadA (cs := [(Value.int .i64 (takeV ((keyV x) ++ rl)).1.k), (Value.int .i64 (takeV ((keyV x) ++ rl)).1.n), (Value.string (bs (takeV ((keyV x) ++ rl)).1.s))]) agg50 rfl (ev_hit hN1071 rfl) (fun j u hu => by rw [Nat.zero_add]; exact hB1093.cell hu) ?_
                                    refine g_true (j := 25) (dj := 123) (b := true) rfl rfl rfl (ev_hit hN1071 rfl) ?_
                                    refine op_loadA (cs := [(Value.int .i64 x.k), (Value.int .i64 x.n), (Value.string (bs x.s))]) agg50 rfl (ev_base hN1071 rfl s1071_4) (fun j u hu => by rw [Nat.zero_add]; exact hB1030.cell hu) ?_
                                    refine g_true (j := 25) (dj := 123) (b := true) rfl rfl rfl (ev_hit hN1071 rfl) ?_
                                    by_cases c126 : (takeV ((keyV x) ++ rl)).1.k = x.k ∧ (takeV ((keyV x) ++ rl)).1.n = x.n ∧ (takeV ((keyV x) ++ rl)).1.s = x.s
                                    · -- 126 True
                                      refine op_aeql (xs := [(Value.int .i64 (takeV ((keyV x) ++ rl)).1.k), (Value.int .i64 (takeV ((keyV x) ++ rl)).1.n), (Value.string (bs (takeV ((keyV x) ++ rl)).1.s))]) (ys := [(Value.int .i64 x.k), (Value.int .i64 x.n), (Value.string (bs x.s))]) (b' := true) (ev_hit hN1071 rfl) (ev_hit hN1071 rfl) (eq50 (takeV ((keyV x) ++ rl)).1.k x.k (takeV ((keyV x) ++ rl)).1.n x.n (takeV ((keyV x) ++ rl)).1.s x.s) (decide_eq_true c126) ?_
                                      refine op_pick_t (ev_hit hN1071 rfl) (ev_hit hN1071 rfl) ?_
                                      refine op_assign (ev_hit hN1071 rfl) ?_
                                      refine reg_nil ?_
                                      refine hK1160 _ _ ?_
                                      refine wp_ret ?_
                                      refine ret1 rfl hd1071 (ev_hit hN1071 rfl) ⟨_, rfl, ?_⟩
                                      -- path 20T 24T 29T 35F 60T 63F 66F 71F 76F 82T 89T 96T 104T 110T 115T 121T 126T
                                      exact ⟨hb, rfl⟩
                                    · -- 126 False
                                      exact absurd (by rw [htk]; exact ⟨rfl, rfl, rfl⟩) c126
                                  · -- 121 False
                                    exact absurd (by rw [htk]) c121
                                · -- 115 False
                                  exact absurd (by rw [htk]) c115
                              · -- 110 False
                                exact absurd (veq_of (key_prefix c20 c24 ox oy (by simpa using c96))) c110
                            · -- 104 False
                              exact absurd (keys_stand c20 c24 ox oy) c104
                          · -- 96 False
                            refine op_pick_t (ev_hit hN1071 rfl) (ev_hit hN1071 rfl) ?_
                            refine op_assign (ev_hit hN1071 rfl) ?_
                            refine reg_nil ?_
                            refine hK1159 _ _ ?_
                            refine seq_any fun K1163 hK1163 => ?_
                            refine one_reg ?_
                            refine op_move (ev_hit hN1071 rfl) ?_
                            refine op_move (ev_hit hN1071 rfl) ?_
                            refine g_true (j := 1) (dj := 99) (b := true) rfl rfl rfl (ev_hit hN1071 rfl) ?_
                            refine op_move (ev_base hN1071 rfl s1071_9) ?_
                            refine g_true (j := 1) (dj := 99) (b := true) rfl rfl rfl (ev_hit hN1071 rfl) ?_
                            refine op_move (ev_base hN1071 rfl s1071_10) ?_
                            refine g_true (j := 1) (dj := 99) (b := true) rfl rfl rfl (ev_hit hN1071 rfl) ?_
                            refine op_fn (vs := [(Value.string (bs (keyV x))), (Value.string (bs (keyV y)))]) ok42 ⟨(ev_hit hN1071 rfl), ⟨(ev_hit hN1071 rfl), trivial⟩⟩ (CompareText_ret (keyV x) (keyV y) _ (by first | assumption | omega | (simp only [List.length_append, List.length_cons, List.length_nil, List.length_drop, List.length_take]; omega) | (dsimp only; omega) | decide | (simp [keyV, be8_len]; done)) (by first | assumption | omega | (simp only [List.length_append, List.length_cons, List.length_nil, List.length_drop, List.length_take]; omega) | (dsimp only; omega) | decide | (simp [keyV, be8_len]; done))) ?_
                            rintro _ w1164 ⟨E1165, rfl⟩
                            have E1165 := grown_of_below E1165
                            have z_w1164 := E1165.size
                            have hv := hv.keep0 E1165
                            have hB1030 := hB1030.keep0 E1165
                            have hB1034 := hB1034.keep0 E1165
                            have hB1038 := hB1038.keep0 E1165
                            have hO1084 := hO1084.keep0 E1165
                            have hB1093 := hB1093.keep0 E1165
                            have hb := below_step0 hb E1165 hb.size
                            refine g_true (j := 1) (dj := 99) (b := true) rfl rfl rfl (ev_hit hN1071 rfl) ?_
                            refine op_move (ev_hit hN1071 rfl) ?_
                            refine g_true (j := 1) (dj := 99) (b := true) rfl rfl rfl (ev_hit hN1071 rfl) ?_
                            refine op_eql (ev_hit hN1071 rfl) (ev_hit hN1071 rfl) (fun c104 => ?_) (fun c104 => ?_)
                            · -- 104 True
                              refine op_pick_t (ev_hit hN1071 rfl) (ev_hit hN1071 rfl) ?_
                              refine op_move (ev_hit hN1071 rfl) ?_
                              refine g_true (j := 8) (dj := 106) (b := true) rfl rfl rfl (ev_hit hN1071 rfl) ?_
                              refine op_move (ev_hit hN1071 rfl) ?_
                              refine g_true (j := 8) (dj := 106) (b := true) rfl rfl rfl (ev_hit hN1071 rfl) ?_
                              refine op_loadA (cs := [(Value.int .i64 x.k), (Value.int .i64 x.n), (Value.string (bs x.s))]) agg50 rfl (ev_base hN1071 rfl s1071_4) (fun j u hu => by rw [Nat.zero_add]; exact hB1030.cell hu) ?_
                              refine g_true (j := 8) (dj := 106) (b := true) rfl rfl rfl (ev_hit hN1071 rfl) ?_
                              refine op_loadA (cs := [(Value.int .i64 y.k), (Value.int .i64 y.n), (Value.string (bs y.s))]) agg50 rfl (ev_base hN1071 rfl s1071_5) (fun j u hu => by rw [Nat.zero_add]; exact hB1034.cell hu) ?_
                              refine g_true (j := 8) (dj := 106) (b := true) rfl rfl rfl (ev_hit hN1071 rfl) ?_
                              by_cases c110 : x.k = y.k ∧ x.n = y.n ∧ x.s = y.s
                              · -- 110 True
                                exact absurd (by rw [vl_ext c110]; simp) c96
                              · -- 110 False
                                refine op_aeql (xs := [(Value.int .i64 x.k), (Value.int .i64 x.n), (Value.string (bs x.s))]) (ys := [(Value.int .i64 y.k), (Value.int .i64 y.n), (Value.string (bs y.s))]) (b' := false) (ev_hit hN1071 rfl) (ev_hit hN1071 rfl) (eq50 x.k y.k x.n y.n x.s y.s) (decide_eq_false c110) ?_
                                refine g_true (j := 8) (dj := 106) (b := true) rfl rfl rfl (ev_hit hN1071 rfl) ?_
                                refine op_eqb Try.underlying4 (ev_hit hN1071 rfl) (ev_hit hN1071 rfl) ?_
                                refine op_pick_t (ev_hit hN1071 rfl) (ev_hit hN1071 rfl) ?_
                                refine op_move (ev_hit hN1071 rfl) ?_
                                refine g_true (j := 15) (dj := 113) (b := true) rfl rfl rfl (ev_hit hN1071 rfl) ?_
                                refine op_move (ev_hit hN1071 rfl) ?_
                                refine g_true (j := 15) (dj := 113) (b := true) rfl rfl rfl (ev_hit hN1071 rfl) ?_
                                refine op_eql (ev_hit hN1071 rfl) rfl (fun c115 => ?_) (fun c115 => ?_)
                                · -- 115 True
                                  refine op_pick_t (ev_hit hN1071 rfl) (ev_hit hN1071 rfl) ?_
                                  refine op_move (ev_hit hN1071 rfl) ?_
                                  refine g_true (j := 19) (dj := 117) (b := true) rfl rfl rfl (ev_hit hN1071 rfl) ?_
                                  refine op_move (ev_hit hN1071 rfl) ?_
                                  refine g_true (j := 19) (dj := 117) (b := true) rfl rfl rfl (ev_hit hN1071 rfl) ?_
                                  refine op_move (ev_base hN1071 rfl s1071_9) ?_
                                  refine g_true (j := 19) (dj := 117) (b := true) rfl rfl rfl (ev_hit hN1071 rfl) ?_
                                  refine op_len_str Try.underlying9 (ev_hit hN1071 rfl) ?_
                                  refine g_true (j := 19) (dj := 117) (b := true) rfl rfl rfl (ev_hit hN1071 rfl) ?_
                                  refine op_eql (ev_hit hN1071 rfl) (ev_hit hN1071 rfl) (fun c121 => ?_) (fun c121 => ?_)
                                  · -- 121 True
                                    refine op_pick_t (ev_hit hN1071 rfl) (ev_hit hN1071 rfl) ?_
                                    refine op_move (ev_hit hN1071 rfl) ?_
                                    refine g_true (j := 25) (dj := 123) (b := true) rfl rfl rfl (ev_hit hN1071 rfl) ?_
                                    refine op_loadA (cs := [(Value.int .i64 (takeV ((keyV x) ++ rl)).1.k), (Value.int .i64 (takeV ((keyV x) ++ rl)).1.n), (Value.string (bs (takeV ((keyV x) ++ rl)).1.s))]) agg50 rfl (ev_hit hN1071 rfl) (fun j u hu => by rw [Nat.zero_add]; exact hB1093.cell hu) ?_
                                    refine g_true (j := 25) (dj := 123) (b := true) rfl rfl rfl (ev_hit hN1071 rfl) ?_
                                    refine op_loadA (cs := [(Value.int .i64 x.k), (Value.int .i64 x.n), (Value.string (bs x.s))]) agg50 rfl (ev_base hN1071 rfl s1071_4) (fun j u hu => by rw [Nat.zero_add]; exact hB1030.cell hu) ?_
                                    refine g_true (j := 25) (dj := 123) (b := true) rfl rfl rfl (ev_hit hN1071 rfl) ?_
                                    by_cases c126 : (takeV ((keyV x) ++ rl)).1.k = x.k ∧ (takeV ((keyV x) ++ rl)).1.n = x.n ∧ (takeV ((keyV x) ++ rl)).1.s = x.s
                                    · -- 126 True
                                      refine op_aeql (xs := [(Value.int .i64 (takeV ((keyV x) ++ rl)).1.k), (Value.int .i64 (takeV ((keyV x) ++ rl)).1.n), (Value.string (bs (takeV ((keyV x) ++ rl)).1.s))]) (ys := [(Value.int .i64 x.k), (Value.int .i64 x.n), (Value.string (bs x.s))]) (b' := true) (ev_hit hN1071 rfl) (ev_hit hN1071 rfl) (eq50 (takeV ((keyV x) ++ rl)).1.k x.k (takeV ((keyV x) ++ rl)).1.n x.n (takeV ((keyV x) ++ rl)).1.s x.s) (decide_eq_true c126) ?_
                                      refine op_pick_t (ev_hit hN1071 rfl) (ev_hit hN1071 rfl) ?_
                                      refine op_assign (ev_hit hN1071 rfl) ?_
                                      refine reg_nil ?_
                                      refine hK1163 _ _ ?_
                                      refine wp_ret ?_
                                      refine ret1 rfl hd1071 (ev_hit hN1071 rfl) ⟨_, rfl, ?_⟩
                                      -- path 20T 24T 29T 35F 60T 63F 66F 71F 76F 82T 89T 96F 104T 110F 115T 121T 126T
                                      exact ⟨hb, rfl⟩
                                    · -- 126 False
                                      exact absurd (by rw [htk]; exact ⟨rfl, rfl, rfl⟩) c126
                                  · -- 121 False
                                    exact absurd (by rw [htk]) c121
                                · -- 115 False
                                  exact absurd (by rw [htk]) c115
                            · -- 104 False
                              exact absurd (keys_stand c20 c24 ox oy) c104
                        · -- 89 False
                          refine op_move (ev_hit hN1071 rfl) ?_
                          refine g_false (j := 5) (dj := 90) (b := true) rfl rfl rfl (ev_hit hN1071 rfl) rfl rfl ?_
                          refine g_false (j := 5) (dj := 90) (b := true) rfl rfl rfl (ev_hit hN1071 rfl) rfl rfl ?_
                          refine g_false (j := 5) (dj := 90) (b := true) rfl rfl rfl (ev_hit hN1071 rfl) rfl rfl ?_
                          refine g_false (j := 5) (dj := 90) (b := true) rfl rfl rfl (ev_hit hN1071 rfl) rfl rfl ?_
                          refine g_false (j := 5) (dj := 90) (b := true) rfl rfl rfl (ev_hit hN1071 rfl) rfl rfl ?_
                          refine g_false (j := 5) (dj := 90) (b := true) rfl rfl rfl (ev_hit hN1071 rfl) rfl rfl ?_
                          refine op_pick_f (ev_hit hN1071 rfl) rfl ?_
                          refine op_assign (ev_hit hN1071 rfl) ?_
                          refine reg_nil ?_
                          refine hK1159 _ _ ?_
                          refine seq_any fun K1166 hK1166 => ?_
                          refine one_reg ?_
                          refine op_move (ev_hit hN1071 rfl) ?_
                          refine op_move (ev_hit hN1071 rfl) ?_
                          refine g_true (j := 1) (dj := 99) (b := true) rfl rfl rfl (ev_hit hN1071 rfl) ?_
                          refine op_move (ev_base hN1071 rfl s1071_9) ?_
                          refine g_true (j := 1) (dj := 99) (b := true) rfl rfl rfl (ev_hit hN1071 rfl) ?_
                          refine op_move (ev_base hN1071 rfl s1071_10) ?_
                          refine g_true (j := 1) (dj := 99) (b := true) rfl rfl rfl (ev_hit hN1071 rfl) ?_
                          refine op_fn (vs := [(Value.string (bs (keyV x))), (Value.string (bs (keyV y)))]) ok42 ⟨(ev_hit hN1071 rfl), ⟨(ev_hit hN1071 rfl), trivial⟩⟩ (CompareText_ret (keyV x) (keyV y) _ (by first | assumption | omega | (simp only [List.length_append, List.length_cons, List.length_nil, List.length_drop, List.length_take]; omega) | (dsimp only; omega) | decide | (simp [keyV, be8_len]; done)) (by first | assumption | omega | (simp only [List.length_append, List.length_cons, List.length_nil, List.length_drop, List.length_take]; omega) | (dsimp only; omega) | decide | (simp [keyV, be8_len]; done))) ?_
                          rintro _ w1167 ⟨E1168, rfl⟩
                          have E1168 := grown_of_below E1168
                          have z_w1167 := E1168.size
                          have hv := hv.keep0 E1168
                          have hB1030 := hB1030.keep0 E1168
                          have hB1034 := hB1034.keep0 E1168
                          have hB1038 := hB1038.keep0 E1168
                          have hO1084 := hO1084.keep0 E1168
                          have hB1093 := hB1093.keep0 E1168
                          have hb := below_step0 hb E1168 hb.size
                          refine g_true (j := 1) (dj := 99) (b := true) rfl rfl rfl (ev_hit hN1071 rfl) ?_
                          refine op_move (ev_hit hN1071 rfl) ?_
                          refine g_true (j := 1) (dj := 99) (b := true) rfl rfl rfl (ev_hit hN1071 rfl) ?_
                          refine op_eql (ev_hit hN1071 rfl) (ev_hit hN1071 rfl) (fun c104 => ?_) (fun c104 => ?_)
                          · -- 104 True
                            refine op_pick_t (ev_hit hN1071 rfl) (ev_hit hN1071 rfl) ?_
                            refine op_move (ev_hit hN1071 rfl) ?_
                            refine g_true (j := 8) (dj := 106) (b := true) rfl rfl rfl (ev_hit hN1071 rfl) ?_
                            refine op_move (ev_hit hN1071 rfl) ?_
                            refine g_true (j := 8) (dj := 106) (b := true) rfl rfl rfl (ev_hit hN1071 rfl) ?_
                            refine op_loadA (cs := [(Value.int .i64 x.k), (Value.int .i64 x.n), (Value.string (bs x.s))]) agg50 rfl (ev_base hN1071 rfl s1071_4) (fun j u hu => by rw [Nat.zero_add]; exact hB1030.cell hu) ?_
                            refine g_true (j := 8) (dj := 106) (b := true) rfl rfl rfl (ev_hit hN1071 rfl) ?_
                            refine op_loadA (cs := [(Value.int .i64 y.k), (Value.int .i64 y.n), (Value.string (bs y.s))]) agg50 rfl (ev_base hN1071 rfl s1071_5) (fun j u hu => by rw [Nat.zero_add]; exact hB1034.cell hu) ?_
                            refine g_true (j := 8) (dj := 106) (b := true) rfl rfl rfl (ev_hit hN1071 rfl) ?_
                            by_cases c110 : x.k = y.k ∧ x.n = y.n ∧ x.s = y.s
                            · -- 110 True
                              exact absurd (by rw [vl_ext c110]; exact Int.le_refl _) c89
                            · -- 110 False
                              refine op_aeql (xs := [(Value.int .i64 x.k), (Value.int .i64 x.n), (Value.string (bs x.s))]) (ys := [(Value.int .i64 y.k), (Value.int .i64 y.n), (Value.string (bs y.s))]) (b' := false) (ev_hit hN1071 rfl) (ev_hit hN1071 rfl) (eq50 x.k y.k x.n y.n x.s y.s) (decide_eq_false c110) ?_
                              refine g_true (j := 8) (dj := 106) (b := true) rfl rfl rfl (ev_hit hN1071 rfl) ?_
                              refine op_eqb Try.underlying4 (ev_hit hN1071 rfl) (ev_hit hN1071 rfl) ?_
                              refine op_pick_t (ev_hit hN1071 rfl) (ev_hit hN1071 rfl) ?_
                              refine op_move (ev_hit hN1071 rfl) ?_
                              refine g_true (j := 15) (dj := 113) (b := true) rfl rfl rfl (ev_hit hN1071 rfl) ?_
                              refine op_move (ev_hit hN1071 rfl) ?_
                              refine g_true (j := 15) (dj := 113) (b := true) rfl rfl rfl (ev_hit hN1071 rfl) ?_
                              refine op_eql (ev_hit hN1071 rfl) rfl (fun c115 => ?_) (fun c115 => ?_)
                              · -- 115 True
                                refine op_pick_t (ev_hit hN1071 rfl) (ev_hit hN1071 rfl) ?_
                                refine op_move (ev_hit hN1071 rfl) ?_
                                refine g_true (j := 19) (dj := 117) (b := true) rfl rfl rfl (ev_hit hN1071 rfl) ?_
                                refine op_move (ev_hit hN1071 rfl) ?_
                                refine g_true (j := 19) (dj := 117) (b := true) rfl rfl rfl (ev_hit hN1071 rfl) ?_
                                refine op_move (ev_base hN1071 rfl s1071_9) ?_
                                refine g_true (j := 19) (dj := 117) (b := true) rfl rfl rfl (ev_hit hN1071 rfl) ?_
                                refine op_len_str Try.underlying9 (ev_hit hN1071 rfl) ?_
                                refine g_true (j := 19) (dj := 117) (b := true) rfl rfl rfl (ev_hit hN1071 rfl) ?_
                                refine op_eql (ev_hit hN1071 rfl) (ev_hit hN1071 rfl) (fun c121 => ?_) (fun c121 => ?_)
                                · -- 121 True
                                  refine op_pick_t (ev_hit hN1071 rfl) (ev_hit hN1071 rfl) ?_
                                  refine op_move (ev_hit hN1071 rfl) ?_
                                  refine g_true (j := 25) (dj := 123) (b := true) rfl rfl rfl (ev_hit hN1071 rfl) ?_
                                  refine op_loadA (cs := [(Value.int .i64 (takeV ((keyV x) ++ rl)).1.k), (Value.int .i64 (takeV ((keyV x) ++ rl)).1.n), (Value.string (bs (takeV ((keyV x) ++ rl)).1.s))]) agg50 rfl (ev_hit hN1071 rfl) (fun j u hu => by rw [Nat.zero_add]; exact hB1093.cell hu) ?_
                                  refine g_true (j := 25) (dj := 123) (b := true) rfl rfl rfl (ev_hit hN1071 rfl) ?_
                                  refine op_loadA (cs := [(Value.int .i64 x.k), (Value.int .i64 x.n), (Value.string (bs x.s))]) agg50 rfl (ev_base hN1071 rfl s1071_4) (fun j u hu => by rw [Nat.zero_add]; exact hB1030.cell hu) ?_
                                  refine g_true (j := 25) (dj := 123) (b := true) rfl rfl rfl (ev_hit hN1071 rfl) ?_
                                  by_cases c126 : (takeV ((keyV x) ++ rl)).1.k = x.k ∧ (takeV ((keyV x) ++ rl)).1.n = x.n ∧ (takeV ((keyV x) ++ rl)).1.s = x.s
                                  · -- 126 True
                                    refine op_aeql (xs := [(Value.int .i64 (takeV ((keyV x) ++ rl)).1.k), (Value.int .i64 (takeV ((keyV x) ++ rl)).1.n), (Value.string (bs (takeV ((keyV x) ++ rl)).1.s))]) (ys := [(Value.int .i64 x.k), (Value.int .i64 x.n), (Value.string (bs x.s))]) (b' := true) (ev_hit hN1071 rfl) (ev_hit hN1071 rfl) (eq50 (takeV ((keyV x) ++ rl)).1.k x.k (takeV ((keyV x) ++ rl)).1.n x.n (takeV ((keyV x) ++ rl)).1.s x.s) (decide_eq_true c126) ?_
                                    refine op_pick_t (ev_hit hN1071 rfl) (ev_hit hN1071 rfl) ?_
                                    refine op_assign (ev_hit hN1071 rfl) ?_
                                    refine reg_nil ?_
                                    refine hK1166 _ _ ?_
                                    refine wp_ret ?_
                                    refine ret1 rfl hd1071 (ev_hit hN1071 rfl) ⟨_, rfl, ?_⟩
                                    -- path 20T 24T 29T 35F 60T 63F 66F 71F 76F 82T 89F 104T 110F 115T 121T 126T
                                    exact ⟨hb, rfl⟩
                                  · -- 126 False
                                    exact absurd (by rw [htk]; exact ⟨rfl, rfl, rfl⟩) c126
                                · -- 121 False
                                  exact absurd (by rw [htk]) c121
                              · -- 115 False
                                exact absurd (by rw [htk]) c115
                          · -- 104 False
                            exact absurd (keys_stand c20 c24 ox oy) c104
                      · -- 82 False
                        exact absurd (cmpW_trans (x := x) (y := y) (z := z) (by omega) (by omega)) c82
            · -- 60 False
              exact absurd (cmpW_swap x y) c60
      · -- 29 False
        rw [c29]
        refine g_true (j := 8) (dj := 27) (b := false) rfl rfl rfl (ev_hit hN rfl) ?_
        refine op_not (ev_hit hN rfl) ?_
        refine op_pick_f (ev_hit hN rfl) (ev_hit hN rfl) ?_
        refine op_move (ev_hit hN rfl) ?_
        refine g_false (j := 13) (dj := 32) (b := false) rfl rfl rfl (ev_hit hN rfl) rfl rfl ?_
        refine g_false (j := 13) (dj := 32) (b := false) rfl rfl rfl (ev_hit hN rfl) rfl rfl ?_
        refine g_false (j := 13) (dj := 32) (b := false) rfl rfl rfl (ev_hit hN rfl) rfl rfl ?_
        refine op_pick_t (ev_hit hN rfl) rfl ?_
        refine reg_nil ?_
        refine hK1044 _ _ ?_
        refine wp_cond_true (ev_hit hN rfl) ?_
        refine seq_any fun K1169 hK1169 => ?_
        refine one_reg ?_
        refine op_assign rfl ?_
        refine reg_nil ?_
        refine hK1169 _ _ ?_
        refine wp_ret (then_ret ( ?_))
        refine ret1 rfl hd (ev_hit hN rfl) ⟨_, rfl, ?_⟩
        -- path 20T 24T 29F
        exact ⟨hb, rfl⟩
    · -- 24 False
      rw [c24]
      refine g_true (j := 3) (dj := 22) (b := false) rfl rfl rfl (ev_hit hN rfl) ?_
      refine op_not (ev_hit hN rfl) ?_
      refine op_pick_f (ev_hit hN rfl) (ev_hit hN rfl) ?_
      refine op_move (ev_hit hN rfl) ?_
      refine g_false (j := 8) (dj := 27) (b := false) rfl rfl rfl (ev_hit hN rfl) rfl rfl ?_
      refine g_false (j := 8) (dj := 27) (b := false) rfl rfl rfl (ev_hit hN rfl) rfl rfl ?_
      refine g_false (j := 8) (dj := 27) (b := false) rfl rfl rfl (ev_hit hN rfl) rfl rfl ?_
      refine op_pick_t (ev_hit hN rfl) rfl ?_
      refine op_move (ev_hit hN rfl) ?_
      refine g_false (j := 13) (dj := 32) (b := false) rfl rfl rfl (ev_hit hN rfl) rfl rfl ?_
      refine g_false (j := 13) (dj := 32) (b := false) rfl rfl rfl (ev_hit hN rfl) rfl rfl ?_
      refine g_false (j := 13) (dj := 32) (b := false) rfl rfl rfl (ev_hit hN rfl) rfl rfl ?_
      refine op_pick_t (ev_hit hN rfl) rfl ?_
      refine reg_nil ?_
      refine hK1044 _ _ ?_
      refine wp_cond_true (ev_hit hN rfl) ?_
      refine seq_any fun K1170 hK1170 => ?_
      refine one_reg ?_
      refine op_assign rfl ?_
      refine reg_nil ?_
      refine hK1170 _ _ ?_
      refine wp_ret (then_ret ( ?_))
      refine ret1 rfl hd (ev_hit hN rfl) ⟨_, rfl, ?_⟩
      -- path 20T 24F
      exact ⟨hb, rfl⟩
  · -- 20 False
    rw [c20]
    refine op_not (ev_hit hN rfl) ?_
    refine op_move (ev_hit hN rfl) ?_
    refine g_false (j := 3) (dj := 22) (b := false) rfl rfl rfl (ev_hit hN rfl) rfl rfl ?_
    refine g_false (j := 3) (dj := 22) (b := false) rfl rfl rfl (ev_hit hN rfl) rfl rfl ?_
    refine g_false (j := 3) (dj := 22) (b := false) rfl rfl rfl (ev_hit hN rfl) rfl rfl ?_
    refine op_pick_t (ev_hit hN rfl) rfl ?_
    refine op_move (ev_hit hN rfl) ?_
    refine g_false (j := 8) (dj := 27) (b := false) rfl rfl rfl (ev_hit hN rfl) rfl rfl ?_
    refine g_false (j := 8) (dj := 27) (b := false) rfl rfl rfl (ev_hit hN rfl) rfl rfl ?_
    refine g_false (j := 8) (dj := 27) (b := false) rfl rfl rfl (ev_hit hN rfl) rfl rfl ?_
    refine op_pick_t (ev_hit hN rfl) rfl ?_
    refine op_move (ev_hit hN rfl) ?_
    refine g_false (j := 13) (dj := 32) (b := false) rfl rfl rfl (ev_hit hN rfl) rfl rfl ?_
    refine g_false (j := 13) (dj := 32) (b := false) rfl rfl rfl (ev_hit hN rfl) rfl rfl ?_
    refine g_false (j := 13) (dj := 32) (b := false) rfl rfl rfl (ev_hit hN rfl) rfl rfl ?_
    refine op_pick_t (ev_hit hN rfl) rfl ?_
    refine reg_nil ?_
    refine hK1044 _ _ ?_
    refine wp_cond_true (ev_hit hN rfl) ?_
    refine seq_any fun K1171 hK1171 => ?_
    refine one_reg ?_
    refine op_assign rfl ?_
    refine reg_nil ?_
    refine hK1171 _ _ ?_
    refine wp_ret (then_ret ( ?_))
    refine ret1 rfl hd (ev_hit hN rfl) ⟨_, rfl, ?_⟩
    -- path 20F
    exact ⟨hb, rfl⟩

end Go.Proofs.Ytkkongnmcfdioaa
