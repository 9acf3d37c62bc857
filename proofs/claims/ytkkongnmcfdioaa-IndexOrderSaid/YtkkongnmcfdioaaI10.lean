/- Walks, written by a program: what each function of the translation hands back. -/
import Derived.Test.YtkkongnmcfdioaaI9
namespace Go.Proofs.Ytkkongnmcfdioaa
open Go.Gx Go.RowKit
attribute [local irreducible] wpList Code.wp Calls

set_option maxHeartbeats 400000 in
theorem IndexOrder_ret (x y : Vl) (la lb : Lb) (n1 n2 : Nat) (cut : Int) (u u2 : Value) (w : World) (ox : OkV x) (oy : OkV y) (hl : la.length ≤ 9223372036854775807) (hm : lb.length ≤ 9223372036854775807) (hn1 : n1 < 18446744073709551616) (hn2 : n2 < 18446744073709551616) (hcut : -9223372036854775808 ≤ cut ∧ cut ≤ 9223372036854775807) (h : RdC w 0 w.heap.size 1 u la.length (la.map u16v)) (h2 : RdC w 0 w.heap.size 1 u2 lb.length (lb.map u16v)) : Ret Try.prog 14 #[(Value.agg #[(Value.int .i64 x.k), (Value.int .i64 x.n), (Value.string (bs x.s))]), (Value.agg #[(Value.int .i64 y.k), (Value.int .i64 y.n), (Value.string (bs y.s))]), u, u2, (Value.int .u64 ((n1 : Nat) : Int)), (Value.int .u64 ((n2 : Nat) : Int)), (Value.int .i64 cut)] w (fun v' w' => Below w.heap.size w w' ∧ v' = .bool true) := by
  have oxs := ox.2.2
  have oys := oy.2.2
  have hb := Below.refl w.heap.size w
  refine enter (N := 180) Try.func14 rfl rfl (by simp) fun a0 hN hd hA => ?_
  have s0 : a0.tmps.getD 0 undef = (Value.agg #[(Value.int .i64 x.k), (Value.int .i64 x.n), (Value.string (bs x.s))]) := hA 0 (by simp)
  have s1 : a0.tmps.getD 1 undef = (Value.agg #[(Value.int .i64 y.k), (Value.int .i64 y.n), (Value.string (bs y.s))]) := hA 1 (by simp)
  have s2 : a0.tmps.getD 2 undef = u := hA 2 (by simp)
  have s3 : a0.tmps.getD 3 undef = u2 := hA 3 (by simp)
  have s4 : a0.tmps.getD 4 undef = (Value.int .u64 ((n1 : Nat) : Int)) := hA 4 (by simp)
  have s5 : a0.tmps.getD 5 undef = (Value.int .u64 ((n2 : Nat) : Int)) := hA 5 (by simp)
  have s6 : a0.tmps.getD 6 undef = (Value.int .i64 cut) := hA 6 (by simp)
  clear hA
  refine seq_any fun K1 hK1 => ?_
  refine one_reg ?_
  refine op_box (cs := [(Value.int .i64 x.k), (Value.int .i64 x.n), (Value.string (bs x.s))]) (ev_base hN rfl s0) rfl ?_
  intro w2 b3 lo_b3 hi_b3 hB5 E4
  have z_w2 := E4.size
  have h := h.keep0 E4
  have h2 := h2.keep0 E4
  have hb := below_step0 hb E4 hb.size
  refine op_box (cs := [(Value.int .i64 y.k), (Value.int .i64 y.n), (Value.string (bs y.s))]) (ev_base hN rfl s1) rfl ?_
  intro w6 b7 lo_b7 hi_b7 hB9 E8
  have z_w6 := E8.size
  have h := h.keep0 E8
  have h2 := h2.keep0 E8
  have hB5 := hB5.keep0 E8
  have hb := below_step0 hb E8 hb.size
  refine op_assign rfl ?_
  refine reg_nil ?_
  refine hK1 _ _ ?_
  refine seq_any fun K10 hK10 => ?_
  refine seq_any fun K11 hK11 => ?_
  refine one_reg ?_
  refine op_fn (vs := []) ok53 trivial (begun16_ret _) ?_
  rintro _ w12 ⟨E13, rfl⟩
  have E13 := grown_of_below E13
  have z_w12 := E13.size
  have h := h.keep0 E13
  have h2 := h2.keep0 E13
  have hB5 := hB5.keep0 E13
  have hB9 := hB9.keep0 E13
  have hb := below_step0 hb E13 hb.size
  refine op_not (ev_hit hN rfl) ?_
  refine reg_nil ?_
  refine hK11 _ _ ?_
  refine wp_cond_false (ev_hit hN rfl) ?_
  refine wp_skip ?_
  refine hK10 _ _ ?_
  refine seq_any fun K14 hK14 => ?_
  refine seq_any fun K15 hK15 => ?_
  refine one_reg ?_
  refine op_loadA (cs := [(Value.int .i64 x.k), (Value.int .i64 x.n), (Value.string (bs x.s))]) agg50 rfl (ev_hit hN rfl) (fun j u hu => by rw [Nat.zero_add]; exact hB5.cell hu) ?_
  refine op_fn (vs := [(Value.agg #[(Value.int .i64 x.k), (Value.int .i64 x.n), (Value.string (bs x.s))])]) ok32 ⟨(ev_hit hN rfl), trivial⟩ (MayValue_ret x _ (by first | assumption | omega | (simp only [List.length_append, List.length_cons, List.length_nil, List.length_drop, List.length_take]; omega) | (dsimp only; omega) | decide | (simp [keyV, be8_len]; done))) ?_
  rintro _ w16 ⟨E17, rfl⟩
  have E17 := grown_of_below E17
  have z_w16 := E17.size
  have h := h.keep0 E17
  have h2 := h2.keep0 E17
  have hB5 := hB5.keep0 E17
  have hB9 := hB9.keep0 E17
  have hb := below_step0 hb E17 hb.size
  rcases Bool.eq_false_or_eq_true ((mayV x)) with c35 | c35
  · -- 35 True
    rw [c35]
    refine op_not (ev_hit hN rfl) ?_
    refine op_move (ev_hit hN rfl) ?_
    refine g_true (j := 3) (dj := 37) (b := false) rfl rfl rfl (ev_hit hN rfl) ?_
    refine op_loadA (cs := [(Value.int .i64 y.k), (Value.int .i64 y.n), (Value.string (bs y.s))]) agg50 rfl (ev_hit hN rfl) (fun j u hu => by rw [Nat.zero_add]; exact hB9.cell hu) ?_
    refine g_true (j := 3) (dj := 37) (b := false) rfl rfl rfl (ev_hit hN rfl) ?_
    refine op_fn (vs := [(Value.agg #[(Value.int .i64 y.k), (Value.int .i64 y.n), (Value.string (bs y.s))])]) ok32 ⟨(ev_hit hN rfl), trivial⟩ (MayValue_ret y _ (by first | assumption | omega | (simp only [List.length_append, List.length_cons, List.length_nil, List.length_drop, List.length_take]; omega) | (dsimp only; omega) | decide | (simp [keyV, be8_len]; done))) ?_
    rintro _ w18 ⟨E19, rfl⟩
    have E19 := grown_of_below E19
    have z_w18 := E19.size
    have h := h.keep0 E19
    have h2 := h2.keep0 E19
    have hB5 := hB5.keep0 E19
    have hB9 := hB9.keep0 E19
    have hb := below_step0 hb E19 hb.size
    rcases Bool.eq_false_or_eq_true ((mayV y)) with c39 | c39
    · -- 39 True
      rw [c39]
      refine g_true (j := 3) (dj := 37) (b := false) rfl rfl rfl (ev_hit hN rfl) ?_
      refine op_not (ev_hit hN rfl) ?_
      refine op_pick_f (ev_hit hN rfl) (ev_hit hN rfl) ?_
      refine op_move (ev_hit hN rfl) ?_
      refine g_true (j := 8) (dj := 42) (b := false) rfl rfl rfl (ev_hit hN rfl) ?_
      refine op_move (ev_base hN rfl s2) ?_
      refine g_true (j := 8) (dj := 42) (b := false) rfl rfl rfl (ev_hit hN rfl) ?_
      refine op_fn (vs := [u]) ok54 ⟨(ev_hit hN rfl), trivial⟩ (refMay_ret la _ _ (by first | assumption | omega | (simp only [List.length_append, List.length_cons, List.length_nil, List.length_drop, List.length_take]; omega) | (dsimp only; omega) | decide | (simp [keyV, be8_len]; done)) (show RdC w18 0 w18.heap.size 1 u la.length (la.map u16v) from by have hh : RdC w18 0 w18.heap.size 1 _ _ _ := (h.mono (L' := 0) (B' := w18.heap.size) (Nat.zero_le _) (by omega)); first | exact hh | exact hh.cast (by first | omega | (simp; try omega)) (by first | rfl | simp [u16v]))) ?_
      rintro _ w20 ⟨E21, rfl⟩
      have E21 := grown_of_below E21
      have z_w20 := E21.size
      have h := h.keep0 E21
      have h2 := h2.keep0 E21
      have hB5 := hB5.keep0 E21
      have hB9 := hB9.keep0 E21
      have hb := below_step0 hb E21 hb.size
      rcases Bool.eq_false_or_eq_true ((mayL la)) with c44 | c44
      · -- 44 True
        rw [c44]
        refine g_true (j := 8) (dj := 42) (b := false) rfl rfl rfl (ev_hit hN rfl) ?_
        refine op_not (ev_hit hN rfl) ?_
        refine op_pick_f (ev_hit hN rfl) (ev_hit hN rfl) ?_
        refine op_move (ev_hit hN rfl) ?_
        refine g_true (j := 13) (dj := 47) (b := false) rfl rfl rfl (ev_hit hN rfl) ?_
        refine op_move (ev_base hN rfl s3) ?_
        refine g_true (j := 13) (dj := 47) (b := false) rfl rfl rfl (ev_hit hN rfl) ?_
        refine op_fn (vs := [u2]) ok54 ⟨(ev_hit hN rfl), trivial⟩ (refMay_ret lb _ _ (by first | assumption | omega | (simp only [List.length_append, List.length_cons, List.length_nil, List.length_drop, List.length_take]; omega) | (dsimp only; omega) | decide | (simp [keyV, be8_len]; done)) (show RdC w20 0 w20.heap.size 1 u2 lb.length (lb.map u16v) from by have hh : RdC w20 0 w20.heap.size 1 _ _ _ := (h2.mono (L' := 0) (B' := w20.heap.size) (Nat.zero_le _) (by omega)); first | exact hh | exact hh.cast (by first | omega | (simp; try omega)) (by first | rfl | simp [u16v]))) ?_
        rintro _ w22 ⟨E23, rfl⟩
        have E23 := grown_of_below E23
        have z_w22 := E23.size
        have h := h.keep0 E23
        have h2 := h2.keep0 E23
        have hB5 := hB5.keep0 E23
        have hB9 := hB9.keep0 E23
        have hb := below_step0 hb E23 hb.size
        rcases Bool.eq_false_or_eq_true ((mayL lb)) with c49 | c49
        · -- 49 True
          rw [c49]
          refine g_true (j := 13) (dj := 47) (b := false) rfl rfl rfl (ev_hit hN rfl) ?_
          refine op_not (ev_hit hN rfl) ?_
          refine op_pick_f (ev_hit hN rfl) (ev_hit hN rfl) ?_
          refine reg_nil ?_
          refine hK15 _ _ ?_
          refine wp_cond_false (ev_hit hN rfl) ?_
          refine wp_skip ?_
          refine hK14 _ _ ?_
          refine seq_any fun K24 hK24 => ?_
          have hkx := keyX_len x la n1
          have hky := keyX_len y lb n2
          have hvx := keyV_le x
          have hvy := keyV_le y
          have hxl := may_len c35
          have hyl := may_len c39
          have hll := mayL_len c44
          have hlm := mayL_len c49
          have oxn := ox.2.1
          have oyn := oy.2.1
          have hpl := place_rng cut ((keyX x la n1).length : Int) (by omega)
          refine reg_tail 9 (Φ := phiL [(fun uz _ => uz = (Value.agg #[(Value.int .i64 x.k), (Value.int .i64 x.n), (Value.string (bs x.s))])), (fun uz _ => uz = u), (fun uz _ => uz = (Value.int .u64 ((n1 : Nat) : Int))), (fun uz w' => ∃ (v25 : Value), uz = v25 ∧ Own w' w22.heap.size 5 1 v25 (keyX x la n1).length ((keyX x la n1).map u8v)), (fun uz _ => uz = (Value.agg #[(Value.int .i64 y.k), (Value.int .i64 y.n), (Value.string (bs y.s))])), (fun uz _ => uz = u2), (fun uz _ => uz = (Value.int .u64 ((n2 : Nat) : Int))), (fun uz w' => ∃ (v28 : Value), uz = v28 ∧ Own w' w22.heap.size 5 1 v28 (keyX y lb n2).length ((keyX y lb n2).map u8v)), (fun uz w' => ∃ (y25 : Value), uz = y25 ∧ Own w' w22.heap.size 5 1 y25 (keyX x la n1).length ((keyX x la n1).map u8v))]) mixed (by kernel_rfl) (by kernel_rfl) (by kernel_rfl) (by kernel_rfl) hN (StL.get (StL.eq (StL.eq (StL.eq (StL.cons (fun u w1 w2 E h => by obtain ⟨x0, hv, f0⟩ := h; exact ⟨x0, hv, f0.keep0 E⟩) (StL.eq (StL.eq (StL.eq (StL.cons (fun u w1 w2 E h => by obtain ⟨x0, hv, f0⟩ := h; exact ⟨x0, hv, f0.keep0 E⟩) (StL.cons (fun u w1 w2 E h => by obtain ⟨x0, hv, f0⟩ := h; exact ⟨x0, hv, f0.keep0 E⟩) (StL.nil _))))))))))) (ObT.get (ObT.cons ?_ (ObT.cons ?_ (ObT.cons ?_ (ObT.cons ?_ (ObT.cons ?_ (ObT.cons ?_ (ObT.cons ?_ (ObT.cons ?_ (ObT.cons ?_ (ObT.nil))))))))))) ?_
          · -- operation 0, slot 52
            intro a27 w27 hN27 hR27 hbs27 hdp27
            have hR27 : w22.grownBy w27 none := hR27
            have z_w27 := hR27.size
            have h := h.keep0 hR27
            have h2 := h2.keep0 hR27
            have hB5 := hB5.keep0 hR27
            have hB9 := hB9.keep0 hR27
            have hb := below_step0 hb hR27 hb.size
            have q27_7 : a27.tmps.getD 7 undef = (ptr b3 0) := (hbs27 7 rfl).trans (sl_hit hN rfl)
            clear hbs27 hdp27
            refine op_loadA (cs := [(Value.int .i64 x.k), (Value.int .i64 x.n), (Value.string (bs x.s))]) agg50 rfl (ev_base hN27 rfl q27_7) (fun j u hu => by rw [Nat.zero_add]; exact hB5.cell hu) ?_
            exact obN_end rfl rfl ((grown_refl _ _))
          · -- operation 1, slot 53
            intro a28 w28 hN28 hR28 hbs28 hdp28
            have hR28 : w22.grownBy w28 none := hR28
            have q28_2 : a28.tmps.getD 2 undef = u := (hbs28 2 rfl).trans (sl_base hN rfl s2)
            clear hbs28 hdp28
            refine op_move (ev_base hN28 rfl q28_2) ?_
            exact obN_end rfl rfl ((grown_refl _ _))
          · -- operation 2, slot 54
            intro a29 w29 hN29 hR29 hbs29 hdp29
            have hR29 : w22.grownBy w29 none := hR29
            have q29_4 : a29.tmps.getD 4 undef = (Value.int .u64 ((n1 : Nat) : Int)) := (hbs29 4 rfl).trans (sl_base hN rfl s4)
            clear hbs29 hdp29
            refine op_move (ev_base hN29 rfl q29_4) ?_
            exact obN_end rfl rfl ((grown_refl _ _))
          · -- operation 3, slot 55
            intro a30 w30 hN30 hR30 hbs30 hdp30
            have hR30 : w22.grownBy w30 none := hR30
            have z_w30 := hR30.size
            have h := h.keep0 hR30
            have h2 := h2.keep0 hR30
            have hB5 := hB5.keep0 hR30
            have hB9 := hB9.keep0 hR30
            have hb := below_step0 hb hR30 hb.size
            have q30_52 : a30.tmps.getD 52 undef = (Value.agg #[(Value.int .i64 x.k), (Value.int .i64 x.n), (Value.string (bs x.s))]) := hdp30 0 _ 52 (by kernel_rfl) rfl rfl
            have q30_53 : a30.tmps.getD 53 undef = u := hdp30 1 _ 53 (by kernel_rfl) rfl rfl
            have q30_54 : a30.tmps.getD 54 undef = (Value.int .u64 ((n1 : Nat) : Int)) := hdp30 2 _ 54 (by kernel_rfl) rfl rfl
            clear hbs30 hdp30
            refine op_fn (vs := [(Value.agg #[(Value.int .i64 x.k), (Value.int .i64 x.n), (Value.string (bs x.s))]), u, (Value.int .u64 ((n1 : Nat) : Int))]) ok57 ⟨(ev_base hN30 rfl q30_52), ⟨(ev_base hN30 rfl q30_53), ⟨(ev_base hN30 rfl q30_54), trivial⟩⟩⟩ (IKey_ret x la n1 _ _ (by first | assumption | omega | (simp only [List.length_append, List.length_cons, List.length_nil, List.length_drop, List.length_take]; omega) | (dsimp only; omega) | decide | (simp [keyV, be8_len]; done)) (by first | assumption | omega | (simp only [List.length_append, List.length_cons, List.length_nil, List.length_drop, List.length_take]; omega) | (dsimp only; omega) | decide | (simp [keyV, be8_len]; done)) (by first | assumption | omega | (simp only [List.length_append, List.length_cons, List.length_nil, List.length_drop, List.length_take]; omega) | (dsimp only; omega) | decide | (simp [keyV, be8_len]; done)) (by first | assumption | omega | (simp only [List.length_append, List.length_cons, List.length_nil, List.length_drop, List.length_take]; omega) | (dsimp only; omega) | decide | (simp [keyV, be8_len]; done)) (show RdC w30 0 w30.heap.size 1 u la.length (la.map u16v) from by have hh : RdC w30 0 w30.heap.size 1 _ _ _ := (h.mono (L' := 0) (B' := w30.heap.size) (Nat.zero_le _) (by omega)); first | exact hh | exact hh.cast (by first | omega | (simp; try omega)) (by first | rfl | simp [u16v]))) ?_
            rintro v31 w32 ⟨E33, hO31⟩
            have E33 := grown_of_below E33
            have z_w32 := E33.size
            have h := h.keep0 E33
            have h2 := h2.keep0 E33
            have hB5 := hB5.keep0 E33
            have hB9 := hB9.keep0 E33
            have hb := below_step0 hb E33 hb.size
            have hO31 := hO31.mono (base' := w22.heap.size) (by omega)
            exact obN_end rfl ⟨v31, rfl, hO31⟩ (E33)
          · -- operation 4, slot 56
            intro a34 w34 hN34 hR34 hbs34 hdp34
            have hR34 : w22.grownBy w34 none := hR34
            have z_w34 := hR34.size
            have h := h.keep0 hR34
            have h2 := h2.keep0 hR34
            have hB5 := hB5.keep0 hR34
            have hB9 := hB9.keep0 hR34
            have hb := below_step0 hb hR34 hb.size
            have q34_8 : a34.tmps.getD 8 undef = (ptr b7 0) := (hbs34 8 rfl).trans (sl_hit hN rfl)
            clear hbs34 hdp34
            refine op_loadA (cs := [(Value.int .i64 y.k), (Value.int .i64 y.n), (Value.string (bs y.s))]) agg50 rfl (ev_base hN34 rfl q34_8) (fun j u hu => by rw [Nat.zero_add]; exact hB9.cell hu) ?_
            exact obN_end rfl rfl ((grown_refl _ _))
          · -- operation 5, slot 57
            intro a35 w35 hN35 hR35 hbs35 hdp35
            have hR35 : w22.grownBy w35 none := hR35
            have q35_3 : a35.tmps.getD 3 undef = u2 := (hbs35 3 rfl).trans (sl_base hN rfl s3)
            clear hbs35 hdp35
            refine op_move (ev_base hN35 rfl q35_3) ?_
            exact obN_end rfl rfl ((grown_refl _ _))
          · -- operation 6, slot 58
            intro a36 w36 hN36 hR36 hbs36 hdp36
            have hR36 : w22.grownBy w36 none := hR36
            have q36_5 : a36.tmps.getD 5 undef = (Value.int .u64 ((n2 : Nat) : Int)) := (hbs36 5 rfl).trans (sl_base hN rfl s5)
            clear hbs36 hdp36
            refine op_move (ev_base hN36 rfl q36_5) ?_
            exact obN_end rfl rfl ((grown_refl _ _))
          · -- operation 7, slot 59
            intro a37 w37 hN37 hR37 hbs37 hdp37
            have hR37 : w22.grownBy w37 none := hR37
            have z_w37 := hR37.size
            have h := h.keep0 hR37
            have h2 := h2.keep0 hR37
            have hB5 := hB5.keep0 hR37
            have hB9 := hB9.keep0 hR37
            have hb := below_step0 hb hR37 hb.size
            have q37_56 : a37.tmps.getD 56 undef = (Value.agg #[(Value.int .i64 y.k), (Value.int .i64 y.n), (Value.string (bs y.s))]) := hdp37 4 _ 56 (by kernel_rfl) rfl rfl
            have q37_57 : a37.tmps.getD 57 undef = u2 := hdp37 5 _ 57 (by kernel_rfl) rfl rfl
            have q37_58 : a37.tmps.getD 58 undef = (Value.int .u64 ((n2 : Nat) : Int)) := hdp37 6 _ 58 (by kernel_rfl) rfl rfl
            clear hbs37 hdp37
            refine op_fn (vs := [(Value.agg #[(Value.int .i64 y.k), (Value.int .i64 y.n), (Value.string (bs y.s))]), u2, (Value.int .u64 ((n2 : Nat) : Int))]) ok57 ⟨(ev_base hN37 rfl q37_56), ⟨(ev_base hN37 rfl q37_57), ⟨(ev_base hN37 rfl q37_58), trivial⟩⟩⟩ (IKey_ret y lb n2 _ _ (by first | assumption | omega | (simp only [List.length_append, List.length_cons, List.length_nil, List.length_drop, List.length_take]; omega) | (dsimp only; omega) | decide | (simp [keyV, be8_len]; done)) (by first | assumption | omega | (simp only [List.length_append, List.length_cons, List.length_nil, List.length_drop, List.length_take]; omega) | (dsimp only; omega) | decide | (simp [keyV, be8_len]; done)) (by first | assumption | omega | (simp only [List.length_append, List.length_cons, List.length_nil, List.length_drop, List.length_take]; omega) | (dsimp only; omega) | decide | (simp [keyV, be8_len]; done)) (by first | assumption | omega | (simp only [List.length_append, List.length_cons, List.length_nil, List.length_drop, List.length_take]; omega) | (dsimp only; omega) | decide | (simp [keyV, be8_len]; done)) (show RdC w37 0 w37.heap.size 1 u2 lb.length (lb.map u16v) from by have hh : RdC w37 0 w37.heap.size 1 _ _ _ := (h2.mono (L' := 0) (B' := w37.heap.size) (Nat.zero_le _) (by omega)); first | exact hh | exact hh.cast (by first | omega | (simp; try omega)) (by first | rfl | simp [u16v]))) ?_
            rintro v38 w39 ⟨E40, hO38⟩
            have E40 := grown_of_below E40
            have z_w39 := E40.size
            have h := h.keep0 E40
            have h2 := h2.keep0 E40
            have hB5 := hB5.keep0 E40
            have hB9 := hB9.keep0 E40
            have hb := below_step0 hb E40 hb.size
            have hO38 := hO38.mono (base' := w22.heap.size) (by omega)
            exact obN_end rfl ⟨v38, rfl, hO38⟩ (E40)
          · -- operation 8, slot 15
            intro a41 w41 hN41 hR41 hbs41 hdp41
            have hR41 : w22.grownBy w41 none := hR41
            obtain ⟨v25, q41_55, hO25⟩ := hdp41 3 _ 55 (by kernel_rfl) rfl rfl
            have hO25 : Own w41 w22.heap.size 5 1 v25 (keyX x la n1).length ((keyX x la n1).map u8v) := hO25
            clear hbs41 hdp41
            refine op_assign (ev_base hN41 rfl q41_55) ?_
            exact obN_end rfl ⟨v25, rfl, hO25⟩ ((grown_refl _ _))
          · -- behind the region
            intro a42 w42 hN42 hd42 hbs42 hph42 E42
            have hd42 := hd42.trans hd
            have s42_0 : a42.tmps.getD 0 undef = (Value.agg #[(Value.int .i64 x.k), (Value.int .i64 x.n), (Value.string (bs x.s))]) := (hbs42 0 rfl).trans (sl_base hN rfl s0)
            have s42_1 : a42.tmps.getD 1 undef = (Value.agg #[(Value.int .i64 y.k), (Value.int .i64 y.n), (Value.string (bs y.s))]) := (hbs42 1 rfl).trans (sl_base hN rfl s1)
            have s42_2 : a42.tmps.getD 2 undef = u := (hbs42 2 rfl).trans (sl_base hN rfl s2)
            have s42_3 : a42.tmps.getD 3 undef = u2 := (hbs42 3 rfl).trans (sl_base hN rfl s3)
            have s42_4 : a42.tmps.getD 4 undef = (Value.int .u64 ((n1 : Nat) : Int)) := (hbs42 4 rfl).trans (sl_base hN rfl s4)
            have s42_5 : a42.tmps.getD 5 undef = (Value.int .u64 ((n2 : Nat) : Int)) := (hbs42 5 rfl).trans (sl_base hN rfl s5)
            have s42_6 : a42.tmps.getD 6 undef = (Value.int .i64 cut) := (hbs42 6 rfl).trans (sl_base hN rfl s6)
            have s42_7 : a42.tmps.getD 7 undef = (ptr b3 0) := (hbs42 7 rfl).trans (sl_hit hN rfl)
            have s42_8 : a42.tmps.getD 8 undef = (ptr b7 0) := (hbs42 8 rfl).trans (sl_hit hN rfl)
            have s42_14 : a42.tmps.getD 14 undef = (Value.bool false) := (hbs42 14 rfl).trans (sl_hit hN rfl)
            obtain ⟨y25, s42_15, hy26⟩ := hph42 8 _ 15 rfl rfl rfl
            have hy26 : Own w42 w22.heap.size 5 1 y25 (keyX x la n1).length ((keyX x la n1).map u8v) := hy26
            have s42_32 : a42.tmps.getD 32 undef = (Value.bool true) := (hbs42 32 rfl).trans (sl_hit hN rfl)
            have s42_33 : a42.tmps.getD 33 undef = (Value.bool false) := (hbs42 33 rfl).trans (sl_hit hN rfl)
            have s42_34 : a42.tmps.getD 34 undef = (Value.agg #[(Value.int .i64 x.k), (Value.int .i64 x.n), (Value.string (bs x.s))]) := (hbs42 34 rfl).trans (sl_hit hN rfl)
            have s42_35 : a42.tmps.getD 35 undef = (Value.bool true) := (hbs42 35 rfl).trans (sl_hit hN rfl)
            have s42_36 : a42.tmps.getD 36 undef = (Value.bool false) := (hbs42 36 rfl).trans (sl_hit hN rfl)
            have s42_37 : a42.tmps.getD 37 undef = (Value.bool false) := (hbs42 37 rfl).trans (sl_hit hN rfl)
            have s42_38 : a42.tmps.getD 38 undef = (Value.agg #[(Value.int .i64 y.k), (Value.int .i64 y.n), (Value.string (bs y.s))]) := (hbs42 38 rfl).trans (sl_hit hN rfl)
            have s42_39 : a42.tmps.getD 39 undef = (Value.bool true) := (hbs42 39 rfl).trans (sl_hit hN rfl)
            have s42_40 : a42.tmps.getD 40 undef = (Value.bool false) := (hbs42 40 rfl).trans (sl_hit hN rfl)
            have s42_41 : a42.tmps.getD 41 undef = (Value.bool false) := (hbs42 41 rfl).trans (sl_hit hN rfl)
            have s42_42 : a42.tmps.getD 42 undef = (Value.bool false) := (hbs42 42 rfl).trans (sl_hit hN rfl)
            have s42_43 : a42.tmps.getD 43 undef = u := (hbs42 43 rfl).trans (sl_hit hN rfl)
            have s42_44 : a42.tmps.getD 44 undef = (Value.bool true) := (hbs42 44 rfl).trans (sl_hit hN rfl)
            have s42_45 : a42.tmps.getD 45 undef = (Value.bool false) := (hbs42 45 rfl).trans (sl_hit hN rfl)
            have s42_46 : a42.tmps.getD 46 undef = (Value.bool false) := (hbs42 46 rfl).trans (sl_hit hN rfl)
            have s42_47 : a42.tmps.getD 47 undef = (Value.bool false) := (hbs42 47 rfl).trans (sl_hit hN rfl)
            have s42_48 : a42.tmps.getD 48 undef = u2 := (hbs42 48 rfl).trans (sl_hit hN rfl)
            have s42_49 : a42.tmps.getD 49 undef = (Value.bool true) := (hbs42 49 rfl).trans (sl_hit hN rfl)
            have s42_50 : a42.tmps.getD 50 undef = (Value.bool false) := (hbs42 50 rfl).trans (sl_hit hN rfl)
            have s42_51 : a42.tmps.getD 51 undef = (Value.bool false) := (hbs42 51 rfl).trans (sl_hit hN rfl)
            have s42_52 : a42.tmps.getD 52 undef = (Value.agg #[(Value.int .i64 x.k), (Value.int .i64 x.n), (Value.string (bs x.s))]) := hph42 0 _ 52 rfl rfl rfl
            have s42_53 : a42.tmps.getD 53 undef = u := hph42 1 _ 53 rfl rfl rfl
            have s42_54 : a42.tmps.getD 54 undef = (Value.int .u64 ((n1 : Nat) : Int)) := hph42 2 _ 54 rfl rfl rfl
            obtain ⟨v25, s42_55, hO25⟩ := hph42 3 _ 55 rfl rfl rfl
            have hO25 : Own w42 w22.heap.size 5 1 v25 (keyX x la n1).length ((keyX x la n1).map u8v) := hO25
            have s42_56 : a42.tmps.getD 56 undef = (Value.agg #[(Value.int .i64 y.k), (Value.int .i64 y.n), (Value.string (bs y.s))]) := hph42 4 _ 56 rfl rfl rfl
            have s42_57 : a42.tmps.getD 57 undef = u2 := hph42 5 _ 57 rfl rfl rfl
            have s42_58 : a42.tmps.getD 58 undef = (Value.int .u64 ((n2 : Nat) : Int)) := hph42 6 _ 58 rfl rfl rfl
            obtain ⟨v28, s42_59, hO28⟩ := hph42 7 _ 59 rfl rfl rfl
            have hO28 : Own w42 w22.heap.size 5 1 v28 (keyX y lb n2).length ((keyX y lb n2).map u8v) := hO28
            clear hbs42 hph42
            have E42 : w22.grownBy w42 none := E42
            have z_w42 := E42.size
            have h := h.keep0 E42
            have h2 := h2.keep0 E42
            have hB5 := hB5.keep0 E42
            have hB9 := hB9.keep0 E42
            have hb := below_step0 hb E42 hb.size
            refine op_assign (ev_base hN42 rfl s42_59) ?_
            refine reg_nil ?_
            refine hK24 _ _ ?_
            refine seq_any fun K43 hK43 => ?_
            refine one_reg ?_
            refine op_loadA (cs := [(Value.int .i64 x.k), (Value.int .i64 x.n), (Value.string (bs x.s))]) agg50 rfl (ev_base hN42 rfl s42_7) (fun j u hu => by rw [Nat.zero_add]; exact hB5.cell hu) ?_
            refine op_loadA (cs := [(Value.int .i64 y.k), (Value.int .i64 y.n), (Value.string (bs y.s))]) agg50 rfl (ev_base hN42 rfl s42_8) (fun j u hu => by rw [Nat.zero_add]; exact hB9.cell hu) ?_
            refine op_fn (vs := [(Value.agg #[(Value.int .i64 x.k), (Value.int .i64 x.n), (Value.string (bs x.s))]), (Value.agg #[(Value.int .i64 y.k), (Value.int .i64 y.n), (Value.string (bs y.s))])]) ok36 ⟨(ev_hit hN42 rfl), ⟨(ev_hit hN42 rfl), trivial⟩⟩ (CompareValue_ret x y _ (by first | assumption | omega | (simp only [List.length_append, List.length_cons, List.length_nil, List.length_drop, List.length_take]; omega) | (dsimp only; omega) | decide | (simp [keyV, be8_len]; done)) (by first | assumption | omega | (simp only [List.length_append, List.length_cons, List.length_nil, List.length_drop, List.length_take]; omega) | (dsimp only; omega) | decide | (simp [keyV, be8_len]; done))) ?_
            rintro _ w44 ⟨E45, rfl⟩
            have E45 := grown_of_below E45
            have z_w44 := E45.size
            have h := h.keep0 E45
            have h2 := h2.keep0 E45
            have hB5 := hB5.keep0 E45
            have hB9 := hB9.keep0 E45
            have hy26 := hy26.keep0 E45
            have hO25 := hO25.keep0 E45
            have hO28 := hO28.keep0 E45
            have hb := below_step0 hb E45 hb.size
            refine op_assign (ev_hit hN42 rfl) ?_
            refine reg_nil ?_
            refine hK43 _ _ ?_
            refine seq_join2 (N := 180) (fun a w' => ∃ (q : Int), (a.tmps.getD 2 undef = u) ∧ (a.tmps.getD 4 undef = (Value.int .u64 ((n1 : Nat) : Int))) ∧ (a.tmps.getD 6 undef = (Value.int .i64 cut)) ∧ (a.tmps.getD 7 undef = (ptr b3 0)) ∧ (a.tmps.getD 8 undef = (ptr b7 0)) ∧ (a.tmps.getD 14 undef = (Value.bool false)) ∧ (a.tmps.getD 15 undef = y25) ∧ (a.tmps.getD 16 undef = v28) ∧ (a.tmps.getD 17 undef = (Value.int .i64 q)) ∧ (q = wantX x y la lb n1 n2) ∧ (Below w.heap.size w w') ∧ (w44.heap.size ≤ w'.heap.size) ∧ (RdC w' 0 w.heap.size 1 u la.length (la.map u16v)) ∧ (RdC w' 0 w.heap.size 1 u2 lb.length (lb.map u16v)) ∧ (Bx w' b3 50 [(Value.int .i64 x.k), (Value.int .i64 x.n), (Value.string (bs x.s))]) ∧ (Bx w' b7 50 [(Value.int .i64 y.k), (Value.int .i64 y.n), (Value.string (bs y.s))]) ∧ (Own w' w22.heap.size 5 1 y25 (keyX x la n1).length ((keyX x la n1).map u8v)) ∧ (Own w' w22.heap.size 5 1 v25 (keyX x la n1).length ((keyX x la n1).map u8v)) ∧ (Own w' w22.heap.size 5 1 v28 (keyX y lb n2).length ((keyX y lb n2).map u8v))) (fun hJ46 => ?_) ?_
            · -- to where the ways come together
              refine seq_any fun K47 hK47 => ?_
              refine seq_any fun K48 hK48 => ?_
              refine one_reg ?_
              refine op_move (ev_hit hN42 rfl) ?_
              refine op_eql (ev_hit hN42 rfl) rfl (fun c64 => ?_) (fun c64 => ?_)
              · -- 64 True
                refine reg_nil ?_
                refine hK48 _ _ ?_
                refine wp_cond_true (ev_hit hN42 rfl) ?_
                refine one_reg ?_
                refine op_move (ev_base hN42 rfl s42_2) ?_
                refine op_move (ev_base hN42 rfl s42_3) ?_
                refine op_fn (vs := [u, u2]) ok61 ⟨(ev_hit hN42 rfl), ⟨(ev_hit hN42 rfl), trivial⟩⟩ (cmpL_ret la lb _ _ _ (by first | assumption | omega | (simp only [List.length_append, List.length_cons, List.length_nil, List.length_drop, List.length_take]; omega) | (dsimp only; omega) | decide | (simp [keyV, be8_len]; done)) (by first | assumption | omega | (simp only [List.length_append, List.length_cons, List.length_nil, List.length_drop, List.length_take]; omega) | (dsimp only; omega) | decide | (simp [keyV, be8_len]; done)) (show RdC w44 0 w44.heap.size 1 u la.length (la.map u16v) from by have hh : RdC w44 0 w44.heap.size 1 _ _ _ := (h.mono (L' := 0) (B' := w44.heap.size) (Nat.zero_le _) (by omega)); first | exact hh | exact hh.cast (by first | omega | (simp; try omega)) (by first | rfl | simp [u16v])) (show RdC w44 0 w44.heap.size 1 u2 lb.length (lb.map u16v) from by have hh : RdC w44 0 w44.heap.size 1 _ _ _ := (h2.mono (L' := 0) (B' := w44.heap.size) (Nat.zero_le _) (by omega)); first | exact hh | exact hh.cast (by first | omega | (simp; try omega)) (by first | rfl | simp [u16v]))) ?_
                rintro _ w49 ⟨E50, rfl⟩
                have E50 := grown_of_below E50
                have z_w49 := E50.size
                have h := h.keep0 E50
                have h2 := h2.keep0 E50
                have hB5 := hB5.keep0 E50
                have hB9 := hB9.keep0 E50
                have hy26 := hy26.keep0 E50
                have hO25 := hO25.keep0 E50
                have hO28 := hO28.keep0 E50
                have hb := below_step0 hb E50 hb.size
                refine op_assign (ev_hit hN42 rfl) ?_
                refine reg_nil ?_
                refine hK47 _ _ ?_
                refine seq_any fun K51 hK51 => ?_
                refine seq_any fun K52 hK52 => ?_
                refine one_reg ?_
                refine op_move (ev_hit hN42 rfl) ?_
                refine op_eql (ev_hit hN42 rfl) rfl (fun c69 => ?_) (fun c69 => ?_)
                · -- 69 True
                  refine op_move (ev_hit hN42 rfl) ?_
                  refine g_true (j := 2) (dj := 70) (b := true) rfl rfl rfl (ev_hit hN42 rfl) ?_
                  refine op_move (ev_base hN42 rfl s42_4) ?_
                  refine g_true (j := 2) (dj := 70) (b := true) rfl rfl rfl (ev_hit hN42 rfl) ?_
                  refine op_move (ev_base hN42 rfl s42_5) ?_
                  refine g_true (j := 2) (dj := 70) (b := true) rfl rfl rfl (ev_hit hN42 rfl) ?_
                  refine op_neq (ev_hit hN42 rfl) (ev_hit hN42 rfl) (fun c73 => ?_) (fun c73 => ?_)
                  · -- 73 True
                    refine op_pick_t (ev_hit hN42 rfl) (ev_hit hN42 rfl) ?_
                    refine reg_nil ?_
                    refine hK52 _ _ ?_
                    refine wp_cond_true (ev_hit hN42 rfl) ?_
                    refine seq_any fun K53 hK53 => ?_
                    refine one_reg ?_
                    refine op_assign rfl ?_
                    refine reg_nil ?_
                    refine hK53 _ _ ?_
                    refine seq_any fun K54 hK54 => ?_
                    refine one_reg ?_
                    refine op_move (ev_base hN42 rfl s42_4) ?_
                    refine op_move (ev_base hN42 rfl s42_5) ?_
                    refine op_lss (ev_hit hN42 rfl) (ev_hit hN42 rfl) (fun c77 => ?_) (fun c77 => ?_)
                    · -- 77 True
                      refine reg_nil ?_
                      refine hK54 _ _ ?_
                      refine wp_cond_true (ev_hit hN42 rfl) ?_
                      refine one_reg ?_
                      refine op_assign rfl ?_
                      refine reg_nil ?_
                      refine hK51 _ _ ?_
                      exact hJ46 _ _ _ hN42 hd42 ⟨_, (sl_base hN42 rfl s42_2), (sl_base hN42 rfl s42_4), (sl_base hN42 rfl s42_6), (sl_base hN42 rfl s42_7), (sl_base hN42 rfl s42_8), (sl_base hN42 rfl s42_14), (sl_base hN42 rfl s42_15), (sl_hit hN42 rfl), (sl_hit hN42 rfl), want4 c64 c69 c77, hb, (by omega), h, h2, hB5, hB9, hy26, hO25, hO28⟩
                    · -- 77 False
                      refine reg_nil ?_
                      refine hK54 _ _ ?_
                      refine wp_cond_false (ev_hit hN42 rfl) ?_
                      refine wp_skip ?_
                      refine hK51 _ _ ?_
                      exact hJ46 _ _ _ hN42 hd42 ⟨_, (sl_base hN42 rfl s42_2), (sl_base hN42 rfl s42_4), (sl_base hN42 rfl s42_6), (sl_base hN42 rfl s42_7), (sl_base hN42 rfl s42_8), (sl_base hN42 rfl s42_14), (sl_base hN42 rfl s42_15), (sl_hit hN42 rfl), (sl_hit hN42 rfl), want5 c64 c69 c73 c77, hb, (by omega), h, h2, hB5, hB9, hy26, hO25, hO28⟩
                  · -- 73 False
                    refine op_pick_t (ev_hit hN42 rfl) (ev_hit hN42 rfl) ?_
                    refine reg_nil ?_
                    refine hK52 _ _ ?_
                    refine wp_cond_false (ev_hit hN42 rfl) ?_
                    refine wp_skip ?_
                    refine hK51 _ _ ?_
                    exact hJ46 _ _ _ hN42 hd42 ⟨_, (sl_base hN42 rfl s42_2), (sl_base hN42 rfl s42_4), (sl_base hN42 rfl s42_6), (sl_base hN42 rfl s42_7), (sl_base hN42 rfl s42_8), (sl_base hN42 rfl s42_14), (sl_base hN42 rfl s42_15), (sl_hit hN42 rfl), (sl_hit hN42 rfl), want3 c64 c69 c73, hb, (by omega), h, h2, hB5, hB9, hy26, hO25, hO28⟩
                · -- 69 False
                  refine op_move (ev_hit hN42 rfl) ?_
                  refine g_false (j := 2) (dj := 70) (b := true) rfl rfl rfl (ev_hit hN42 rfl) rfl rfl ?_
                  refine g_false (j := 2) (dj := 70) (b := true) rfl rfl rfl (ev_hit hN42 rfl) rfl rfl ?_
                  refine g_false (j := 2) (dj := 70) (b := true) rfl rfl rfl (ev_hit hN42 rfl) rfl rfl ?_
                  refine op_pick_f (ev_hit hN42 rfl) rfl ?_
                  refine reg_nil ?_
                  refine hK52 _ _ ?_
                  refine wp_cond_false (ev_hit hN42 rfl) ?_
                  refine wp_skip ?_
                  refine hK51 _ _ ?_
                  exact hJ46 _ _ _ hN42 hd42 ⟨_, (sl_base hN42 rfl s42_2), (sl_base hN42 rfl s42_4), (sl_base hN42 rfl s42_6), (sl_base hN42 rfl s42_7), (sl_base hN42 rfl s42_8), (sl_base hN42 rfl s42_14), (sl_base hN42 rfl s42_15), (sl_hit hN42 rfl), (sl_hit hN42 rfl), want2 c64 c69, hb, (by omega), h, h2, hB5, hB9, hy26, hO25, hO28⟩
              · -- 64 False
                refine reg_nil ?_
                refine hK48 _ _ ?_
                refine wp_cond_false (ev_hit hN42 rfl) ?_
                refine wp_skip ?_
                refine hK47 _ _ ?_
                refine seq_any fun K55 hK55 => ?_
                refine seq_any fun K56 hK56 => ?_
                refine one_reg ?_
                refine op_move (ev_hit hN42 rfl) ?_
                refine op_eql (ev_hit hN42 rfl) rfl (fun c69 => ?_) (fun c69 => ?_)
                · -- 69 True
                  exact absurd c69 c64
                · -- 69 False
                  refine op_move (ev_hit hN42 rfl) ?_
                  refine g_false (j := 2) (dj := 70) (b := true) rfl rfl rfl (ev_hit hN42 rfl) rfl rfl ?_
                  refine g_false (j := 2) (dj := 70) (b := true) rfl rfl rfl (ev_hit hN42 rfl) rfl rfl ?_
                  refine g_false (j := 2) (dj := 70) (b := true) rfl rfl rfl (ev_hit hN42 rfl) rfl rfl ?_
                  refine op_pick_f (ev_hit hN42 rfl) rfl ?_
                  refine reg_nil ?_
                  refine hK56 _ _ ?_
                  refine wp_cond_false (ev_hit hN42 rfl) ?_
                  refine wp_skip ?_
                  refine hK55 _ _ ?_
                  exact hJ46 _ _ _ hN42 hd42 ⟨_, (sl_base hN42 rfl s42_2), (sl_base hN42 rfl s42_4), (sl_base hN42 rfl s42_6), (sl_base hN42 rfl s42_7), (sl_base hN42 rfl s42_8), (sl_base hN42 rfl s42_14), (sl_base hN42 rfl s42_15), (sl_hit hN42 rfl), (sl_hit hN42 rfl), want1 c64, hb, (by omega), h, h2, hB5, hB9, hy26, hO25, hO28⟩
            · -- from there on
              rintro a46 w46 hN46 hd46 ⟨q, s46_2, s46_4, s46_6, s46_7, s46_8, s46_14, s46_15, s46_16, s46_17, hq, hb, zl_w46, h, h2, hB5, hB9, hy26, hO25, hO28⟩
              have z_w46 := hb.size
              refine seq_any fun K57 hK57 => ?_
              refine one_reg ?_
              refine op_loadA (cs := [(Value.int .i64 x.k), (Value.int .i64 x.n), (Value.string (bs x.s))]) agg50 rfl (ev_base hN46 rfl s46_7) (fun j u hu => by rw [Nat.zero_add]; exact hB5.cell hu) ?_
              refine op_fn (vs := [(Value.agg #[(Value.int .i64 x.k), (Value.int .i64 x.n), (Value.string (bs x.s))])]) ok59 ⟨(ev_hit hN46 rfl), trivial⟩ (From_ret x _ (by first | assumption | omega | (simp only [List.length_append, List.length_cons, List.length_nil, List.length_drop, List.length_take]; omega) | (dsimp only; omega) | decide | (simp [keyV, be8_len]; done)) (by first | assumption | omega | (simp only [List.length_append, List.length_cons, List.length_nil, List.length_drop, List.length_take]; omega) | (dsimp only; omega) | decide | (simp [keyV, be8_len]; done))) ?_
              rintro v58 w59 ⟨E60, hO58⟩
              have dj61 : DJ v58 y25 := fun k hk hg => by have q1 := (hO58.lt k hk).1; have q2 := (hy26.lt k hg).2; omega
              have dj62 : DJ v58 v25 := fun k hk hg => by have q1 := (hO58.lt k hk).1; have q2 := (hO25.lt k hg).2; omega
              have dj63 : DJ v58 v28 := fun k hk hg => by have q1 := (hO58.lt k hk).1; have q2 := (hO28.lt k hg).2; omega
              have E60 := grown_of_below E60
              have z_w59 := E60.size
              have h := h.keep0 E60
              have h2 := h2.keep0 E60
              have hB5 := hB5.keep0 E60
              have hB9 := hB9.keep0 E60
              have hy26 := hy26.keep0 E60
              have hO25 := hO25.keep0 E60
              have hO28 := hO28.keep0 E60
              have hb := below_step0 hb E60 hb.size
              have hO58 := hO58.mono (base' := w46.heap.size) (by omega)
              refine op_str_of (bl := (keyV x)) Try.underlying22 Try.underlying5 Try.underlying9 (ev_hit hN46 rfl) hO58.rdw ?_
              refine op_assign (ev_hit hN46 rfl) ?_
              refine reg_nil ?_
              refine hK57 _ _ ?_
              refine seq_any fun K64 hK64 => ?_
              refine seq_any fun K65 hK65 => ?_
              refine one_reg ?_
              refine op_move (ev_base hN46 rfl s46_15) ?_
              refine op_len_rd Try.underlying22 (ev_hit hN46 rfl) hy26.rdw ?_
              refine op_move (ev_hit hN46 rfl) ?_
              refine op_len_str Try.underlying9 (ev_hit hN46 rfl) ?_
              refine op_lss (ev_hit hN46 rfl) (ev_hit hN46 rfl) (fun c85 => ?_) (fun c85 => ?_)
              · -- 85 True
                exfalso; omega
              · -- 85 False
                refine reg_nil ?_
                refine hK65 _ _ ?_
                refine wp_cond_false (ev_hit hN46 rfl) ?_
                refine wp_skip ?_
                refine hK64 _ _ ?_
                refine seq_any fun K66 hK66 => ?_
                by_cases g92 : ((keyX x la n1).take (keyV x).length) = (keyV x)
                · -- 92 True
                  by_cases g98 : ((keyV x).length : Int) ≤ (((keyX y lb n2).length : Nat) : Int)
                  · -- 98 True
                    refine reg_quiet (Φ := phiL [(fun uz _ => uz = y25), (fun uz _ => uz = (Value.string (bs (keyV x)))), (fun uz _ => uz = (Value.int .i64 ((keyV x).length : Int))), (fun uz w' => ∃ (v67 : Value), uz = v67 ∧ RdC w' w22.heap.size w'.heap.size 1 v67 ((keyV x).length) ((((keyX x la n1).take (keyV x).length)).map u8v)), (fun uz _ => uz = (Value.string (bs ((keyX x la n1).take (keyV x).length)))), (fun uz _ => uz = (Value.string (bs (keyV x)))), (fun uz _ => uz = (Value.bool true)), (fun uz _ => uz = (Value.bool true)), (fun uz _ => uz = v28), (fun uz _ => uz = (Value.int .i64 (((keyX y lb n2).length : Nat) : Int))), (fun uz _ => uz = (Value.string (bs (keyV x)))), (fun uz _ => uz = (Value.int .i64 ((keyV x).length : Int))), (fun uz _ => uz = (Value.bool true)), (fun uz _ => uz = (Value.bool true)), (fun uz _ => uz = v28), (fun uz _ => uz = (Value.string (bs (keyV x)))), (fun uz _ => uz = (Value.int .i64 ((keyV x).length : Int))), (fun uz w' => ∃ (v69 : Value), uz = v69 ∧ RdC w' w22.heap.size w'.heap.size 1 v69 ((keyV x).length) ((((keyX y lb n2).take (keyV x).length)).map u8v)), (fun uz _ => uz = (Value.string (bs ((keyX y lb n2).take (keyV x).length)))), (fun uz _ => uz = (Value.string (bs (keyV x)))), (fun uz _ => uz = (Value.bool (decide (((keyX y lb n2).take (keyV x).length) = (keyV x))))), (fun uz _ => uz = (Value.bool (decide (((keyX y lb n2).take (keyV x).length) = (keyV x))))), (fun uz _ => uz = (Value.agg #[(Value.int .i64 x.k), (Value.int .i64 x.n), (Value.string (bs x.s))])), (fun uz _ => uz = (Value.agg #[(Value.int .i64 y.k), (Value.int .i64 y.n), (Value.string (bs y.s))])), (fun uz _ => uz = (Value.bool (decide (x.k = y.k ∧ x.n = y.n ∧ x.s = y.s)))), (fun uz _ => uz = (Value.bool ((decide (((keyX y lb n2).take (keyV x).length) = (keyV x))) == (decide (x.k = y.k ∧ x.n = y.n ∧ x.s = y.s))))), (fun uz _ => uz = (Value.bool ((decide (((keyX y lb n2).take (keyV x).length) = (keyV x))) == (decide (x.k = y.k ∧ x.n = y.n ∧ x.s = y.s))))), (fun uz _ => uz = (Value.bool ((decide (((keyX y lb n2).take (keyV x).length) = (keyV x))) == (decide (x.k = y.k ∧ x.n = y.n ∧ x.s = y.s)))))]) mixed (by kernel_rfl) (by kernel_rfl) (by kernel_rfl) hN46 (StL.get (StL.eq (StL.eq (StL.eq (StL.cons (fun u w1 w2 E h => by obtain ⟨x0, hv, f0⟩ := h; exact ⟨x0, hv, f0.keep0w E⟩) (StL.eq (StL.eq (StL.eq (StL.eq (StL.eq (StL.eq (StL.eq (StL.eq (StL.eq (StL.eq (StL.eq (StL.eq (StL.eq (StL.cons (fun u w1 w2 E h => by obtain ⟨x0, hv, f0⟩ := h; exact ⟨x0, hv, f0.keep0w E⟩) (StL.eq (StL.eq (StL.eq (StL.eq (StL.eq (StL.eq (StL.eq (StL.eq (StL.eq (StL.eq (StL.nil _)))))))))))))))))))))))))))))) (ObL.get (s := 28) (ObL.cons ?_ (ObL.cons ?_ (ObL.cons ?_ (ObL.cons ?_ (ObL.cons ?_ (ObL.cons ?_ (ObL.cons ?_ (ObL.cons ?_ (ObL.cons ?_ (ObL.cons ?_ (ObL.cons ?_ (ObL.cons ?_ (ObL.cons ?_ (ObL.cons ?_ (ObL.cons ?_ (ObL.cons ?_ (ObL.cons ?_ (ObL.cons ?_ (ObL.cons ?_ (ObL.cons ?_ (ObL.cons ?_ (ObL.cons ?_ (ObL.cons ?_ (ObL.cons ?_ (ObL.cons ?_ (ObL.cons ?_ (ObL.cons ?_ (ObL.cons ?_ (ObL.nil))))))))))))))))))))))))))))) rfl) ?_
                    · -- operation 0, slot 86
                      intro a67 w67 hN67 hR67 hbs67 hdp67
                      have hR67 : w59.grownBy w67 none := hR67
                      have q67_15 : a67.tmps.getD 15 undef = y25 := (hbs67 15 rfl).trans (sl_base hN46 rfl s46_15)
                      clear hbs67 hdp67
                      refine op_move (ev_base hN67 rfl q67_15) ?_
                      exact obN_end rfl rfl ((grown_refl _ _))
                    · -- operation 1, slot 87
                      intro a68 w68 hN68 hR68 hbs68 hdp68
                      have hR68 : w59.grownBy w68 none := hR68
                      have q68_18 : a68.tmps.getD 18 undef = (Value.string (bs (keyV x))) := (hbs68 18 rfl).trans (sl_hit hN46 rfl)
                      clear hbs68 hdp68
                      refine op_move (ev_base hN68 rfl q68_18) ?_
                      exact obN_end rfl rfl ((grown_refl _ _))
                    · -- operation 2, slot 88
                      intro a69 w69 hN69 hR69 hbs69 hdp69
                      have hR69 : w59.grownBy w69 none := hR69
                      have z_w69 := hR69.size
                      have h := h.keep0 hR69
                      have h2 := h2.keep0 hR69
                      have hB5 := hB5.keep0 hR69
                      have hB9 := hB9.keep0 hR69
                      have hy26 := hy26.keep0 hR69
                      have hO25 := hO25.keep0 hR69
                      have hO28 := hO28.keep0 hR69
                      have hO58 := hO58.keep0 hR69
                      have hb := below_step0 hb hR69 hb.size
                      have q69_87 : a69.tmps.getD 87 undef = (Value.string (bs (keyV x))) := hdp69 1 _ 87 (by kernel_rfl) rfl rfl
                      clear hbs69 hdp69
                      refine op_len_str Try.underlying9 (ev_base hN69 rfl q69_87) ?_
                      exact obN_end rfl rfl ((grown_refl _ _))
                    · -- operation 3, slot 89
                      intro a70 w70 hN70 hR70 hbs70 hdp70
                      have hR70 : w59.grownBy w70 none := hR70
                      have z_w70 := hR70.size
                      have h := h.keep0 hR70
                      have h2 := h2.keep0 hR70
                      have hB5 := hB5.keep0 hR70
                      have hB9 := hB9.keep0 hR70
                      have hy26 := hy26.keep0 hR70
                      have hO25 := hO25.keep0 hR70
                      have hO28 := hO28.keep0 hR70
                      have hO58 := hO58.keep0 hR70
                      have hb := below_step0 hb hR70 hb.size
                      have q70_86 : a70.tmps.getD 86 undef = y25 := hdp70 0 _ 86 (by kernel_rfl) rfl rfl
                      have q70_88 : a70.tmps.getD 88 undef = (Value.int .i64 ((keyV x).length : Int)) := hdp70 2 _ 88 (by kernel_rfl) rfl rfl
                      clear hbs70 hdp70
                      refine op_slice_rd (lo := 0) (hi := (keyV x).length) slt22 (ev_base hN70 rfl q70_86) hy26.rdw (.inl ⟨rfl, rfl⟩) (.inr ⟨_, _, rfl, (ev_base hN70 rfl q70_88)⟩) (by omega) (by omega) ?_
                      intro v71 hR72
                      have hR72 : RdC w70 w22.heap.size w70.heap.size 1 v71 ((keyV x).length) ((((keyX x la n1).take (keyV x).length)).map u8v) := by simpa [List.map_drop, List.map_take] using hR72
                      exact obN_end rfl ⟨v71, rfl, hR72⟩ ((grown_refl _ _))
                    · -- operation 4, slot 90
                      intro a73 w73 hN73 hR73 hbs73 hdp73
                      have hR73 : w59.grownBy w73 none := hR73
                      have z_w73 := hR73.size
                      have h := h.keep0 hR73
                      have h2 := h2.keep0 hR73
                      have hB5 := hB5.keep0 hR73
                      have hB9 := hB9.keep0 hR73
                      have hy26 := hy26.keep0 hR73
                      have hO25 := hO25.keep0 hR73
                      have hO28 := hO28.keep0 hR73
                      have hO58 := hO58.keep0 hR73
                      have hb := below_step0 hb hR73 hb.size
                      obtain ⟨v67, q73_89, hR68⟩ := hdp73 3 _ 89 (by kernel_rfl) rfl rfl
                      have hR68 : RdC w73 w22.heap.size w73.heap.size 1 v67 ((keyV x).length) ((((keyX x la n1).take (keyV x).length)).map u8v) := hR68
                      clear hbs73 hdp73
                      refine op_str_of (bl := ((keyX x la n1).take (keyV x).length)) Try.underlying22 Try.underlying5 Try.underlying9 (ev_base hN73 rfl q73_89) hR68 ?_
                      exact obN_end rfl rfl ((grown_refl _ _))
                    · -- operation 5, slot 91
                      intro a74 w74 hN74 hR74 hbs74 hdp74
                      have hR74 : w59.grownBy w74 none := hR74
                      have q74_18 : a74.tmps.getD 18 undef = (Value.string (bs (keyV x))) := (hbs74 18 rfl).trans (sl_hit hN46 rfl)
                      clear hbs74 hdp74
                      refine op_move (ev_base hN74 rfl q74_18) ?_
                      exact obN_end rfl rfl ((grown_refl _ _))
                    · -- operation 6, slot 92
                      intro a75 w75 hN75 hR75 hbs75 hdp75
                      have hR75 : w59.grownBy w75 none := hR75
                      have q75_90 : a75.tmps.getD 90 undef = (Value.string (bs ((keyX x la n1).take (keyV x).length))) := hdp75 4 _ 90 (by kernel_rfl) rfl rfl
                      have q75_91 : a75.tmps.getD 91 undef = (Value.string (bs (keyV x))) := hdp75 5 _ 91 (by kernel_rfl) rfl rfl
                      clear hbs75 hdp75
                      refine op_seqlb (b := true) (ev_base hN75 rfl q75_90) (ev_base hN75 rfl q75_91) (decide_eq_true g92) ?_
                      exact obN_end rfl rfl ((grown_refl _ _))
                    · -- operation 7, slot 93
                      intro a76 w76 hN76 hR76 hbs76 hdp76
                      have hR76 : w59.grownBy w76 none := hR76
                      have q76_92 : a76.tmps.getD 92 undef = (Value.bool true) := hdp76 6 _ 92 (by kernel_rfl) rfl rfl
                      clear hbs76 hdp76
                      refine op_move (ev_base hN76 rfl q76_92) ?_
                      exact obN_end rfl rfl ((grown_refl _ _))
                    · -- operation 8, slot 94
                      intro a77 w77 hN77 hR77 hbs77 hdp77
                      have hR77 : w59.grownBy w77 none := hR77
                      have q77_16 : a77.tmps.getD 16 undef = v28 := (hbs77 16 rfl).trans (sl_base hN46 rfl s46_16)
                      have q77_93 : a77.tmps.getD 93 undef = (Value.bool true) := hdp77 7 _ 93 (by kernel_rfl) rfl rfl
                      clear hbs77 hdp77
                      refine g_true (j := 7) (dj := 93) (b := true) rfl rfl rfl (ev_base hN77 rfl q77_93) ?_
                      refine op_move (ev_base hN77 rfl q77_16) ?_
                      exact obN_end rfl rfl ((grown_refl _ _))
                    · -- operation 9, slot 95
                      intro a78 w78 hN78 hR78 hbs78 hdp78
                      have hR78 : w59.grownBy w78 none := hR78
                      have z_w78 := hR78.size
                      have h := h.keep0 hR78
                      have h2 := h2.keep0 hR78
                      have hB5 := hB5.keep0 hR78
                      have hB9 := hB9.keep0 hR78
                      have hy26 := hy26.keep0 hR78
                      have hO25 := hO25.keep0 hR78
                      have hO28 := hO28.keep0 hR78
                      have hO58 := hO58.keep0 hR78
                      have hb := below_step0 hb hR78 hb.size
                      have q78_94 : a78.tmps.getD 94 undef = v28 := hdp78 8 _ 94 (by kernel_rfl) rfl rfl
                      have q78_93 : a78.tmps.getD 93 undef = (Value.bool true) := hdp78 7 _ 93 (by kernel_rfl) rfl rfl
                      clear hbs78 hdp78
                      refine g_true (j := 7) (dj := 93) (b := true) rfl rfl rfl (ev_base hN78 rfl q78_93) ?_
                      refine op_len_rd Try.underlying22 (ev_base hN78 rfl q78_94) hO28.rdw ?_
                      exact obN_end rfl rfl ((grown_refl _ _))
                    · -- operation 10, slot 96
                      intro a79 w79 hN79 hR79 hbs79 hdp79
                      have hR79 : w59.grownBy w79 none := hR79
                      have q79_18 : a79.tmps.getD 18 undef = (Value.string (bs (keyV x))) := (hbs79 18 rfl).trans (sl_hit hN46 rfl)
                      have q79_93 : a79.tmps.getD 93 undef = (Value.bool true) := hdp79 7 _ 93 (by kernel_rfl) rfl rfl
                      clear hbs79 hdp79
                      refine g_true (j := 7) (dj := 93) (b := true) rfl rfl rfl (ev_base hN79 rfl q79_93) ?_
                      refine op_move (ev_base hN79 rfl q79_18) ?_
                      exact obN_end rfl rfl ((grown_refl _ _))
                    · -- operation 11, slot 97
                      intro a80 w80 hN80 hR80 hbs80 hdp80
                      have hR80 : w59.grownBy w80 none := hR80
                      have z_w80 := hR80.size
                      have h := h.keep0 hR80
                      have h2 := h2.keep0 hR80
                      have hB5 := hB5.keep0 hR80
                      have hB9 := hB9.keep0 hR80
                      have hy26 := hy26.keep0 hR80
                      have hO25 := hO25.keep0 hR80
                      have hO28 := hO28.keep0 hR80
                      have hO58 := hO58.keep0 hR80
                      have hb := below_step0 hb hR80 hb.size
                      have q80_96 : a80.tmps.getD 96 undef = (Value.string (bs (keyV x))) := hdp80 10 _ 96 (by kernel_rfl) rfl rfl
                      have q80_93 : a80.tmps.getD 93 undef = (Value.bool true) := hdp80 7 _ 93 (by kernel_rfl) rfl rfl
                      clear hbs80 hdp80
                      refine g_true (j := 7) (dj := 93) (b := true) rfl rfl rfl (ev_base hN80 rfl q80_93) ?_
                      refine op_len_str Try.underlying9 (ev_base hN80 rfl q80_96) ?_
                      exact obN_end rfl rfl ((grown_refl _ _))
                    · -- operation 12, slot 98
                      intro a81 w81 hN81 hR81 hbs81 hdp81
                      have hR81 : w59.grownBy w81 none := hR81
                      have q81_95 : a81.tmps.getD 95 undef = (Value.int .i64 (((keyX y lb n2).length : Nat) : Int)) := hdp81 9 _ 95 (by kernel_rfl) rfl rfl
                      have q81_97 : a81.tmps.getD 97 undef = (Value.int .i64 ((keyV x).length : Int)) := hdp81 11 _ 97 (by kernel_rfl) rfl rfl
                      have q81_93 : a81.tmps.getD 93 undef = (Value.bool true) := hdp81 7 _ 93 (by kernel_rfl) rfl rfl
                      clear hbs81 hdp81
                      refine g_true (j := 7) (dj := 93) (b := true) rfl rfl rfl (ev_base hN81 rfl q81_93) ?_
                      refine op_cmp (b := true) (ev_base hN81 rfl q81_95) (ev_base hN81 rfl q81_97) (b_geq (decide_eq_true g98)) ?_
                      exact obN_end rfl rfl ((grown_refl _ _))
                    · -- operation 13, slot 99
                      intro a82 w82 hN82 hR82 hbs82 hdp82
                      have hR82 : w59.grownBy w82 none := hR82
                      have q82_98 : a82.tmps.getD 98 undef = (Value.bool true) := hdp82 12 _ 98 (by kernel_rfl) rfl rfl
                      have q82_93 : a82.tmps.getD 93 undef = (Value.bool true) := hdp82 7 _ 93 (by kernel_rfl) rfl rfl
                      clear hbs82 hdp82
                      refine g_true (j := 7) (dj := 93) (b := true) rfl rfl rfl (ev_base hN82 rfl q82_93) ?_
                      refine op_move (ev_base hN82 rfl q82_98) ?_
                      exact obN_end rfl rfl ((grown_refl _ _))
                    · -- operation 14, slot 100
                      intro a83 w83 hN83 hR83 hbs83 hdp83
                      have hR83 : w59.grownBy w83 none := hR83
                      have q83_16 : a83.tmps.getD 16 undef = v28 := (hbs83 16 rfl).trans (sl_base hN46 rfl s46_16)
                      have q83_99 : a83.tmps.getD 99 undef = (Value.bool true) := hdp83 13 _ 99 (by kernel_rfl) rfl rfl
                      clear hbs83 hdp83
                      refine g_true (j := 13) (dj := 99) (b := true) rfl rfl rfl (ev_base hN83 rfl q83_99) ?_
                      refine op_move (ev_base hN83 rfl q83_16) ?_
                      exact obN_end rfl rfl ((grown_refl _ _))
                    · -- operation 15, slot 101
                      intro a84 w84 hN84 hR84 hbs84 hdp84
                      have hR84 : w59.grownBy w84 none := hR84
                      have q84_18 : a84.tmps.getD 18 undef = (Value.string (bs (keyV x))) := (hbs84 18 rfl).trans (sl_hit hN46 rfl)
                      have q84_99 : a84.tmps.getD 99 undef = (Value.bool true) := hdp84 13 _ 99 (by kernel_rfl) rfl rfl
                      clear hbs84 hdp84
                      refine g_true (j := 13) (dj := 99) (b := true) rfl rfl rfl (ev_base hN84 rfl q84_99) ?_
                      refine op_move (ev_base hN84 rfl q84_18) ?_
                      exact obN_end rfl rfl ((grown_refl _ _))
                    · -- operation 16, slot 102
                      intro a85 w85 hN85 hR85 hbs85 hdp85
                      have hR85 : w59.grownBy w85 none := hR85
                      have z_w85 := hR85.size
                      have h := h.keep0 hR85
                      have h2 := h2.keep0 hR85
                      have hB5 := hB5.keep0 hR85
                      have hB9 := hB9.keep0 hR85
                      have hy26 := hy26.keep0 hR85
                      have hO25 := hO25.keep0 hR85
                      have hO28 := hO28.keep0 hR85
                      have hO58 := hO58.keep0 hR85
                      have hb := below_step0 hb hR85 hb.size
                      have q85_101 : a85.tmps.getD 101 undef = (Value.string (bs (keyV x))) := hdp85 15 _ 101 (by kernel_rfl) rfl rfl
                      have q85_99 : a85.tmps.getD 99 undef = (Value.bool true) := hdp85 13 _ 99 (by kernel_rfl) rfl rfl
                      clear hbs85 hdp85
                      refine g_true (j := 13) (dj := 99) (b := true) rfl rfl rfl (ev_base hN85 rfl q85_99) ?_
                      refine op_len_str Try.underlying9 (ev_base hN85 rfl q85_101) ?_
                      exact obN_end rfl rfl ((grown_refl _ _))
                    · -- operation 17, slot 103
                      intro a86 w86 hN86 hR86 hbs86 hdp86
                      have hR86 : w59.grownBy w86 none := hR86
                      have z_w86 := hR86.size
                      have h := h.keep0 hR86
                      have h2 := h2.keep0 hR86
                      have hB5 := hB5.keep0 hR86
                      have hB9 := hB9.keep0 hR86
                      have hy26 := hy26.keep0 hR86
                      have hO25 := hO25.keep0 hR86
                      have hO28 := hO28.keep0 hR86
                      have hO58 := hO58.keep0 hR86
                      have hb := below_step0 hb hR86 hb.size
                      have q86_100 : a86.tmps.getD 100 undef = v28 := hdp86 14 _ 100 (by kernel_rfl) rfl rfl
                      have q86_102 : a86.tmps.getD 102 undef = (Value.int .i64 ((keyV x).length : Int)) := hdp86 16 _ 102 (by kernel_rfl) rfl rfl
                      have q86_99 : a86.tmps.getD 99 undef = (Value.bool true) := hdp86 13 _ 99 (by kernel_rfl) rfl rfl
                      clear hbs86 hdp86
                      refine g_true (j := 13) (dj := 99) (b := true) rfl rfl rfl (ev_base hN86 rfl q86_99) ?_
                      refine op_slice_rd (lo := 0) (hi := (keyV x).length) slt22 (ev_base hN86 rfl q86_100) hO28.rdw (.inl ⟨rfl, rfl⟩) (.inr ⟨_, _, rfl, (ev_base hN86 rfl q86_102)⟩) (by omega) (by omega) ?_
                      intro v87 hR88
                      have hR88 : RdC w86 w22.heap.size w86.heap.size 1 v87 ((keyV x).length) ((((keyX y lb n2).take (keyV x).length)).map u8v) := by simpa [List.map_drop, List.map_take] using hR88
                      exact obN_end rfl ⟨v87, rfl, hR88⟩ ((grown_refl _ _))
                    · -- operation 18, slot 104
                      intro a89 w89 hN89 hR89 hbs89 hdp89
                      have hR89 : w59.grownBy w89 none := hR89
                      have z_w89 := hR89.size
                      have h := h.keep0 hR89
                      have h2 := h2.keep0 hR89
                      have hB5 := hB5.keep0 hR89
                      have hB9 := hB9.keep0 hR89
                      have hy26 := hy26.keep0 hR89
                      have hO25 := hO25.keep0 hR89
                      have hO28 := hO28.keep0 hR89
                      have hO58 := hO58.keep0 hR89
                      have hb := below_step0 hb hR89 hb.size
                      obtain ⟨v69, q89_103, hR70⟩ := hdp89 17 _ 103 (by kernel_rfl) rfl rfl
                      have hR70 : RdC w89 w22.heap.size w89.heap.size 1 v69 ((keyV x).length) ((((keyX y lb n2).take (keyV x).length)).map u8v) := hR70
                      have q89_99 : a89.tmps.getD 99 undef = (Value.bool true) := hdp89 13 _ 99 (by kernel_rfl) rfl rfl
                      clear hbs89 hdp89
                      refine g_true (j := 13) (dj := 99) (b := true) rfl rfl rfl (ev_base hN89 rfl q89_99) ?_
                      refine op_str_of (bl := ((keyX y lb n2).take (keyV x).length)) Try.underlying22 Try.underlying5 Try.underlying9 (ev_base hN89 rfl q89_103) hR70 ?_
                      exact obN_end rfl rfl ((grown_refl _ _))
                    · -- operation 19, slot 105
                      intro a90 w90 hN90 hR90 hbs90 hdp90
                      have hR90 : w59.grownBy w90 none := hR90
                      have q90_18 : a90.tmps.getD 18 undef = (Value.string (bs (keyV x))) := (hbs90 18 rfl).trans (sl_hit hN46 rfl)
                      have q90_99 : a90.tmps.getD 99 undef = (Value.bool true) := hdp90 13 _ 99 (by kernel_rfl) rfl rfl
                      clear hbs90 hdp90
                      refine g_true (j := 13) (dj := 99) (b := true) rfl rfl rfl (ev_base hN90 rfl q90_99) ?_
                      refine op_move (ev_base hN90 rfl q90_18) ?_
                      exact obN_end rfl rfl ((grown_refl _ _))
                    · -- operation 20, slot 106
                      intro a91 w91 hN91 hR91 hbs91 hdp91
                      have hR91 : w59.grownBy w91 none := hR91
                      have q91_104 : a91.tmps.getD 104 undef = (Value.string (bs ((keyX y lb n2).take (keyV x).length))) := hdp91 18 _ 104 (by kernel_rfl) rfl rfl
                      have q91_105 : a91.tmps.getD 105 undef = (Value.string (bs (keyV x))) := hdp91 19 _ 105 (by kernel_rfl) rfl rfl
                      have q91_99 : a91.tmps.getD 99 undef = (Value.bool true) := hdp91 13 _ 99 (by kernel_rfl) rfl rfl
                      clear hbs91 hdp91
                      refine g_true (j := 13) (dj := 99) (b := true) rfl rfl rfl (ev_base hN91 rfl q91_99) ?_
                      refine op_seqlb (b := (decide (((keyX y lb n2).take (keyV x).length) = (keyV x)))) (ev_base hN91 rfl q91_104) (ev_base hN91 rfl q91_105) rfl ?_
                      exact obN_end rfl rfl ((grown_refl _ _))
                    · -- operation 21, slot 107
                      intro a92 w92 hN92 hR92 hbs92 hdp92
                      have hR92 : w59.grownBy w92 none := hR92
                      have q92_99 : a92.tmps.getD 99 undef = (Value.bool true) := hdp92 13 _ 99 (by kernel_rfl) rfl rfl
                      have q92_106 : a92.tmps.getD 106 undef = (Value.bool (decide (((keyX y lb n2).take (keyV x).length) = (keyV x)))) := hdp92 20 _ 106 (by kernel_rfl) rfl rfl
                      have q92_93 : a92.tmps.getD 93 undef = (Value.bool true) := hdp92 7 _ 93 (by kernel_rfl) rfl rfl
                      clear hbs92 hdp92
                      refine g_true (j := 7) (dj := 93) (b := true) rfl rfl rfl (ev_base hN92 rfl q92_93) ?_
                      refine op_pick_t (ev_base hN92 rfl q92_99) (ev_base hN92 rfl q92_106) ?_
                      exact obN_end rfl rfl ((grown_refl _ _))
                    · -- operation 22, slot 108
                      intro a93 w93 hN93 hR93 hbs93 hdp93
                      have hR93 : w59.grownBy w93 none := hR93
                      have z_w93 := hR93.size
                      have h := h.keep0 hR93
                      have h2 := h2.keep0 hR93
                      have hB5 := hB5.keep0 hR93
                      have hB9 := hB9.keep0 hR93
                      have hy26 := hy26.keep0 hR93
                      have hO25 := hO25.keep0 hR93
                      have hO28 := hO28.keep0 hR93
                      have hO58 := hO58.keep0 hR93
                      have hb := below_step0 hb hR93 hb.size
                      have q93_7 : a93.tmps.getD 7 undef = (ptr b3 0) := (hbs93 7 rfl).trans (sl_base hN46 rfl s46_7)
                      have q93_93 : a93.tmps.getD 93 undef = (Value.bool true) := hdp93 7 _ 93 (by kernel_rfl) rfl rfl
                      clear hbs93 hdp93
                      refine g_true (j := 7) (dj := 93) (b := true) rfl rfl rfl (ev_base hN93 rfl q93_93) ?_
                      refine op_loadA (cs := [(Value.int .i64 x.k), (Value.int .i64 x.n), (Value.string (bs x.s))]) agg50 rfl (ev_base hN93 rfl q93_7) (fun j u hu => by rw [Nat.zero_add]; exact hB5.cell hu) ?_
                      exact obN_end rfl rfl ((grown_refl _ _))
                    · -- operation 23, slot 109
                      intro a94 w94 hN94 hR94 hbs94 hdp94
                      have hR94 : w59.grownBy w94 none := hR94
                      have z_w94 := hR94.size
                      have h := h.keep0 hR94
                      have h2 := h2.keep0 hR94
                      have hB5 := hB5.keep0 hR94
                      have hB9 := hB9.keep0 hR94
                      have hy26 := hy26.keep0 hR94
                      have hO25 := hO25.keep0 hR94
                      have hO28 := hO28.keep0 hR94
                      have hO58 := hO58.keep0 hR94
                      have hb := below_step0 hb hR94 hb.size
                      have q94_8 : a94.tmps.getD 8 undef = (ptr b7 0) := (hbs94 8 rfl).trans (sl_base hN46 rfl s46_8)
                      have q94_93 : a94.tmps.getD 93 undef = (Value.bool true) := hdp94 7 _ 93 (by kernel_rfl) rfl rfl
                      clear hbs94 hdp94
                      refine g_true (j := 7) (dj := 93) (b := true) rfl rfl rfl (ev_base hN94 rfl q94_93) ?_
                      refine op_loadA (cs := [(Value.int .i64 y.k), (Value.int .i64 y.n), (Value.string (bs y.s))]) agg50 rfl (ev_base hN94 rfl q94_8) (fun j u hu => by rw [Nat.zero_add]; exact hB9.cell hu) ?_
                      exact obN_end rfl rfl ((grown_refl _ _))
                    · -- operation 24, slot 110
                      intro a95 w95 hN95 hR95 hbs95 hdp95
                      have hR95 : w59.grownBy w95 none := hR95
                      have q95_108 : a95.tmps.getD 108 undef = (Value.agg #[(Value.int .i64 x.k), (Value.int .i64 x.n), (Value.string (bs x.s))]) := hdp95 22 _ 108 (by kernel_rfl) rfl rfl
                      have q95_109 : a95.tmps.getD 109 undef = (Value.agg #[(Value.int .i64 y.k), (Value.int .i64 y.n), (Value.string (bs y.s))]) := hdp95 23 _ 109 (by kernel_rfl) rfl rfl
                      have q95_93 : a95.tmps.getD 93 undef = (Value.bool true) := hdp95 7 _ 93 (by kernel_rfl) rfl rfl
                      clear hbs95 hdp95
                      refine g_true (j := 7) (dj := 93) (b := true) rfl rfl rfl (ev_base hN95 rfl q95_93) ?_
                      refine op_aeql (xs := [(Value.int .i64 x.k), (Value.int .i64 x.n), (Value.string (bs x.s))]) (ys := [(Value.int .i64 y.k), (Value.int .i64 y.n), (Value.string (bs y.s))]) (b' := (decide (x.k = y.k ∧ x.n = y.n ∧ x.s = y.s))) (ev_base hN95 rfl q95_108) (ev_base hN95 rfl q95_109) (eq50 x.k y.k x.n y.n x.s y.s) rfl ?_
                      exact obN_end rfl rfl ((grown_refl _ _))
                    · -- operation 25, slot 111
                      intro a96 w96 hN96 hR96 hbs96 hdp96
                      have hR96 : w59.grownBy w96 none := hR96
                      have q96_107 : a96.tmps.getD 107 undef = (Value.bool (decide (((keyX y lb n2).take (keyV x).length) = (keyV x)))) := hdp96 21 _ 107 (by kernel_rfl) rfl rfl
                      have q96_110 : a96.tmps.getD 110 undef = (Value.bool (decide (x.k = y.k ∧ x.n = y.n ∧ x.s = y.s))) := hdp96 24 _ 110 (by kernel_rfl) rfl rfl
                      have q96_93 : a96.tmps.getD 93 undef = (Value.bool true) := hdp96 7 _ 93 (by kernel_rfl) rfl rfl
                      clear hbs96 hdp96
                      refine g_true (j := 7) (dj := 93) (b := true) rfl rfl rfl (ev_base hN96 rfl q96_93) ?_
                      refine op_eqb Try.underlying4 (ev_base hN96 rfl q96_107) (ev_base hN96 rfl q96_110) ?_
                      exact obN_end rfl rfl ((grown_refl _ _))
                    · -- operation 26, slot 112
                      intro a97 w97 hN97 hR97 hbs97 hdp97
                      have hR97 : w59.grownBy w97 none := hR97
                      have q97_93 : a97.tmps.getD 93 undef = (Value.bool true) := hdp97 7 _ 93 (by kernel_rfl) rfl rfl
                      have q97_111 : a97.tmps.getD 111 undef = (Value.bool ((decide (((keyX y lb n2).take (keyV x).length) = (keyV x))) == (decide (x.k = y.k ∧ x.n = y.n ∧ x.s = y.s)))) := hdp97 25 _ 111 (by kernel_rfl) rfl rfl
                      clear hbs97 hdp97
                      refine op_pick_t (ev_base hN97 rfl q97_93) (ev_base hN97 rfl q97_111) ?_
                      exact obN_end rfl rfl ((grown_refl _ _))
                    · -- operation 27, slot 19
                      intro a98 w98 hN98 hR98 hbs98 hdp98
                      have hR98 : w59.grownBy w98 none := hR98
                      have q98_112 : a98.tmps.getD 112 undef = (Value.bool ((decide (((keyX y lb n2).take (keyV x).length) = (keyV x))) == (decide (x.k = y.k ∧ x.n = y.n ∧ x.s = y.s)))) := hdp98 26 _ 112 (by kernel_rfl) rfl rfl
                      clear hbs98 hdp98
                      refine op_assign (ev_base hN98 rfl q98_112) ?_
                      exact obN_end rfl rfl ((grown_refl _ _))
                    · -- behind the region
                      intro a99 w99 hN99 hd99 hbs99 hph99 E99
                      have hd99 := hd99.trans hd46
                      have s99_2 : a99.tmps.getD 2 undef = u := (hbs99 2 rfl).trans (sl_base hN46 rfl s46_2)
                      have s99_4 : a99.tmps.getD 4 undef = (Value.int .u64 ((n1 : Nat) : Int)) := (hbs99 4 rfl).trans (sl_base hN46 rfl s46_4)
                      have s99_6 : a99.tmps.getD 6 undef = (Value.int .i64 cut) := (hbs99 6 rfl).trans (sl_base hN46 rfl s46_6)
                      have s99_7 : a99.tmps.getD 7 undef = (ptr b3 0) := (hbs99 7 rfl).trans (sl_base hN46 rfl s46_7)
                      have s99_8 : a99.tmps.getD 8 undef = (ptr b7 0) := (hbs99 8 rfl).trans (sl_base hN46 rfl s46_8)
                      have s99_14 : a99.tmps.getD 14 undef = (Value.bool false) := (hbs99 14 rfl).trans (sl_base hN46 rfl s46_14)
                      have s99_15 : a99.tmps.getD 15 undef = y25 := (hbs99 15 rfl).trans (sl_base hN46 rfl s46_15)
                      have s99_16 : a99.tmps.getD 16 undef = v28 := (hbs99 16 rfl).trans (sl_base hN46 rfl s46_16)
                      have s99_17 : a99.tmps.getD 17 undef = (Value.int .i64 q) := (hbs99 17 rfl).trans (sl_base hN46 rfl s46_17)
                      have s99_18 : a99.tmps.getD 18 undef = (Value.string (bs (keyV x))) := (hbs99 18 rfl).trans (sl_hit hN46 rfl)
                      have s99_19 : a99.tmps.getD 19 undef = (Value.bool ((decide (((keyX y lb n2).take (keyV x).length) = (keyV x))) == (decide (x.k = y.k ∧ x.n = y.n ∧ x.s = y.s)))) := hph99 27 _ 19 rfl rfl
                      have s99_78 : a99.tmps.getD 78 undef = (Value.agg #[(Value.int .i64 x.k), (Value.int .i64 x.n), (Value.string (bs x.s))]) := (hbs99 78 rfl).trans (sl_hit hN46 rfl)
                      have s99_79 : a99.tmps.getD 79 undef = v58 := (hbs99 79 rfl).trans (sl_hit hN46 rfl)
                      have s99_80 : a99.tmps.getD 80 undef = (Value.string (bs (keyV x))) := (hbs99 80 rfl).trans (sl_hit hN46 rfl)
                      have s99_81 : a99.tmps.getD 81 undef = y25 := (hbs99 81 rfl).trans (sl_hit hN46 rfl)
                      have s99_82 : a99.tmps.getD 82 undef = (Value.int .i64 (((keyX x la n1).length : Nat) : Int)) := (hbs99 82 rfl).trans (sl_hit hN46 rfl)
                      have s99_83 : a99.tmps.getD 83 undef = (Value.string (bs (keyV x))) := (hbs99 83 rfl).trans (sl_hit hN46 rfl)
                      have s99_84 : a99.tmps.getD 84 undef = (Value.int .i64 ((keyV x).length : Int)) := (hbs99 84 rfl).trans (sl_hit hN46 rfl)
                      have s99_85 : a99.tmps.getD 85 undef = (Value.bool false) := (hbs99 85 rfl).trans (sl_hit hN46 rfl)
                      have s99_86 : a99.tmps.getD 86 undef = y25 := hph99 0 _ 86 rfl rfl
                      have s99_87 : a99.tmps.getD 87 undef = (Value.string (bs (keyV x))) := hph99 1 _ 87 rfl rfl
                      have s99_88 : a99.tmps.getD 88 undef = (Value.int .i64 ((keyV x).length : Int)) := hph99 2 _ 88 rfl rfl
                      obtain ⟨v67, s99_89, hR68⟩ := hph99 3 _ 89 rfl rfl
                      have hR68 : RdC w99 w22.heap.size w99.heap.size 1 v67 ((keyV x).length) ((((keyX x la n1).take (keyV x).length)).map u8v) := hR68
                      have s99_90 : a99.tmps.getD 90 undef = (Value.string (bs ((keyX x la n1).take (keyV x).length))) := hph99 4 _ 90 rfl rfl
                      have s99_91 : a99.tmps.getD 91 undef = (Value.string (bs (keyV x))) := hph99 5 _ 91 rfl rfl
                      have s99_92 : a99.tmps.getD 92 undef = (Value.bool true) := hph99 6 _ 92 rfl rfl
                      have s99_93 : a99.tmps.getD 93 undef = (Value.bool true) := hph99 7 _ 93 rfl rfl
                      have s99_94 : a99.tmps.getD 94 undef = v28 := hph99 8 _ 94 rfl rfl
                      have s99_95 : a99.tmps.getD 95 undef = (Value.int .i64 (((keyX y lb n2).length : Nat) : Int)) := hph99 9 _ 95 rfl rfl
                      have s99_96 : a99.tmps.getD 96 undef = (Value.string (bs (keyV x))) := hph99 10 _ 96 rfl rfl
                      have s99_97 : a99.tmps.getD 97 undef = (Value.int .i64 ((keyV x).length : Int)) := hph99 11 _ 97 rfl rfl
                      have s99_98 : a99.tmps.getD 98 undef = (Value.bool true) := hph99 12 _ 98 rfl rfl
                      have s99_99 : a99.tmps.getD 99 undef = (Value.bool true) := hph99 13 _ 99 rfl rfl
                      have s99_100 : a99.tmps.getD 100 undef = v28 := hph99 14 _ 100 rfl rfl
                      have s99_101 : a99.tmps.getD 101 undef = (Value.string (bs (keyV x))) := hph99 15 _ 101 rfl rfl
                      have s99_102 : a99.tmps.getD 102 undef = (Value.int .i64 ((keyV x).length : Int)) := hph99 16 _ 102 rfl rfl
                      obtain ⟨v69, s99_103, hR70⟩ := hph99 17 _ 103 rfl rfl
                      have hR70 : RdC w99 w22.heap.size w99.heap.size 1 v69 ((keyV x).length) ((((keyX y lb n2).take (keyV x).length)).map u8v) := hR70
                      have s99_104 : a99.tmps.getD 104 undef = (Value.string (bs ((keyX y lb n2).take (keyV x).length))) := hph99 18 _ 104 rfl rfl
                      have s99_105 : a99.tmps.getD 105 undef = (Value.string (bs (keyV x))) := hph99 19 _ 105 rfl rfl
                      have s99_106 : a99.tmps.getD 106 undef = (Value.bool (decide (((keyX y lb n2).take (keyV x).length) = (keyV x)))) := hph99 20 _ 106 rfl rfl
                      have s99_107 : a99.tmps.getD 107 undef = (Value.bool (decide (((keyX y lb n2).take (keyV x).length) = (keyV x)))) := hph99 21 _ 107 rfl rfl
                      have s99_108 : a99.tmps.getD 108 undef = (Value.agg #[(Value.int .i64 x.k), (Value.int .i64 x.n), (Value.string (bs x.s))]) := hph99 22 _ 108 rfl rfl
                      have s99_109 : a99.tmps.getD 109 undef = (Value.agg #[(Value.int .i64 y.k), (Value.int .i64 y.n), (Value.string (bs y.s))]) := hph99 23 _ 109 rfl rfl
                      have s99_110 : a99.tmps.getD 110 undef = (Value.bool (decide (x.k = y.k ∧ x.n = y.n ∧ x.s = y.s))) := hph99 24 _ 110 rfl rfl
                      have s99_111 : a99.tmps.getD 111 undef = (Value.bool ((decide (((keyX y lb n2).take (keyV x).length) = (keyV x))) == (decide (x.k = y.k ∧ x.n = y.n ∧ x.s = y.s)))) := hph99 25 _ 111 rfl rfl
                      have s99_112 : a99.tmps.getD 112 undef = (Value.bool ((decide (((keyX y lb n2).take (keyV x).length) = (keyV x))) == (decide (x.k = y.k ∧ x.n = y.n ∧ x.s = y.s)))) := hph99 26 _ 112 rfl rfl
                      clear hbs99 hph99
                      have E99 : w59.grownBy w99 none := E99
                      have z_w99 := E99.size
                      have h := h.keep0 E99
                      have h2 := h2.keep0 E99
                      have hB5 := hB5.keep0 E99
                      have hB9 := hB9.keep0 E99
                      have hy26 := hy26.keep0 E99
                      have hO25 := hO25.keep0 E99
                      have hO28 := hO28.keep0 E99
                      have hO58 := hO58.keep0 E99
                      have hb := below_step0 hb E99 hb.size
                      refine hK66 _ _ ?_
                      refine seq_any fun K100 hK100 => ?_
                      refine one_reg ?_
                      refine op_move (ev_base hN99 rfl s99_15) ?_
                      have hq101 : RdC w99 0 w99.heap.size 1 y25 (keyX x la n1).length ((keyX x la n1).map u8v) := by have hh : RdC w99 0 w99.heap.size 1 _ _ _ := (hy26.rdw.mono (L' := 0) (B' := w99.heap.size) (Nat.zero_le _) (by omega)); first | simpa using hh | simpa [Nat.add_comm, Nat.add_left_comm, Nat.add_assoc] using hh | exact hh.cast (by simp; try omega) (by simp)
                      refine op_fn (vs := [y25]) ok55 ⟨(ev_hit hN99 rfl), trivial⟩ (IXTake_ret (keyX x la n1) y25 _ (by first | assumption | omega | (simp only [List.length_append, List.length_cons, List.length_nil, List.length_drop, List.length_take]; omega) | (dsimp only; omega) | decide | (simp [keyV, be8_len]; done)) hq101) ?_
                      rintro _ w103 ⟨E104, u102, rfl, hO102⟩
                      have E104 := grown_of_below E104
                      have z_w103 := E104.size
                      have h := h.keep0 E104
                      have h2 := h2.keep0 E104
                      have hB5 := hB5.keep0 E104
                      have hB9 := hB9.keep0 E104
                      have hy26 := hy26.keep0 E104
                      have hO25 := hO25.keep0 E104
                      have hO28 := hO28.keep0 E104
                      have hO58 := hO58.keep0 E104
                      have hR68 := hR68.keep0w E104
                      have hR70 := hR70.keep0w E104
                      have hb := below_step0 hb E104 hb.size
                      have hO102 := hO102.mono (base' := w99.heap.size) (by omega)
                      refine op_move (ev_hit hN99 rfl) ?_
                      refine op_extract (ev_hit hN99 rfl) rfl ?_
                      refine op_extract (ev_hit hN99 rfl) rfl ?_
                      refine op_extract (ev_hit hN99 rfl) rfl ?_
                      refine op_extract (ev_hit hN99 rfl) rfl ?_
                      refine op_alloc (cs := [(Value.int .i64 0), (Value.int .i64 0), (Value.string (bs []))]) zero50 rfl ?_
                      intro w105 b106 lo_b106 hi_b106 hB108 E107
                      have z_w105 := E107.size
                      have h := h.keep0 E107
                      have h2 := h2.keep0 E107
                      have hB5 := hB5.keep0 E107
                      have hB9 := hB9.keep0 E107
                      have hy26 := hy26.keep0 E107
                      have hO25 := hO25.keep0 E107
                      have hO28 := hO28.keep0 E107
                      have hO58 := hO58.keep0 E107
                      have hR68 := hR68.keep0w E107
                      have hR70 := hR70.keep0w E107
                      have hO102 := hO102.keep0 E107
                      have hb := below_step0 hb E107 hb.size
                      have hB108_old := hB108
                      refine op_store (vs := [(Value.int .i64 (takeX (keyX x la n1)).1.k), (Value.int .i64 (takeX (keyX x la n1)).1.n), (Value.string (bs (takeX (keyX x la n1)).1.s))]) (cs' := [(Value.int .i64 (takeX (keyX x la n1)).1.k), (Value.int .i64 (takeX (keyX x la n1)).1.n), (Value.string (bs (takeX (keyX x la n1)).1.s))]) size50 (ev_hit hN99 rfl) (ev_hit hN99 rfl) rfl rfl rfl hB108 (Nat.le_of_ble_eq_true rfl) rfl ?_
                      intro w111 hB108 E112
                      have z_w111 := E112.size
                      have h := h.keep E112 (fun k hk => .inr (by simp at hk; omega))
                      have h2 := h2.keep E112 (fun k hk => .inr (by simp at hk; omega))
                      have hB5 := hB5.keep E112 (by simp; omega)
                      have hB9 := hB9.keep E112 (by simp; omega)
                      have hy26 := hy26.keepX hB108_old E112 (by decide)
                      have hO25 := hO25.keepX hB108_old E112 (by decide)
                      have hO28 := hO28.keepX hB108_old E112 (by decide)
                      have hO58 := hO58.keepX hB108_old E112 (by decide)
                      have hO102 := hO102.keepX hB108_old E112 (by decide)
                      have hb := below_step1 hb E112 hb.size (by omega)
                      refine op_assign (ev_hit hN99 rfl) ?_
                      refine op_assign (ev_hit hN99 rfl) ?_
                      refine op_assign (ev_hit hN99 rfl) ?_
                      refine reg_nil ?_
                      refine hK100 _ _ ?_
                      refine seq_any fun K113 hK113 => ?_
                      refine one_reg ?_
                      refine op_move (ev_base hN99 rfl s99_15) ?_
                      refine op_move (ev_base hN99 rfl s99_6) ?_
                      refine op_move (ev_base hN99 rfl s99_15) ?_
                      refine op_len_rd Try.underlying22 (ev_hit hN99 rfl) hy26.rdw ?_
                      refine op_fn (vs := [(Value.int .i64 cut), (Value.int .i64 (((keyX x la n1).length : Nat) : Int))]) ok52 ⟨(ev_hit hN99 rfl), ⟨(ev_hit hN99 rfl), trivial⟩⟩ (Place_ret cut (((keyX x la n1).length : Nat) : Int) _ (by first | assumption | omega | (simp only [List.length_append, List.length_cons, List.length_nil, List.length_drop, List.length_take]; omega) | (dsimp only; omega) | decide | (simp [keyV, be8_len]; done)) (by first | assumption | omega | (simp only [List.length_append, List.length_cons, List.length_nil, List.length_drop, List.length_take]; omega) | (dsimp only; omega) | decide | (simp [keyV, be8_len]; done))) ?_
                      rintro _ w114 ⟨E115, rfl⟩
                      have E115 := grown_of_below E115
                      have z_w114 := E115.size
                      have h := h.keep0 E115
                      have h2 := h2.keep0 E115
                      have hB5 := hB5.keep0 E115
                      have hB9 := hB9.keep0 E115
                      have hy26 := hy26.keep0 E115
                      have hO25 := hO25.keep0 E115
                      have hO28 := hO28.keep0 E115
                      have hO58 := hO58.keep0 E115
                      have hO102 := hO102.keep0 E115
                      have hB108 := hB108.keep0 E115
                      have hb := below_step0 hb E115 hb.size
                      refine op_slice_rd (lo := 0) (hi := (placeI cut ((keyX x la n1).length : Int)).toNat) slt22 (ev_hit hN99 rfl) hy26.rdw (.inl ⟨rfl, rfl⟩) (.inr ⟨_, _, rfl, (ev_hit hN99 rfl).trans (congrArg (Value.int _) (by omega))⟩) (by omega) (by omega) ?_
                      intro v116 hR117
                      have hR117 : RdC w114 w22.heap.size w114.heap.size 1 v116 ((placeI cut ((keyX x la n1).length : Int)).toNat) ((((keyX x la n1).take (placeI cut ((keyX x la n1).length : Int)).toNat)).map u8v) := by simpa [List.map_take] using hR117
                      have hq118 : RdC w114 0 w114.heap.size 1 v116 ((keyX x la n1).take (placeI cut ((keyX x la n1).length : Int)).toNat).length (((keyX x la n1).take (placeI cut ((keyX x la n1).length : Int)).toNat).map u8v) := by have hh : RdC w114 0 w114.heap.size 1 _ _ _ := (hR117.mono (L' := 0) (B' := w114.heap.size) (Nat.zero_le _) (by omega)); first | simpa using hh | simpa [Nat.add_comm, Nat.add_left_comm, Nat.add_assoc] using hh | exact hh.cast (by simp; try omega) (by simp)
                      refine op_fn (vs := [v116]) ok55 ⟨(ev_hit hN99 rfl), trivial⟩ (IXTake_ret ((keyX x la n1).take (placeI cut ((keyX x la n1).length : Int)).toNat) v116 _ (by first | assumption | omega | (simp only [List.length_append, List.length_cons, List.length_nil, List.length_drop, List.length_take]; omega) | (dsimp only; omega) | decide | (simp [keyV, be8_len]; done)) hq118) ?_
                      rintro _ w120 ⟨E121, u119, rfl, hO119⟩
                      have dj122 : DJ u119 u102 := fun k hk hg => by have q1 := (hO119.lt k hk).1; have q2 := (hO102.lt k hg).2; omega
                      have E121 := grown_of_below E121
                      have z_w120 := E121.size
                      have h := h.keep0 E121
                      have h2 := h2.keep0 E121
                      have hB5 := hB5.keep0 E121
                      have hB9 := hB9.keep0 E121
                      have hy26 := hy26.keep0 E121
                      have hO25 := hO25.keep0 E121
                      have hO28 := hO28.keep0 E121
                      have hO58 := hO58.keep0 E121
                      have hO102 := hO102.keep0 E121
                      have hB108 := hB108.keep0 E121
                      have hR117 := hR117.keep0w E121
                      have hb := below_step0 hb E121 hb.size
                      have hO119 := hO119.mono (base' := w114.heap.size) (by omega)
                      refine op_move (ev_hit hN99 rfl) ?_
                      refine op_extract (ev_hit hN99 rfl) rfl ?_
                      refine op_extract (ev_hit hN99 rfl) rfl ?_
                      refine op_extract (ev_hit hN99 rfl) rfl ?_
                      refine op_extract (ev_hit hN99 rfl) rfl ?_
                      refine op_alloc (cs := [(Value.int .i64 0), (Value.int .i64 0), (Value.string (bs []))]) zero50 rfl ?_
                      intro w123 b124 lo_b124 hi_b124 hB126 E125
                      have z_w123 := E125.size
                      have h := h.keep0 E125
                      have h2 := h2.keep0 E125
                      have hB5 := hB5.keep0 E125
                      have hB9 := hB9.keep0 E125
                      have hy26 := hy26.keep0 E125
                      have hO25 := hO25.keep0 E125
                      have hO28 := hO28.keep0 E125
                      have hO58 := hO58.keep0 E125
                      have hO102 := hO102.keep0 E125
                      have hB108 := hB108.keep0 E125
                      have hR117 := hR117.keep0w E125
                      have hO119 := hO119.keep0 E125
                      have hb := below_step0 hb E125 hb.size
                      have hB126_old := hB126
                      refine op_store (vs := [(Value.int .i64 (takeX ((keyX x la n1).take (placeI cut ((keyX x la n1).length : Int)).toNat)).1.k), (Value.int .i64 (takeX ((keyX x la n1).take (placeI cut ((keyX x la n1).length : Int)).toNat)).1.n), (Value.string (bs (takeX ((keyX x la n1).take (placeI cut ((keyX x la n1).length : Int)).toNat)).1.s))]) (cs' := [(Value.int .i64 (takeX ((keyX x la n1).take (placeI cut ((keyX x la n1).length : Int)).toNat)).1.k), (Value.int .i64 (takeX ((keyX x la n1).take (placeI cut ((keyX x la n1).length : Int)).toNat)).1.n), (Value.string (bs (takeX ((keyX x la n1).take (placeI cut ((keyX x la n1).length : Int)).toNat)).1.s))]) size50 (ev_hit hN99 rfl) (ev_hit hN99 rfl) rfl rfl rfl hB126 (Nat.le_of_ble_eq_true rfl) rfl ?_
                      intro w129 hB126 E130
                      have z_w129 := E130.size
                      have h := h.keep E130 (fun k hk => .inr (by simp at hk; omega))
                      have h2 := h2.keep E130 (fun k hk => .inr (by simp at hk; omega))
                      have hB5 := hB5.keep E130 (by simp; omega)
                      have hB9 := hB9.keep E130 (by simp; omega)
                      have hy26 := hy26.keepX hB126_old E130 (by decide)
                      have hO25 := hO25.keepX hB126_old E130 (by decide)
                      have hO28 := hO28.keepX hB126_old E130 (by decide)
                      have hO58 := hO58.keepX hB126_old E130 (by decide)
                      have hO102 := hO102.keepX hB126_old E130 (by decide)
                      have hB108 := hB108.keep E130 (by simp; omega)
                      have hO119 := hO119.keepX hB126_old E130 (by decide)
                      have hb := below_step1 hb E130 hb.size (by omega)
                      refine op_assign (ev_hit hN99 rfl) ?_
                      refine op_assign (ev_hit hN99 rfl) ?_
                      refine op_assign (ev_hit hN99 rfl) ?_
                      refine reg_nil ?_
                      refine hK113 _ _ ?_
                      refine seq_any fun K131 hK131 => ?_
                      refine one_reg ?_
                      refine op_bslice (e := 5) (pv := []) (cs := []) trivial (by kernel_rfl) ?_
                      intro w132 b133 lo_b133 hi_b133 hB135 E134
                      have ne_b133_y25 : y25.ownBlock ≠ some b133 := fun hh => by have := (hy26.lt _ hh).2; omega
                      have ne_b133_v25 : v25.ownBlock ≠ some b133 := fun hh => by have := (hO25.lt _ hh).2; omega
                      have ne_b133_v28 : v28.ownBlock ≠ some b133 := fun hh => by have := (hO28.lt _ hh).2; omega
                      have ne_b133_v58 : v58.ownBlock ≠ some b133 := fun hh => by have := (hO58.lt _ hh).2; omega
                      have z_w132 := E134.size
                      have h := h.keep0 E134
                      have h2 := h2.keep0 E134
                      have hB5 := hB5.keep0 E134
                      have hB9 := hB9.keep0 E134
                      have hy26 := hy26.keep0 E134
                      have hO25 := hO25.keep0 E134
                      have hO28 := hO28.keep0 E134
                      have hO58 := hO58.keep0 E134
                      have hO102 := hO102.keep0 E134
                      have hB108 := hB108.keep0 E134
                      have hO119 := hO119.keep0 E134
                      have hB126 := hB126.keep0 E134
                      have hb := below_step0 hb E134 hb.size
                      refine op_move (ev_base hN99 rfl s99_15) ?_
                      have hP141 := (Own.ofBx (base := w.heap.size) (sz := 1) (n := 0) hB135 rfl (by decide) (by omega))
                      refine op_append slt22 (ev_hit hN99 rfl) hP141 (ev_hit hN99 rfl) (Src.ofRd Try.underlying22 (by decide) hy26.rdw (by simp [Value.oneCell', u8v])) (by unfold maxLen; omega) (by omega) hb.size ?_
                      intro v136 w137 hO139 E138 hm140
                      have dj142 : DJ y25 (Value.slice (some ⟨b133, 0, none⟩) 0 0) := fun k hk hg => by simp [Value.ownBlock] at hg; subst hg; exact ne_b133_y25 hk
                      have dj143 : DJ y25 v136 := DJ.step hm140 (fun k hk => (hy26.lt k hk).2) dj142
                      have dj144 : DJ v25 (Value.slice (some ⟨b133, 0, none⟩) 0 0) := fun k hk hg => by simp [Value.ownBlock] at hg; subst hg; exact ne_b133_v25 hk
                      have dj145 : DJ v25 v136 := DJ.step hm140 (fun k hk => (hO25.lt k hk).2) dj144
                      have dj146 : DJ v28 (Value.slice (some ⟨b133, 0, none⟩) 0 0) := fun k hk hg => by simp [Value.ownBlock] at hg; subst hg; exact ne_b133_v28 hk
                      have dj147 : DJ v28 v136 := DJ.step hm140 (fun k hk => (hO28.lt k hk).2) dj146
                      have dj148 : DJ v58 (Value.slice (some ⟨b133, 0, none⟩) 0 0) := fun k hk hg => by simp [Value.ownBlock] at hg; subst hg; exact ne_b133_v58 hk
                      have dj149 : DJ v58 v136 := DJ.step hm140 (fun k hk => (hO58.lt k hk).2) dj148
                      have z_w137 := E138.size
                      have h := h.keepO hP141 E138 (by omega)
                      have h2 := h2.keepO hP141 E138 (by omega)
                      have hB5 := hB5.keep E138 (by simp [Value.ownBlock]; try omega)
                      have hB9 := hB9.keep E138 (by simp [Value.ownBlock]; try omega)
                      have hy26 := hy26.keepD E138 dj142
                      have hO25 := hO25.keepD E138 dj144
                      have hO28 := hO28.keepD E138 dj146
                      have hO58 := hO58.keepD E138 dj148
                      have hO102 := hO102.keepT hP141 E138 (by decide)
                      have hB108 := hB108.keep E138 (by simp [Value.ownBlock]; try omega)
                      have hO119 := hO119.keepT hP141 E138 (by decide)
                      have hB126 := hB126.keep E138 (by simp [Value.ownBlock]; try omega)
                      have hb := below_stepO hb hP141 E138 hb.size (by omega)
                      have hO139 : Own w137 w.heap.size 5 1 v136 (0 + (keyX x la n1).length) (((keyX x la n1)).map u8v) := by simpa [u8v, u16v, cellsV] using hO139
                      refine op_bslice (e := 5) (pv := [(0, (Value.int .u8 0))]) (cs := [(Value.int .u8 0)]) ⟨rfl, rfl, trivial⟩ (by kernel_rfl) ?_
                      intro w150 b151 lo_b151 hi_b151 hB153 E152
                      have ne_b151_y25 : y25.ownBlock ≠ some b151 := fun hh => by have := (hy26.lt _ hh).2; omega
                      have ne_b151_v25 : v25.ownBlock ≠ some b151 := fun hh => by have := (hO25.lt _ hh).2; omega
                      have ne_b151_v28 : v28.ownBlock ≠ some b151 := fun hh => by have := (hO28.lt _ hh).2; omega
                      have ne_b151_v58 : v58.ownBlock ≠ some b151 := fun hh => by have := (hO58.lt _ hh).2; omega
                      have ne_b151_v136 : v136.ownBlock ≠ some b151 := fun hh => by have := (hO139.lt _ hh).2; omega
                      have z_w150 := E152.size
                      have h := h.keep0 E152
                      have h2 := h2.keep0 E152
                      have hB5 := hB5.keep0 E152
                      have hB9 := hB9.keep0 E152
                      have hy26 := hy26.keep0 E152
                      have hO25 := hO25.keep0 E152
                      have hO28 := hO28.keep0 E152
                      have hO58 := hO58.keep0 E152
                      have hO102 := hO102.keep0 E152
                      have hB108 := hB108.keep0 E152
                      have hO119 := hO119.keep0 E152
                      have hB126 := hB126.keep0 E152
                      have hO139 := hO139.keep0 E152
                      have hb := below_step0 hb E152 hb.size
                      have hP159 := hO139
                      refine op_append slt22 (ev_hit hN99 rfl) hP159 (ev_hit hN99 rfl) (Src.ofRd Try.underlying22 (by decide) (RdC.ofBx (sz := 1) (n := 1) hB153 rfl (by decide)) (by simp [Value.oneCell', u8v])) (by unfold maxLen; omega) (by omega) hb.size ?_
                      intro v154 w155 hO157 E156 hm158
                      have dj160 : DJ y25 v154 := DJ.step hm158 (fun k hk => (hy26.lt k hk).2) dj143
                      have dj161 : DJ v25 v154 := DJ.step hm158 (fun k hk => (hO25.lt k hk).2) dj145
                      have dj162 : DJ v28 v154 := DJ.step hm158 (fun k hk => (hO28.lt k hk).2) dj147
                      have dj163 : DJ v58 v154 := DJ.step hm158 (fun k hk => (hO58.lt k hk).2) dj149
                      have z_w155 := E156.size
                      have h := h.keepO hP159 E156 (by omega)
                      have h2 := h2.keepO hP159 E156 (by omega)
                      have hB5 := hB5.keepO hP159 E156 (by decide)
                      have hB9 := hB9.keepO hP159 E156 (by decide)
                      have hy26 := hy26.keepD E156 dj143
                      have hO25 := hO25.keepD E156 dj145
                      have hO28 := hO28.keepD E156 dj147
                      have hO58 := hO58.keepD E156 dj149
                      have hO102 := hO102.keepT hP159 E156 (by decide)
                      have hB108 := hB108.keepO hP159 E156 (by decide)
                      have hO119 := hO119.keepT hP159 E156 (by decide)
                      have hB126 := hB126.keepO hP159 E156 (by decide)
                      have hB153 := hB153.keep E156 (fun hh => ne_b151_v136 hh.symm)
                      have hb := below_stepO hb hP159 E156 hb.size (by omega)
                      have hO157 : Own w155 w.heap.size 5 1 v154 ((0 + (keyX x la n1).length) + 1) ((((keyX x la n1) ++ [0])).map u8v) := by simpa [u8v, u16v, cellsV] using hO157
                      have ne_b151_v154 : v154.ownBlock ≠ some b151 := ne_step (w1 := w150) ⟨E156, hm158⟩ (by omega) ne_b151_v136
                      have hq164 : RdC w155 0 w155.heap.size 1 v154 ((keyX x la n1) ++ [0]).length (((keyX x la n1) ++ [0]).map u8v) := by have hh : RdC w155 0 w155.heap.size 1 _ _ _ := (hO157.rdw.mono (L' := 0) (B' := w155.heap.size) (Nat.zero_le _) (by omega)); first | simpa using hh | simpa [Nat.add_comm, Nat.add_left_comm, Nat.add_assoc] using hh | exact hh.cast (by simp; try omega) (by simp)
                      refine op_fn (vs := [v154]) ok55 ⟨(ev_hit hN99 rfl), trivial⟩ (IXTake_ret ((keyX x la n1) ++ [0]) v154 _ (by first | assumption | omega | (simp only [List.length_append, List.length_cons, List.length_nil, List.length_drop, List.length_take]; omega) | (dsimp only; omega) | decide | (simp [keyV, be8_len]; done)) hq164) ?_
                      rintro _ w166 ⟨E167, u165, rfl, hO165⟩
                      have dj168 : DJ u165 u102 := fun k hk hg => by have q1 := (hO165.lt k hk).1; have q2 := (hO102.lt k hg).2; omega
                      have dj169 : DJ u165 u119 := fun k hk hg => by have q1 := (hO165.lt k hk).1; have q2 := (hO119.lt k hg).2; omega
                      have E167 := grown_of_below E167
                      have z_w166 := E167.size
                      have h := h.keep0 E167
                      have h2 := h2.keep0 E167
                      have hB5 := hB5.keep0 E167
                      have hB9 := hB9.keep0 E167
                      have hy26 := hy26.keep0 E167
                      have hO25 := hO25.keep0 E167
                      have hO28 := hO28.keep0 E167
                      have hO58 := hO58.keep0 E167
                      have hO102 := hO102.keep0 E167
                      have hB108 := hB108.keep0 E167
                      have hO119 := hO119.keep0 E167
                      have hB126 := hB126.keep0 E167
                      have hB153 := hB153.keep0 E167
                      have hO157 := hO157.keep0 E167
                      have hb := below_step0 hb E167 hb.size
                      have hO165 := hO165.mono (base' := w155.heap.size) (by omega)
                      refine op_move (ev_hit hN99 rfl) ?_
                      refine op_extract (ev_hit hN99 rfl) rfl ?_
                      refine op_extract (ev_hit hN99 rfl) rfl ?_
                      refine op_extract (ev_hit hN99 rfl) rfl ?_
                      refine op_extract (ev_hit hN99 rfl) rfl ?_
                      refine op_alloc (cs := [(Value.int .i64 0), (Value.int .i64 0), (Value.string (bs []))]) zero50 rfl ?_
                      intro w170 b171 lo_b171 hi_b171 hB173 E172
                      have z_w170 := E172.size
                      have h := h.keep0 E172
                      have h2 := h2.keep0 E172
                      have hB5 := hB5.keep0 E172
                      have hB9 := hB9.keep0 E172
                      have hy26 := hy26.keep0 E172
                      have hO25 := hO25.keep0 E172
                      have hO28 := hO28.keep0 E172
                      have hO58 := hO58.keep0 E172
                      have hO102 := hO102.keep0 E172
                      have hB108 := hB108.keep0 E172
                      have hO119 := hO119.keep0 E172
                      have hB126 := hB126.keep0 E172
                      have hB153 := hB153.keep0 E172
                      have hO157 := hO157.keep0 E172
                      have hO165 := hO165.keep0 E172
                      have hb := below_step0 hb E172 hb.size
                      have hB173_old := hB173
                      refine op_store (vs := [(Value.int .i64 (takeX ((keyX x la n1) ++ [0])).1.k), (Value.int .i64 (takeX ((keyX x la n1) ++ [0])).1.n), (Value.string (bs (takeX ((keyX x la n1) ++ [0])).1.s))]) (cs' := [(Value.int .i64 (takeX ((keyX x la n1) ++ [0])).1.k), (Value.int .i64 (takeX ((keyX x la n1) ++ [0])).1.n), (Value.string (bs (takeX ((keyX x la n1) ++ [0])).1.s))]) size50 (ev_hit hN99 rfl) (ev_hit hN99 rfl) rfl rfl rfl hB173 (Nat.le_of_ble_eq_true rfl) rfl ?_
                      intro w176 hB173 E177
                      have z_w176 := E177.size
                      have h := h.keep E177 (fun k hk => .inr (by simp at hk; omega))
                      have h2 := h2.keep E177 (fun k hk => .inr (by simp at hk; omega))
                      have hB5 := hB5.keep E177 (by simp; omega)
                      have hB9 := hB9.keep E177 (by simp; omega)
                      have hy26 := hy26.keepX hB173_old E177 (by decide)
                      have hO25 := hO25.keepX hB173_old E177 (by decide)
                      have hO28 := hO28.keepX hB173_old E177 (by decide)
                      have hO58 := hO58.keepX hB173_old E177 (by decide)
                      have hO102 := hO102.keepX hB173_old E177 (by decide)
                      have hB108 := hB108.keep E177 (by simp; omega)
                      have hO119 := hO119.keepX hB173_old E177 (by decide)
                      have hB126 := hB126.keep E177 (by simp; omega)
                      have hB153 := hB153.keep E177 (by simp; omega)
                      have hO157 := hO157.keepX hB173_old E177 (by decide)
                      have hO165 := hO165.keepX hB173_old E177 (by decide)
                      have hb := below_step1 hb E177 hb.size (by omega)
                      refine op_assign (ev_hit hN99 rfl) ?_
                      refine op_assign (ev_hit hN99 rfl) ?_
                      refine op_assign (ev_hit hN99 rfl) ?_
                      refine reg_nil ?_
                      refine hK131 _ _ ?_
                      refine seq_any fun K178 hK178 => ?_
                      refine one_reg ?_
                      refine op_move (ev_base hN99 rfl s99_15) ?_
                      refine op_str_of (bl := (keyX x la n1)) Try.underlying22 Try.underlying5 Try.underlying9 (ev_hit hN99 rfl) hy26.rdw ?_
                      refine op_move (ev_base hN99 rfl s99_16) ?_
                      refine op_str_of (bl := (keyX y lb n2)) Try.underlying22 Try.underlying5 Try.underlying9 (ev_hit hN99 rfl) hO28.rdw ?_
                      refine op_fn (vs := [(Value.string (bs (keyX x la n1))), (Value.string (bs (keyX y lb n2)))]) ok42 ⟨(ev_hit hN99 rfl), ⟨(ev_hit hN99 rfl), trivial⟩⟩ (CompareText_ret (keyX x la n1) (keyX y lb n2) _ (by first | assumption | omega | (simp only [List.length_append, List.length_cons, List.length_nil, List.length_drop, List.length_take]; omega) | (dsimp only; omega) | decide | (simp [keyV, be8_len]; done)) (by first | assumption | omega | (simp only [List.length_append, List.length_cons, List.length_nil, List.length_drop, List.length_take]; omega) | (dsimp only; omega) | decide | (simp [keyV, be8_len]; done))) ?_
                      rintro _ w179 ⟨E180, rfl⟩
                      have E180 := grown_of_below E180
                      have z_w179 := E180.size
                      have h := h.keep0 E180
                      have h2 := h2.keep0 E180
                      have hB5 := hB5.keep0 E180
                      have hB9 := hB9.keep0 E180
                      have hy26 := hy26.keep0 E180
                      have hO25 := hO25.keep0 E180
                      have hO28 := hO28.keep0 E180
                      have hO58 := hO58.keep0 E180
                      have hO102 := hO102.keep0 E180
                      have hB108 := hB108.keep0 E180
                      have hO119 := hO119.keep0 E180
                      have hB126 := hB126.keep0 E180
                      have hB153 := hB153.keep0 E180
                      have hO157 := hO157.keep0 E180
                      have hO165 := hO165.keep0 E180
                      have hB173 := hB173.keep0 E180
                      have hb := below_step0 hb E180 hb.size
                      refine op_move (ev_base hN99 rfl s99_17) ?_
                      refine op_eql (ev_hit hN99 rfl) (ev_hit hN99 rfl) (fun c149 => ?_) (fun c149 => ?_)
                      · -- 149 True
                        refine op_move (ev_hit hN99 rfl) ?_
                        refine g_true (j := 7) (dj := 150) (b := true) rfl rfl rfl (ev_hit hN99 rfl) ?_
                        refine op_move (ev_base hN99 rfl s99_19) ?_
                        refine op_pick_t (ev_hit hN99 rfl) (ev_hit hN99 rfl) ?_
                        refine op_move (ev_hit hN99 rfl) ?_
                        rcases Bool.eq_false_or_eq_true (((decide (((keyX y lb n2).take (keyV x).length) = (keyV x))) == (decide (x.k = y.k ∧ x.n = y.n ∧ x.s = y.s)))) with g153 | g153
                        · -- 153 True
                          rw [g153]
                          refine g_true (j := 10) (dj := 153) (b := true) rfl rfl rfl (ev_hit hN99 rfl) ?_
                          refine op_move (ev_hit hN99 rfl) ?_
                          refine g_true (j := 10) (dj := 153) (b := true) rfl rfl rfl (ev_hit hN99 rfl) ?_
                          refine op_eql (ev_hit hN99 rfl) rfl (fun c155 => ?_) (fun c155 => ?_)
                          · -- 155 True
                            refine op_pick_t (ev_hit hN99 rfl) (ev_hit hN99 rfl) ?_
                            refine op_move (ev_hit hN99 rfl) ?_
                            refine g_true (j := 14) (dj := 157) (b := true) rfl rfl rfl (ev_hit hN99 rfl) ?_
                            refine op_loadA (cs := [(Value.int .i64 (takeX (keyX x la n1)).1.k), (Value.int .i64 (takeX (keyX x la n1)).1.n), (Value.string (bs (takeX (keyX x la n1)).1.s))]) agg50 rfl (ev_hit hN99 rfl) (fun j u hu => by rw [Nat.zero_add]; exact hB108.cell hu) ?_
                            refine g_true (j := 14) (dj := 157) (b := true) rfl rfl rfl (ev_hit hN99 rfl) ?_
                            refine op_loadA (cs := [(Value.int .i64 x.k), (Value.int .i64 x.n), (Value.string (bs x.s))]) agg50 rfl (ev_base hN99 rfl s99_7) (fun j u hu => by rw [Nat.zero_add]; exact hB5.cell hu) ?_
                            refine g_true (j := 14) (dj := 157) (b := true) rfl rfl rfl (ev_hit hN99 rfl) ?_
                            by_cases c160 : (takeX (keyX x la n1)).1.k = x.k ∧ (takeX (keyX x la n1)).1.n = x.n ∧ (takeX (keyX x la n1)).1.s = x.s
                            · -- 160 True
                              refine op_aeql (xs := [(Value.int .i64 (takeX (keyX x la n1)).1.k), (Value.int .i64 (takeX (keyX x la n1)).1.n), (Value.string (bs (takeX (keyX x la n1)).1.s))]) (ys := [(Value.int .i64 x.k), (Value.int .i64 x.n), (Value.string (bs x.s))]) (b' := true) (ev_hit hN99 rfl) (ev_hit hN99 rfl) (eq50 (takeX (keyX x la n1)).1.k x.k (takeX (keyX x la n1)).1.n x.n (takeX (keyX x la n1)).1.s x.s) (decide_eq_true c160) ?_
                              refine op_pick_t (ev_hit hN99 rfl) (ev_hit hN99 rfl) ?_
                              refine op_move (ev_hit hN99 rfl) ?_
                              refine g_true (j := 19) (dj := 162) (b := true) rfl rfl rfl (ev_hit hN99 rfl) ?_
                              refine op_move (ev_hit hN99 rfl) ?_
                              refine g_true (j := 19) (dj := 162) (b := true) rfl rfl rfl (ev_hit hN99 rfl) ?_
                              refine op_move (ev_base hN99 rfl s99_2) ?_
                              have hTX := takeX_lab (keyX x la n1)
                              refine g_true (j := 19) (dj := 162) (b := true) rfl rfl rfl (ev_hit hN99 rfl) ?_
                              refine op_fn (vs := [u102, u]) ok60 ⟨(ev_hit hN99 rfl), ⟨(ev_hit hN99 rfl), trivial⟩⟩ (sameL_ret (takeX (keyX x la n1)).2.1 la _ _ _ (by first | assumption | omega | (simp only [List.length_append, List.length_cons, List.length_nil, List.length_drop, List.length_take]; omega) | (dsimp only; omega) | decide | (simp [keyV, be8_len]; done)) (by first | assumption | omega | (simp only [List.length_append, List.length_cons, List.length_nil, List.length_drop, List.length_take]; omega) | (dsimp only; omega) | decide | (simp [keyV, be8_len]; done)) (show RdC w179 0 w179.heap.size 1 u102 (takeX (keyX x la n1)).2.1.length ((takeX (keyX x la n1)).2.1.map u16v) from by have hh : RdC w179 0 w179.heap.size 1 _ _ _ := (hO102.rdw.mono (L' := 0) (B' := w179.heap.size) (Nat.zero_le _) (by omega)); first | exact hh | exact hh.cast (by first | omega | (simp; try omega)) (by first | rfl | simp [u16v])) (show RdC w179 0 w179.heap.size 1 u la.length (la.map u16v) from by have hh : RdC w179 0 w179.heap.size 1 _ _ _ := (h.mono (L' := 0) (B' := w179.heap.size) (Nat.zero_le _) (by omega)); first | exact hh | exact hh.cast (by first | omega | (simp; try omega)) (by first | rfl | simp [u16v]))) ?_
                              rintro _ w181 ⟨E182, rfl⟩
                              have E182 := grown_of_below E182
                              have z_w181 := E182.size
                              have h := h.keep0 E182
                              have h2 := h2.keep0 E182
                              have hB5 := hB5.keep0 E182
                              have hB9 := hB9.keep0 E182
                              have hy26 := hy26.keep0 E182
                              have hO25 := hO25.keep0 E182
                              have hO28 := hO28.keep0 E182
                              have hO58 := hO58.keep0 E182
                              have hO102 := hO102.keep0 E182
                              have hB108 := hB108.keep0 E182
                              have hO119 := hO119.keep0 E182
                              have hB126 := hB126.keep0 E182
                              have hB153 := hB153.keep0 E182
                              have hO157 := hO157.keep0 E182
                              have hO165 := hO165.keep0 E182
                              have hB173 := hB173.keep0 E182
                              have hb := below_step0 hb E182 hb.size
                              rcases Bool.eq_false_or_eq_true ((decide ((takeX (keyX x la n1)).2.1 = la))) with c165 | c165
                              · -- 165 True
                                rw [c165]
                                refine op_pick_t (ev_hit hN99 rfl) (ev_hit hN99 rfl) ?_
                                refine op_move (ev_hit hN99 rfl) ?_
                                refine g_true (j := 24) (dj := 167) (b := true) rfl rfl rfl (ev_hit hN99 rfl) ?_
                                refine op_move (ev_hit hN99 rfl) ?_
                                refine g_true (j := 24) (dj := 167) (b := true) rfl rfl rfl (ev_hit hN99 rfl) ?_
                                refine op_move (ev_base hN99 rfl s99_4) ?_
                                refine g_true (j := 24) (dj := 167) (b := true) rfl rfl rfl (ev_hit hN99 rfl) ?_
                                refine op_eql (ev_hit hN99 rfl) (ev_hit hN99 rfl) (fun c170 => ?_) (fun c170 => ?_)
                                · -- 170 True
                                  refine op_pick_t (ev_hit hN99 rfl) (ev_hit hN99 rfl) ?_
                                  refine op_move (ev_hit hN99 rfl) ?_
                                  refine g_true (j := 29) (dj := 172) (b := true) rfl rfl rfl (ev_hit hN99 rfl) ?_
                                  refine op_move (ev_hit hN99 rfl) ?_
                                  refine g_true (j := 29) (dj := 172) (b := true) rfl rfl rfl (ev_hit hN99 rfl) ?_
                                  refine op_eql (ev_hit hN99 rfl) rfl (fun c174 => ?_) (fun c174 => ?_)
                                  · -- 174 True
                                    refine op_pick_t (ev_hit hN99 rfl) (ev_hit hN99 rfl) ?_
                                    refine op_move (ev_hit hN99 rfl) ?_
                                    refine g_true (j := 33) (dj := 176) (b := true) rfl rfl rfl (ev_hit hN99 rfl) ?_
                                    refine op_move (ev_hit hN99 rfl) ?_
                                    refine g_true (j := 33) (dj := 176) (b := true) rfl rfl rfl (ev_hit hN99 rfl) ?_
                                    refine op_eql (ev_hit hN99 rfl) rfl (fun c178 => ?_) (fun c178 => ?_)
                                    · -- 178 True
                                      refine op_pick_t (ev_hit hN99 rfl) (ev_hit hN99 rfl) ?_
                                      refine op_assign (ev_hit hN99 rfl) ?_
                                      refine reg_nil ?_
                                      refine hK178 _ _ ?_
                                      refine wp_ret ?_
                                      refine ret1 rfl hd99 (ev_hit hN99 rfl) ⟨_, rfl, ?_⟩
                                      -- path 35T 39T 44T 49T 85F 92T 98T 149T 153T 155T 160T 165T 170T 174T 178T
                                      exact ⟨hb, rfl⟩
                                    · -- 178 False
                                      exact absurd (takeX_more c35 ox c44 0) c178
                                  · -- 174 False
                                    exact absurd (takeX_cut c35 ox c44 (by omega)) c174
                                · -- 170 False
                                  exact absurd (by rw [takeX_put0 c35 ox c44 hn1]) c170
                              · -- 165 False
                                exact absurd c165 (by rw [takeX_put0 c35 ox c44 hn1]; simp)
                            · -- 160 False
                              exact absurd (by rw [takeX_put0 c35 ox c44 hn1]; exact ⟨rfl, rfl, rfl⟩) c160
                          · -- 155 False
                            exact absurd (by rw [takeX_put0 c35 ox c44 hn1]) c155
                        · -- 153 False
                          exact absurd (g153.symm.trans (begT c35 c39 ox oy lb n2)) (by decide)
                      · -- 149 False
                        exact absurd ((cmp_index c35 c39 ox oy c44 c49 hn1 hn2).trans hq.symm) c149
                  · -- 98 False
                    refine reg_quiet (Φ := phiL [(fun uz _ => uz = y25), (fun uz _ => uz = (Value.string (bs (keyV x)))), (fun uz _ => uz = (Value.int .i64 ((keyV x).length : Int))), (fun uz w' => ∃ (v183 : Value), uz = v183 ∧ RdC w' w22.heap.size w'.heap.size 1 v183 ((keyV x).length) ((((keyX x la n1).take (keyV x).length)).map u8v)), (fun uz _ => uz = (Value.string (bs ((keyX x la n1).take (keyV x).length)))), (fun uz _ => uz = (Value.string (bs (keyV x)))), (fun uz _ => uz = (Value.bool true)), (fun uz _ => uz = (Value.bool true)), (fun uz _ => uz = v28), (fun uz _ => uz = (Value.int .i64 (((keyX y lb n2).length : Nat) : Int))), (fun uz _ => uz = (Value.string (bs (keyV x)))), (fun uz _ => uz = (Value.int .i64 ((keyV x).length : Int))), (fun uz _ => uz = (Value.bool false)), (fun uz _ => uz = (Value.bool false)), (fun uz _ => uz = undef), (fun uz _ => uz = undef), (fun uz _ => uz = undef), (fun uz _ => uz = undef), (fun uz _ => uz = undef), (fun uz _ => uz = undef), (fun uz _ => uz = undef), (fun uz _ => uz = (Value.bool false)), (fun uz _ => uz = (Value.agg #[(Value.int .i64 x.k), (Value.int .i64 x.n), (Value.string (bs x.s))])), (fun uz _ => uz = (Value.agg #[(Value.int .i64 y.k), (Value.int .i64 y.n), (Value.string (bs y.s))])), (fun uz _ => uz = (Value.bool (decide (x.k = y.k ∧ x.n = y.n ∧ x.s = y.s)))), (fun uz _ => uz = (Value.bool (false == (decide (x.k = y.k ∧ x.n = y.n ∧ x.s = y.s))))), (fun uz _ => uz = (Value.bool (false == (decide (x.k = y.k ∧ x.n = y.n ∧ x.s = y.s))))), (fun uz _ => uz = (Value.bool (false == (decide (x.k = y.k ∧ x.n = y.n ∧ x.s = y.s)))))]) mixed (by kernel_rfl) (by kernel_rfl) (by kernel_rfl) hN46 (StL.get (StL.eq (StL.eq (StL.eq (StL.cons (fun u w1 w2 E h => by obtain ⟨x0, hv, f0⟩ := h; exact ⟨x0, hv, f0.keep0w E⟩) (StL.eq (StL.eq (StL.eq (StL.eq (StL.eq (StL.eq (StL.eq (StL.eq (StL.eq (StL.eq (StL.eq (StL.eq (StL.eq (StL.eq (StL.eq (StL.eq (StL.eq (StL.eq (StL.eq (StL.eq (StL.eq (StL.eq (StL.eq (StL.eq (StL.nil _)))))))))))))))))))))))))))))) (ObL.get (s := 28) (ObL.cons ?_ (ObL.cons ?_ (ObL.cons ?_ (ObL.cons ?_ (ObL.cons ?_ (ObL.cons ?_ (ObL.cons ?_ (ObL.cons ?_ (ObL.cons ?_ (ObL.cons ?_ (ObL.cons ?_ (ObL.cons ?_ (ObL.cons ?_ (ObL.cons ?_ (ObL.cons ?_ (ObL.cons ?_ (ObL.cons ?_ (ObL.cons ?_ (ObL.cons ?_ (ObL.cons ?_ (ObL.cons ?_ (ObL.cons ?_ (ObL.cons ?_ (ObL.cons ?_ (ObL.cons ?_ (ObL.cons ?_ (ObL.cons ?_ (ObL.cons ?_ (ObL.nil))))))))))))))))))))))))))))) rfl) ?_
                    · -- operation 0, slot 86
                      intro a183 w183 hN183 hR183 hbs183 hdp183
                      have hR183 : w59.grownBy w183 none := hR183
                      have q183_15 : a183.tmps.getD 15 undef = y25 := (hbs183 15 rfl).trans (sl_base hN46 rfl s46_15)
                      clear hbs183 hdp183
                      refine op_move (ev_base hN183 rfl q183_15) ?_
                      exact obN_end rfl rfl ((grown_refl _ _))
                    · -- operation 1, slot 87
                      intro a184 w184 hN184 hR184 hbs184 hdp184
                      have hR184 : w59.grownBy w184 none := hR184
                      have q184_18 : a184.tmps.getD 18 undef = (Value.string (bs (keyV x))) := (hbs184 18 rfl).trans (sl_hit hN46 rfl)
                      clear hbs184 hdp184
                      refine op_move (ev_base hN184 rfl q184_18) ?_
                      exact obN_end rfl rfl ((grown_refl _ _))
                    · -- operation 2, slot 88
                      intro a185 w185 hN185 hR185 hbs185 hdp185
                      have hR185 : w59.grownBy w185 none := hR185
                      have z_w185 := hR185.size
                      have h := h.keep0 hR185
                      have h2 := h2.keep0 hR185
                      have hB5 := hB5.keep0 hR185
                      have hB9 := hB9.keep0 hR185
                      have hy26 := hy26.keep0 hR185
                      have hO25 := hO25.keep0 hR185
                      have hO28 := hO28.keep0 hR185
                      have hO58 := hO58.keep0 hR185
                      have hb := below_step0 hb hR185 hb.size
                      have q185_87 : a185.tmps.getD 87 undef = (Value.string (bs (keyV x))) := hdp185 1 _ 87 (by kernel_rfl) rfl rfl
                      clear hbs185 hdp185
                      refine op_len_str Try.underlying9 (ev_base hN185 rfl q185_87) ?_
                      exact obN_end rfl rfl ((grown_refl _ _))
                    · -- operation 3, slot 89
                      intro a186 w186 hN186 hR186 hbs186 hdp186
                      have hR186 : w59.grownBy w186 none := hR186
                      have z_w186 := hR186.size
                      have h := h.keep0 hR186
                      have h2 := h2.keep0 hR186
                      have hB5 := hB5.keep0 hR186
                      have hB9 := hB9.keep0 hR186
                      have hy26 := hy26.keep0 hR186
                      have hO25 := hO25.keep0 hR186
                      have hO28 := hO28.keep0 hR186
                      have hO58 := hO58.keep0 hR186
                      have hb := below_step0 hb hR186 hb.size
                      have q186_86 : a186.tmps.getD 86 undef = y25 := hdp186 0 _ 86 (by kernel_rfl) rfl rfl
                      have q186_88 : a186.tmps.getD 88 undef = (Value.int .i64 ((keyV x).length : Int)) := hdp186 2 _ 88 (by kernel_rfl) rfl rfl
                      clear hbs186 hdp186
                      refine op_slice_rd (lo := 0) (hi := (keyV x).length) slt22 (ev_base hN186 rfl q186_86) hy26.rdw (.inl ⟨rfl, rfl⟩) (.inr ⟨_, _, rfl, (ev_base hN186 rfl q186_88)⟩) (by omega) (by omega) ?_
                      intro v187 hR188
                      have hR188 : RdC w186 w22.heap.size w186.heap.size 1 v187 ((keyV x).length) ((((keyX x la n1).take (keyV x).length)).map u8v) := by simpa [List.map_drop, List.map_take] using hR188
                      exact obN_end rfl ⟨v187, rfl, hR188⟩ ((grown_refl _ _))
                    · -- operation 4, slot 90
                      intro a189 w189 hN189 hR189 hbs189 hdp189
                      have hR189 : w59.grownBy w189 none := hR189
                      have z_w189 := hR189.size
                      have h := h.keep0 hR189
                      have h2 := h2.keep0 hR189
                      have hB5 := hB5.keep0 hR189
                      have hB9 := hB9.keep0 hR189
                      have hy26 := hy26.keep0 hR189
                      have hO25 := hO25.keep0 hR189
                      have hO28 := hO28.keep0 hR189
                      have hO58 := hO58.keep0 hR189
                      have hb := below_step0 hb hR189 hb.size
                      obtain ⟨v183, q189_89, hR184⟩ := hdp189 3 _ 89 (by kernel_rfl) rfl rfl
                      have hR184 : RdC w189 w22.heap.size w189.heap.size 1 v183 ((keyV x).length) ((((keyX x la n1).take (keyV x).length)).map u8v) := hR184
                      clear hbs189 hdp189
                      refine op_str_of (bl := ((keyX x la n1).take (keyV x).length)) Try.underlying22 Try.underlying5 Try.underlying9 (ev_base hN189 rfl q189_89) hR184 ?_
                      exact obN_end rfl rfl ((grown_refl _ _))
                    · -- operation 5, slot 91
                      intro a190 w190 hN190 hR190 hbs190 hdp190
                      have hR190 : w59.grownBy w190 none := hR190
                      have q190_18 : a190.tmps.getD 18 undef = (Value.string (bs (keyV x))) := (hbs190 18 rfl).trans (sl_hit hN46 rfl)
                      clear hbs190 hdp190
                      refine op_move (ev_base hN190 rfl q190_18) ?_
                      exact obN_end rfl rfl ((grown_refl _ _))
                    · -- operation 6, slot 92
                      intro a191 w191 hN191 hR191 hbs191 hdp191
                      have hR191 : w59.grownBy w191 none := hR191
                      have q191_90 : a191.tmps.getD 90 undef = (Value.string (bs ((keyX x la n1).take (keyV x).length))) := hdp191 4 _ 90 (by kernel_rfl) rfl rfl
                      have q191_91 : a191.tmps.getD 91 undef = (Value.string (bs (keyV x))) := hdp191 5 _ 91 (by kernel_rfl) rfl rfl
                      clear hbs191 hdp191
                      refine op_seqlb (b := true) (ev_base hN191 rfl q191_90) (ev_base hN191 rfl q191_91) (decide_eq_true g92) ?_
                      exact obN_end rfl rfl ((grown_refl _ _))
                    · -- operation 7, slot 93
                      intro a192 w192 hN192 hR192 hbs192 hdp192
                      have hR192 : w59.grownBy w192 none := hR192
                      have q192_92 : a192.tmps.getD 92 undef = (Value.bool true) := hdp192 6 _ 92 (by kernel_rfl) rfl rfl
                      clear hbs192 hdp192
                      refine op_move (ev_base hN192 rfl q192_92) ?_
                      exact obN_end rfl rfl ((grown_refl _ _))
                    · -- operation 8, slot 94
                      intro a193 w193 hN193 hR193 hbs193 hdp193
                      have hR193 : w59.grownBy w193 none := hR193
                      have q193_16 : a193.tmps.getD 16 undef = v28 := (hbs193 16 rfl).trans (sl_base hN46 rfl s46_16)
                      have q193_93 : a193.tmps.getD 93 undef = (Value.bool true) := hdp193 7 _ 93 (by kernel_rfl) rfl rfl
                      clear hbs193 hdp193
                      refine g_true (j := 7) (dj := 93) (b := true) rfl rfl rfl (ev_base hN193 rfl q193_93) ?_
                      refine op_move (ev_base hN193 rfl q193_16) ?_
                      exact obN_end rfl rfl ((grown_refl _ _))
                    · -- operation 9, slot 95
                      intro a194 w194 hN194 hR194 hbs194 hdp194
                      have hR194 : w59.grownBy w194 none := hR194
                      have z_w194 := hR194.size
                      have h := h.keep0 hR194
                      have h2 := h2.keep0 hR194
                      have hB5 := hB5.keep0 hR194
                      have hB9 := hB9.keep0 hR194
                      have hy26 := hy26.keep0 hR194
                      have hO25 := hO25.keep0 hR194
                      have hO28 := hO28.keep0 hR194
                      have hO58 := hO58.keep0 hR194
                      have hb := below_step0 hb hR194 hb.size
                      have q194_94 : a194.tmps.getD 94 undef = v28 := hdp194 8 _ 94 (by kernel_rfl) rfl rfl
                      have q194_93 : a194.tmps.getD 93 undef = (Value.bool true) := hdp194 7 _ 93 (by kernel_rfl) rfl rfl
                      clear hbs194 hdp194
                      refine g_true (j := 7) (dj := 93) (b := true) rfl rfl rfl (ev_base hN194 rfl q194_93) ?_
                      refine op_len_rd Try.underlying22 (ev_base hN194 rfl q194_94) hO28.rdw ?_
                      exact obN_end rfl rfl ((grown_refl _ _))
                    · -- operation 10, slot 96
                      intro a195 w195 hN195 hR195 hbs195 hdp195
                      have hR195 : w59.grownBy w195 none := hR195
                      have q195_18 : a195.tmps.getD 18 undef = (Value.string (bs (keyV x))) := (hbs195 18 rfl).trans (sl_hit hN46 rfl)
                      have q195_93 : a195.tmps.getD 93 undef = (Value.bool true) := hdp195 7 _ 93 (by kernel_rfl) rfl rfl
                      clear hbs195 hdp195
                      refine g_true (j := 7) (dj := 93) (b := true) rfl rfl rfl (ev_base hN195 rfl q195_93) ?_
                      refine op_move (ev_base hN195 rfl q195_18) ?_
                      exact obN_end rfl rfl ((grown_refl _ _))
                    · -- operation 11, slot 97
                      intro a196 w196 hN196 hR196 hbs196 hdp196
                      have hR196 : w59.grownBy w196 none := hR196
                      have z_w196 := hR196.size
                      have h := h.keep0 hR196
                      have h2 := h2.keep0 hR196
                      have hB5 := hB5.keep0 hR196
                      have hB9 := hB9.keep0 hR196
                      have hy26 := hy26.keep0 hR196
                      have hO25 := hO25.keep0 hR196
                      have hO28 := hO28.keep0 hR196
                      have hO58 := hO58.keep0 hR196
                      have hb := below_step0 hb hR196 hb.size
                      have q196_96 : a196.tmps.getD 96 undef = (Value.string (bs (keyV x))) := hdp196 10 _ 96 (by kernel_rfl) rfl rfl
                      have q196_93 : a196.tmps.getD 93 undef = (Value.bool true) := hdp196 7 _ 93 (by kernel_rfl) rfl rfl
                      clear hbs196 hdp196
                      refine g_true (j := 7) (dj := 93) (b := true) rfl rfl rfl (ev_base hN196 rfl q196_93) ?_
                      refine op_len_str Try.underlying9 (ev_base hN196 rfl q196_96) ?_
                      exact obN_end rfl rfl ((grown_refl _ _))
                    · -- operation 12, slot 98
                      intro a197 w197 hN197 hR197 hbs197 hdp197
                      have hR197 : w59.grownBy w197 none := hR197
                      have q197_95 : a197.tmps.getD 95 undef = (Value.int .i64 (((keyX y lb n2).length : Nat) : Int)) := hdp197 9 _ 95 (by kernel_rfl) rfl rfl
                      have q197_97 : a197.tmps.getD 97 undef = (Value.int .i64 ((keyV x).length : Int)) := hdp197 11 _ 97 (by kernel_rfl) rfl rfl
                      have q197_93 : a197.tmps.getD 93 undef = (Value.bool true) := hdp197 7 _ 93 (by kernel_rfl) rfl rfl
                      clear hbs197 hdp197
                      refine g_true (j := 7) (dj := 93) (b := true) rfl rfl rfl (ev_base hN197 rfl q197_93) ?_
                      refine op_cmp (b := false) (ev_base hN197 rfl q197_95) (ev_base hN197 rfl q197_97) (b_geq (decide_eq_false g98)) ?_
                      exact obN_end rfl rfl ((grown_refl _ _))
                    · -- operation 13, slot 99
                      intro a198 w198 hN198 hR198 hbs198 hdp198
                      have hR198 : w59.grownBy w198 none := hR198
                      have q198_98 : a198.tmps.getD 98 undef = (Value.bool false) := hdp198 12 _ 98 (by kernel_rfl) rfl rfl
                      have q198_93 : a198.tmps.getD 93 undef = (Value.bool true) := hdp198 7 _ 93 (by kernel_rfl) rfl rfl
                      clear hbs198 hdp198
                      refine g_true (j := 7) (dj := 93) (b := true) rfl rfl rfl (ev_base hN198 rfl q198_93) ?_
                      refine op_move (ev_base hN198 rfl q198_98) ?_
                      exact obN_end rfl rfl ((grown_refl _ _))
                    · -- operation 14, slot 100
                      intro a199 w199 hN199 hR199 hbs199 hdp199
                      have hR199 : w59.grownBy w199 none := hR199
                      have q199_16 : a199.tmps.getD 16 undef = v28 := (hbs199 16 rfl).trans (sl_base hN46 rfl s46_16)
                      have q199_99 : a199.tmps.getD 99 undef = (Value.bool false) := hdp199 13 _ 99 (by kernel_rfl) rfl rfl
                      clear hbs199 hdp199
                      refine g_false (j := 13) (dj := 99) (b := true) rfl rfl rfl (ev_base hN199 rfl q199_99) rfl rfl ?_
                      exact obN_end rfl rfl (grown_refl _ _)
                    · -- operation 15, slot 101
                      intro a200 w200 hN200 hR200 hbs200 hdp200
                      have hR200 : w59.grownBy w200 none := hR200
                      have q200_18 : a200.tmps.getD 18 undef = (Value.string (bs (keyV x))) := (hbs200 18 rfl).trans (sl_hit hN46 rfl)
                      have q200_99 : a200.tmps.getD 99 undef = (Value.bool false) := hdp200 13 _ 99 (by kernel_rfl) rfl rfl
                      clear hbs200 hdp200
                      refine g_false (j := 13) (dj := 99) (b := true) rfl rfl rfl (ev_base hN200 rfl q200_99) rfl rfl ?_
                      exact obN_end rfl rfl (grown_refl _ _)
                    · -- operation 16, slot 102
                      intro a201 w201 hN201 hR201 hbs201 hdp201
                      have hR201 : w59.grownBy w201 none := hR201
                      have z_w201 := hR201.size
                      have h := h.keep0 hR201
                      have h2 := h2.keep0 hR201
                      have hB5 := hB5.keep0 hR201
                      have hB9 := hB9.keep0 hR201
                      have hy26 := hy26.keep0 hR201
                      have hO25 := hO25.keep0 hR201
                      have hO28 := hO28.keep0 hR201
                      have hO58 := hO58.keep0 hR201
                      have hb := below_step0 hb hR201 hb.size
                      have q201_101 : a201.tmps.getD 101 undef = undef := hdp201 15 _ 101 (by kernel_rfl) rfl rfl
                      have q201_99 : a201.tmps.getD 99 undef = (Value.bool false) := hdp201 13 _ 99 (by kernel_rfl) rfl rfl
                      clear hbs201 hdp201
                      refine g_false (j := 13) (dj := 99) (b := true) rfl rfl rfl (ev_base hN201 rfl q201_99) rfl rfl ?_
                      exact obN_end rfl rfl (grown_refl _ _)
                    · -- operation 17, slot 103
                      intro a202 w202 hN202 hR202 hbs202 hdp202
                      have hR202 : w59.grownBy w202 none := hR202
                      have z_w202 := hR202.size
                      have h := h.keep0 hR202
                      have h2 := h2.keep0 hR202
                      have hB5 := hB5.keep0 hR202
                      have hB9 := hB9.keep0 hR202
                      have hy26 := hy26.keep0 hR202
                      have hO25 := hO25.keep0 hR202
                      have hO28 := hO28.keep0 hR202
                      have hO58 := hO58.keep0 hR202
                      have hb := below_step0 hb hR202 hb.size
                      have q202_100 : a202.tmps.getD 100 undef = undef := hdp202 14 _ 100 (by kernel_rfl) rfl rfl
                      have q202_102 : a202.tmps.getD 102 undef = undef := hdp202 16 _ 102 (by kernel_rfl) rfl rfl
                      have q202_99 : a202.tmps.getD 99 undef = (Value.bool false) := hdp202 13 _ 99 (by kernel_rfl) rfl rfl
                      clear hbs202 hdp202
                      refine g_false (j := 13) (dj := 99) (b := true) rfl rfl rfl (ev_base hN202 rfl q202_99) rfl rfl ?_
                      exact obN_end rfl rfl (grown_refl _ _)
                    · -- operation 18, slot 104
                      intro a203 w203 hN203 hR203 hbs203 hdp203
                      have hR203 : w59.grownBy w203 none := hR203
                      have z_w203 := hR203.size
                      have h := h.keep0 hR203
                      have h2 := h2.keep0 hR203
                      have hB5 := hB5.keep0 hR203
                      have hB9 := hB9.keep0 hR203
                      have hy26 := hy26.keep0 hR203
                      have hO25 := hO25.keep0 hR203
                      have hO28 := hO28.keep0 hR203
                      have hO58 := hO58.keep0 hR203
                      have hb := below_step0 hb hR203 hb.size
                      have q203_103 : a203.tmps.getD 103 undef = undef := hdp203 17 _ 103 (by kernel_rfl) rfl rfl
                      have q203_99 : a203.tmps.getD 99 undef = (Value.bool false) := hdp203 13 _ 99 (by kernel_rfl) rfl rfl
                      clear hbs203 hdp203
                      refine g_false (j := 13) (dj := 99) (b := true) rfl rfl rfl (ev_base hN203 rfl q203_99) rfl rfl ?_
                      exact obN_end rfl rfl (grown_refl _ _)
                    · -- operation 19, slot 105
                      intro a204 w204 hN204 hR204 hbs204 hdp204
                      have hR204 : w59.grownBy w204 none := hR204
                      have q204_18 : a204.tmps.getD 18 undef = (Value.string (bs (keyV x))) := (hbs204 18 rfl).trans (sl_hit hN46 rfl)
                      have q204_99 : a204.tmps.getD 99 undef = (Value.bool false) := hdp204 13 _ 99 (by kernel_rfl) rfl rfl
                      clear hbs204 hdp204
                      refine g_false (j := 13) (dj := 99) (b := true) rfl rfl rfl (ev_base hN204 rfl q204_99) rfl rfl ?_
                      exact obN_end rfl rfl (grown_refl _ _)
                    · -- operation 20, slot 106
                      intro a205 w205 hN205 hR205 hbs205 hdp205
                      have hR205 : w59.grownBy w205 none := hR205
                      have q205_104 : a205.tmps.getD 104 undef = undef := hdp205 18 _ 104 (by kernel_rfl) rfl rfl
                      have q205_105 : a205.tmps.getD 105 undef = undef := hdp205 19 _ 105 (by kernel_rfl) rfl rfl
                      have q205_99 : a205.tmps.getD 99 undef = (Value.bool false) := hdp205 13 _ 99 (by kernel_rfl) rfl rfl
                      clear hbs205 hdp205
                      refine g_false (j := 13) (dj := 99) (b := true) rfl rfl rfl (ev_base hN205 rfl q205_99) rfl rfl ?_
                      exact obN_end rfl rfl (grown_refl _ _)
                    · -- operation 21, slot 107
                      intro a206 w206 hN206 hR206 hbs206 hdp206
                      have hR206 : w59.grownBy w206 none := hR206
                      have q206_99 : a206.tmps.getD 99 undef = (Value.bool false) := hdp206 13 _ 99 (by kernel_rfl) rfl rfl
                      have q206_106 : a206.tmps.getD 106 undef = undef := hdp206 20 _ 106 (by kernel_rfl) rfl rfl
                      have q206_93 : a206.tmps.getD 93 undef = (Value.bool true) := hdp206 7 _ 93 (by kernel_rfl) rfl rfl
                      clear hbs206 hdp206
                      refine g_true (j := 7) (dj := 93) (b := true) rfl rfl rfl (ev_base hN206 rfl q206_93) ?_
                      refine op_pick_f (ev_base hN206 rfl q206_99) rfl ?_
                      exact obN_end rfl rfl ((grown_refl _ _))
                    · -- operation 22, slot 108
                      intro a207 w207 hN207 hR207 hbs207 hdp207
                      have hR207 : w59.grownBy w207 none := hR207
                      have z_w207 := hR207.size
                      have h := h.keep0 hR207
                      have h2 := h2.keep0 hR207
                      have hB5 := hB5.keep0 hR207
                      have hB9 := hB9.keep0 hR207
                      have hy26 := hy26.keep0 hR207
                      have hO25 := hO25.keep0 hR207
                      have hO28 := hO28.keep0 hR207
                      have hO58 := hO58.keep0 hR207
                      have hb := below_step0 hb hR207 hb.size
                      have q207_7 : a207.tmps.getD 7 undef = (ptr b3 0) := (hbs207 7 rfl).trans (sl_base hN46 rfl s46_7)
                      have q207_93 : a207.tmps.getD 93 undef = (Value.bool true) := hdp207 7 _ 93 (by kernel_rfl) rfl rfl
                      clear hbs207 hdp207
                      refine g_true (j := 7) (dj := 93) (b := true) rfl rfl rfl (ev_base hN207 rfl q207_93) ?_
                      refine op_loadA (cs := [(Value.int .i64 x.k), (Value.int .i64 x.n), (Value.string (bs x.s))]) agg50 rfl (ev_base hN207 rfl q207_7) (fun j u hu => by rw [Nat.zero_add]; exact hB5.cell hu) ?_
                      exact obN_end rfl rfl ((grown_refl _ _))
                    · -- operation 23, slot 109
                      intro a208 w208 hN208 hR208 hbs208 hdp208
                      have hR208 : w59.grownBy w208 none := hR208
                      have z_w208 := hR208.size
                      have h := h.keep0 hR208
                      have h2 := h2.keep0 hR208
                      have hB5 := hB5.keep0 hR208
                      have hB9 := hB9.keep0 hR208
                      have hy26 := hy26.keep0 hR208
                      have hO25 := hO25.keep0 hR208
                      have hO28 := hO28.keep0 hR208
                      have hO58 := hO58.keep0 hR208
                      have hb := below_step0 hb hR208 hb.size
                      have q208_8 : a208.tmps.getD 8 undef = (ptr b7 0) := (hbs208 8 rfl).trans (sl_base hN46 rfl s46_8)
                      have q208_93 : a208.tmps.getD 93 undef = (Value.bool true) := hdp208 7 _ 93 (by kernel_rfl) rfl rfl
                      clear hbs208 hdp208
                      refine g_true (j := 7) (dj := 93) (b := true) rfl rfl rfl (ev_base hN208 rfl q208_93) ?_
                      refine op_loadA (cs := [(Value.int .i64 y.k), (Value.int .i64 y.n), (Value.string (bs y.s))]) agg50 rfl (ev_base hN208 rfl q208_8) (fun j u hu => by rw [Nat.zero_add]; exact hB9.cell hu) ?_
                      exact obN_end rfl rfl ((grown_refl _ _))
                    · -- operation 24, slot 110
                      intro a209 w209 hN209 hR209 hbs209 hdp209
                      have hR209 : w59.grownBy w209 none := hR209
                      have q209_108 : a209.tmps.getD 108 undef = (Value.agg #[(Value.int .i64 x.k), (Value.int .i64 x.n), (Value.string (bs x.s))]) := hdp209 22 _ 108 (by kernel_rfl) rfl rfl
                      have q209_109 : a209.tmps.getD 109 undef = (Value.agg #[(Value.int .i64 y.k), (Value.int .i64 y.n), (Value.string (bs y.s))]) := hdp209 23 _ 109 (by kernel_rfl) rfl rfl
                      have q209_93 : a209.tmps.getD 93 undef = (Value.bool true) := hdp209 7 _ 93 (by kernel_rfl) rfl rfl
                      clear hbs209 hdp209
                      refine g_true (j := 7) (dj := 93) (b := true) rfl rfl rfl (ev_base hN209 rfl q209_93) ?_
                      refine op_aeql (xs := [(Value.int .i64 x.k), (Value.int .i64 x.n), (Value.string (bs x.s))]) (ys := [(Value.int .i64 y.k), (Value.int .i64 y.n), (Value.string (bs y.s))]) (b' := (decide (x.k = y.k ∧ x.n = y.n ∧ x.s = y.s))) (ev_base hN209 rfl q209_108) (ev_base hN209 rfl q209_109) (eq50 x.k y.k x.n y.n x.s y.s) rfl ?_
                      exact obN_end rfl rfl ((grown_refl _ _))
                    · -- operation 25, slot 111
                      intro a210 w210 hN210 hR210 hbs210 hdp210
                      have hR210 : w59.grownBy w210 none := hR210
                      have q210_107 : a210.tmps.getD 107 undef = (Value.bool false) := hdp210 21 _ 107 (by kernel_rfl) rfl rfl
                      have q210_110 : a210.tmps.getD 110 undef = (Value.bool (decide (x.k = y.k ∧ x.n = y.n ∧ x.s = y.s))) := hdp210 24 _ 110 (by kernel_rfl) rfl rfl
                      have q210_93 : a210.tmps.getD 93 undef = (Value.bool true) := hdp210 7 _ 93 (by kernel_rfl) rfl rfl
                      clear hbs210 hdp210
                      refine g_true (j := 7) (dj := 93) (b := true) rfl rfl rfl (ev_base hN210 rfl q210_93) ?_
                      refine op_eqb Try.underlying4 (ev_base hN210 rfl q210_107) (ev_base hN210 rfl q210_110) ?_
                      exact obN_end rfl rfl ((grown_refl _ _))
                    · -- operation 26, slot 112
                      intro a211 w211 hN211 hR211 hbs211 hdp211
                      have hR211 : w59.grownBy w211 none := hR211
                      have q211_93 : a211.tmps.getD 93 undef = (Value.bool true) := hdp211 7 _ 93 (by kernel_rfl) rfl rfl
                      have q211_111 : a211.tmps.getD 111 undef = (Value.bool (false == (decide (x.k = y.k ∧ x.n = y.n ∧ x.s = y.s)))) := hdp211 25 _ 111 (by kernel_rfl) rfl rfl
                      clear hbs211 hdp211
                      refine op_pick_t (ev_base hN211 rfl q211_93) (ev_base hN211 rfl q211_111) ?_
                      exact obN_end rfl rfl ((grown_refl _ _))
                    · -- operation 27, slot 19
                      intro a212 w212 hN212 hR212 hbs212 hdp212
                      have hR212 : w59.grownBy w212 none := hR212
                      have q212_112 : a212.tmps.getD 112 undef = (Value.bool (false == (decide (x.k = y.k ∧ x.n = y.n ∧ x.s = y.s)))) := hdp212 26 _ 112 (by kernel_rfl) rfl rfl
                      clear hbs212 hdp212
                      refine op_assign (ev_base hN212 rfl q212_112) ?_
                      exact obN_end rfl rfl ((grown_refl _ _))
                    · -- behind the region
                      intro a213 w213 hN213 hd213 hbs213 hph213 E213
                      have hd213 := hd213.trans hd46
                      have s213_2 : a213.tmps.getD 2 undef = u := (hbs213 2 rfl).trans (sl_base hN46 rfl s46_2)
                      have s213_4 : a213.tmps.getD 4 undef = (Value.int .u64 ((n1 : Nat) : Int)) := (hbs213 4 rfl).trans (sl_base hN46 rfl s46_4)
                      have s213_6 : a213.tmps.getD 6 undef = (Value.int .i64 cut) := (hbs213 6 rfl).trans (sl_base hN46 rfl s46_6)
                      have s213_7 : a213.tmps.getD 7 undef = (ptr b3 0) := (hbs213 7 rfl).trans (sl_base hN46 rfl s46_7)
                      have s213_8 : a213.tmps.getD 8 undef = (ptr b7 0) := (hbs213 8 rfl).trans (sl_base hN46 rfl s46_8)
                      have s213_14 : a213.tmps.getD 14 undef = (Value.bool false) := (hbs213 14 rfl).trans (sl_base hN46 rfl s46_14)
                      have s213_15 : a213.tmps.getD 15 undef = y25 := (hbs213 15 rfl).trans (sl_base hN46 rfl s46_15)
                      have s213_16 : a213.tmps.getD 16 undef = v28 := (hbs213 16 rfl).trans (sl_base hN46 rfl s46_16)
                      have s213_17 : a213.tmps.getD 17 undef = (Value.int .i64 q) := (hbs213 17 rfl).trans (sl_base hN46 rfl s46_17)
                      have s213_18 : a213.tmps.getD 18 undef = (Value.string (bs (keyV x))) := (hbs213 18 rfl).trans (sl_hit hN46 rfl)
                      have s213_19 : a213.tmps.getD 19 undef = (Value.bool (false == (decide (x.k = y.k ∧ x.n = y.n ∧ x.s = y.s)))) := hph213 27 _ 19 rfl rfl
                      have s213_78 : a213.tmps.getD 78 undef = (Value.agg #[(Value.int .i64 x.k), (Value.int .i64 x.n), (Value.string (bs x.s))]) := (hbs213 78 rfl).trans (sl_hit hN46 rfl)
                      have s213_79 : a213.tmps.getD 79 undef = v58 := (hbs213 79 rfl).trans (sl_hit hN46 rfl)
                      have s213_80 : a213.tmps.getD 80 undef = (Value.string (bs (keyV x))) := (hbs213 80 rfl).trans (sl_hit hN46 rfl)
                      have s213_81 : a213.tmps.getD 81 undef = y25 := (hbs213 81 rfl).trans (sl_hit hN46 rfl)
                      have s213_82 : a213.tmps.getD 82 undef = (Value.int .i64 (((keyX x la n1).length : Nat) : Int)) := (hbs213 82 rfl).trans (sl_hit hN46 rfl)
                      have s213_83 : a213.tmps.getD 83 undef = (Value.string (bs (keyV x))) := (hbs213 83 rfl).trans (sl_hit hN46 rfl)
                      have s213_84 : a213.tmps.getD 84 undef = (Value.int .i64 ((keyV x).length : Int)) := (hbs213 84 rfl).trans (sl_hit hN46 rfl)
                      have s213_85 : a213.tmps.getD 85 undef = (Value.bool false) := (hbs213 85 rfl).trans (sl_hit hN46 rfl)
                      have s213_86 : a213.tmps.getD 86 undef = y25 := hph213 0 _ 86 rfl rfl
                      have s213_87 : a213.tmps.getD 87 undef = (Value.string (bs (keyV x))) := hph213 1 _ 87 rfl rfl
                      have s213_88 : a213.tmps.getD 88 undef = (Value.int .i64 ((keyV x).length : Int)) := hph213 2 _ 88 rfl rfl
                      obtain ⟨v183, s213_89, hR184⟩ := hph213 3 _ 89 rfl rfl
                      have hR184 : RdC w213 w22.heap.size w213.heap.size 1 v183 ((keyV x).length) ((((keyX x la n1).take (keyV x).length)).map u8v) := hR184
                      have s213_90 : a213.tmps.getD 90 undef = (Value.string (bs ((keyX x la n1).take (keyV x).length))) := hph213 4 _ 90 rfl rfl
                      have s213_91 : a213.tmps.getD 91 undef = (Value.string (bs (keyV x))) := hph213 5 _ 91 rfl rfl
                      have s213_92 : a213.tmps.getD 92 undef = (Value.bool true) := hph213 6 _ 92 rfl rfl
                      have s213_93 : a213.tmps.getD 93 undef = (Value.bool true) := hph213 7 _ 93 rfl rfl
                      have s213_94 : a213.tmps.getD 94 undef = v28 := hph213 8 _ 94 rfl rfl
                      have s213_95 : a213.tmps.getD 95 undef = (Value.int .i64 (((keyX y lb n2).length : Nat) : Int)) := hph213 9 _ 95 rfl rfl
                      have s213_96 : a213.tmps.getD 96 undef = (Value.string (bs (keyV x))) := hph213 10 _ 96 rfl rfl
                      have s213_97 : a213.tmps.getD 97 undef = (Value.int .i64 ((keyV x).length : Int)) := hph213 11 _ 97 rfl rfl
                      have s213_98 : a213.tmps.getD 98 undef = (Value.bool false) := hph213 12 _ 98 rfl rfl
                      have s213_99 : a213.tmps.getD 99 undef = (Value.bool false) := hph213 13 _ 99 rfl rfl
                      have s213_100 : a213.tmps.getD 100 undef = undef := hph213 14 _ 100 rfl rfl
                      have s213_101 : a213.tmps.getD 101 undef = undef := hph213 15 _ 101 rfl rfl
                      have s213_102 : a213.tmps.getD 102 undef = undef := hph213 16 _ 102 rfl rfl
                      have s213_103 : a213.tmps.getD 103 undef = undef := hph213 17 _ 103 rfl rfl
                      have s213_104 : a213.tmps.getD 104 undef = undef := hph213 18 _ 104 rfl rfl
                      have s213_105 : a213.tmps.getD 105 undef = undef := hph213 19 _ 105 rfl rfl
                      have s213_106 : a213.tmps.getD 106 undef = undef := hph213 20 _ 106 rfl rfl
                      have s213_107 : a213.tmps.getD 107 undef = (Value.bool false) := hph213 21 _ 107 rfl rfl
                      have s213_108 : a213.tmps.getD 108 undef = (Value.agg #[(Value.int .i64 x.k), (Value.int .i64 x.n), (Value.string (bs x.s))]) := hph213 22 _ 108 rfl rfl
                      have s213_109 : a213.tmps.getD 109 undef = (Value.agg #[(Value.int .i64 y.k), (Value.int .i64 y.n), (Value.string (bs y.s))]) := hph213 23 _ 109 rfl rfl
                      have s213_110 : a213.tmps.getD 110 undef = (Value.bool (decide (x.k = y.k ∧ x.n = y.n ∧ x.s = y.s))) := hph213 24 _ 110 rfl rfl
                      have s213_111 : a213.tmps.getD 111 undef = (Value.bool (false == (decide (x.k = y.k ∧ x.n = y.n ∧ x.s = y.s)))) := hph213 25 _ 111 rfl rfl
                      have s213_112 : a213.tmps.getD 112 undef = (Value.bool (false == (decide (x.k = y.k ∧ x.n = y.n ∧ x.s = y.s)))) := hph213 26 _ 112 rfl rfl
                      clear hbs213 hph213
                      have E213 : w59.grownBy w213 none := E213
                      have z_w213 := E213.size
                      have h := h.keep0 E213
                      have h2 := h2.keep0 E213
                      have hB5 := hB5.keep0 E213
                      have hB9 := hB9.keep0 E213
                      have hy26 := hy26.keep0 E213
                      have hO25 := hO25.keep0 E213
                      have hO28 := hO28.keep0 E213
                      have hO58 := hO58.keep0 E213
                      have hb := below_step0 hb E213 hb.size
                      refine hK66 _ _ ?_
                      refine seq_any fun K214 hK214 => ?_
                      refine one_reg ?_
                      refine op_move (ev_base hN213 rfl s213_15) ?_
                      have hq215 : RdC w213 0 w213.heap.size 1 y25 (keyX x la n1).length ((keyX x la n1).map u8v) := by have hh : RdC w213 0 w213.heap.size 1 _ _ _ := (hy26.rdw.mono (L' := 0) (B' := w213.heap.size) (Nat.zero_le _) (by omega)); first | simpa using hh | simpa [Nat.add_comm, Nat.add_left_comm, Nat.add_assoc] using hh | exact hh.cast (by simp; try omega) (by simp)
                      refine op_fn (vs := [y25]) ok55 ⟨(ev_hit hN213 rfl), trivial⟩ (IXTake_ret (keyX x la n1) y25 _ (by first | assumption | omega | (simp only [List.length_append, List.length_cons, List.length_nil, List.length_drop, List.length_take]; omega) | (dsimp only; omega) | decide | (simp [keyV, be8_len]; done)) hq215) ?_
                      rintro _ w217 ⟨E218, u216, rfl, hO216⟩
                      have E218 := grown_of_below E218
                      have z_w217 := E218.size
                      have h := h.keep0 E218
                      have h2 := h2.keep0 E218
                      have hB5 := hB5.keep0 E218
                      have hB9 := hB9.keep0 E218
                      have hy26 := hy26.keep0 E218
                      have hO25 := hO25.keep0 E218
                      have hO28 := hO28.keep0 E218
                      have hO58 := hO58.keep0 E218
                      have hR184 := hR184.keep0w E218
                      have hb := below_step0 hb E218 hb.size
                      have hO216 := hO216.mono (base' := w213.heap.size) (by omega)
                      refine op_move (ev_hit hN213 rfl) ?_
                      refine op_extract (ev_hit hN213 rfl) rfl ?_
                      refine op_extract (ev_hit hN213 rfl) rfl ?_
                      refine op_extract (ev_hit hN213 rfl) rfl ?_
                      refine op_extract (ev_hit hN213 rfl) rfl ?_
                      refine op_alloc (cs := [(Value.int .i64 0), (Value.int .i64 0), (Value.string (bs []))]) zero50 rfl ?_
                      intro w219 b220 lo_b220 hi_b220 hB222 E221
                      have z_w219 := E221.size
                      have h := h.keep0 E221
                      have h2 := h2.keep0 E221
                      have hB5 := hB5.keep0 E221
                      have hB9 := hB9.keep0 E221
                      have hy26 := hy26.keep0 E221
                      have hO25 := hO25.keep0 E221
                      have hO28 := hO28.keep0 E221
                      have hO58 := hO58.keep0 E221
                      have hR184 := hR184.keep0w E221
                      have hO216 := hO216.keep0 E221
                      have hb := below_step0 hb E221 hb.size
                      have hB222_old := hB222
                      refine op_store (vs := [(Value.int .i64 (takeX (keyX x la n1)).1.k), (Value.int .i64 (takeX (keyX x la n1)).1.n), (Value.string (bs (takeX (keyX x la n1)).1.s))]) (cs' := [(Value.int .i64 (takeX (keyX x la n1)).1.k), (Value.int .i64 (takeX (keyX x la n1)).1.n), (Value.string (bs (takeX (keyX x la n1)).1.s))]) size50 (ev_hit hN213 rfl) (ev_hit hN213 rfl) rfl rfl rfl hB222 (Nat.le_of_ble_eq_true rfl) rfl ?_
                      intro w225 hB222 E226
                      have z_w225 := E226.size
                      have h := h.keep E226 (fun k hk => .inr (by simp at hk; omega))
                      have h2 := h2.keep E226 (fun k hk => .inr (by simp at hk; omega))
                      have hB5 := hB5.keep E226 (by simp; omega)
                      have hB9 := hB9.keep E226 (by simp; omega)
                      have hy26 := hy26.keepX hB222_old E226 (by decide)
                      have hO25 := hO25.keepX hB222_old E226 (by decide)
                      have hO28 := hO28.keepX hB222_old E226 (by decide)
                      have hO58 := hO58.keepX hB222_old E226 (by decide)
                      have hO216 := hO216.keepX hB222_old E226 (by decide)
                      have hb := below_step1 hb E226 hb.size (by omega)
                      refine op_assign (ev_hit hN213 rfl) ?_
                      refine op_assign (ev_hit hN213 rfl) ?_
                      refine op_assign (ev_hit hN213 rfl) ?_
                      refine reg_nil ?_
                      refine hK214 _ _ ?_
                      refine seq_any fun K227 hK227 => ?_
                      refine one_reg ?_
                      refine op_move (ev_base hN213 rfl s213_15) ?_
                      refine op_move (ev_base hN213 rfl s213_6) ?_
                      refine op_move (ev_base hN213 rfl s213_15) ?_
                      refine op_len_rd Try.underlying22 (ev_hit hN213 rfl) hy26.rdw ?_
                      refine op_fn (vs := [(Value.int .i64 cut), (Value.int .i64 (((keyX x la n1).length : Nat) : Int))]) ok52 ⟨(ev_hit hN213 rfl), ⟨(ev_hit hN213 rfl), trivial⟩⟩ (Place_ret cut (((keyX x la n1).length : Nat) : Int) _ (by first | assumption | omega | (simp only [List.length_append, List.length_cons, List.length_nil, List.length_drop, List.length_take]; omega) | (dsimp only; omega) | decide | (simp [keyV, be8_len]; done)) (by first | assumption | omega | (simp only [List.length_append, List.length_cons, List.length_nil, List.length_drop, List.length_take]; omega) | (dsimp only; omega) | decide | (simp [keyV, be8_len]; done))) ?_
                      rintro _ w228 ⟨E229, rfl⟩
                      have E229 := grown_of_below E229
                      have z_w228 := E229.size
                      have h := h.keep0 E229
                      have h2 := h2.keep0 E229
                      have hB5 := hB5.keep0 E229
                      have hB9 := hB9.keep0 E229
                      have hy26 := hy26.keep0 E229
                      have hO25 := hO25.keep0 E229
                      have hO28 := hO28.keep0 E229
                      have hO58 := hO58.keep0 E229
                      have hO216 := hO216.keep0 E229
                      have hB222 := hB222.keep0 E229
                      have hb := below_step0 hb E229 hb.size
                      refine op_slice_rd (lo := 0) (hi := (placeI cut ((keyX x la n1).length : Int)).toNat) slt22 (ev_hit hN213 rfl) hy26.rdw (.inl ⟨rfl, rfl⟩) (.inr ⟨_, _, rfl, (ev_hit hN213 rfl).trans (congrArg (Value.int _) (by omega))⟩) (by omega) (by omega) ?_
                      intro v230 hR231
                      have hR231 : RdC w228 w22.heap.size w228.heap.size 1 v230 ((placeI cut ((keyX x la n1).length : Int)).toNat) ((((keyX x la n1).take (placeI cut ((keyX x la n1).length : Int)).toNat)).map u8v) := by simpa [List.map_take] using hR231
                      have hq232 : RdC w228 0 w228.heap.size 1 v230 ((keyX x la n1).take (placeI cut ((keyX x la n1).length : Int)).toNat).length (((keyX x la n1).take (placeI cut ((keyX x la n1).length : Int)).toNat).map u8v) := by have hh : RdC w228 0 w228.heap.size 1 _ _ _ := (hR231.mono (L' := 0) (B' := w228.heap.size) (Nat.zero_le _) (by omega)); first | simpa using hh | simpa [Nat.add_comm, Nat.add_left_comm, Nat.add_assoc] using hh | exact hh.cast (by simp; try omega) (by simp)
                      refine op_fn (vs := [v230]) ok55 ⟨(ev_hit hN213 rfl), trivial⟩ (IXTake_ret ((keyX x la n1).take (placeI cut ((keyX x la n1).length : Int)).toNat) v230 _ (by first | assumption | omega | (simp only [List.length_append, List.length_cons, List.length_nil, List.length_drop, List.length_take]; omega) | (dsimp only; omega) | decide | (simp [keyV, be8_len]; done)) hq232) ?_
                      rintro _ w234 ⟨E235, u233, rfl, hO233⟩
                      have dj236 : DJ u233 u216 := fun k hk hg => by have q1 := (hO233.lt k hk).1; have q2 := (hO216.lt k hg).2; omega
                      have E235 := grown_of_below E235
                      have z_w234 := E235.size
                      have h := h.keep0 E235
                      have h2 := h2.keep0 E235
                      have hB5 := hB5.keep0 E235
                      have hB9 := hB9.keep0 E235
                      have hy26 := hy26.keep0 E235
                      have hO25 := hO25.keep0 E235
                      have hO28 := hO28.keep0 E235
                      have hO58 := hO58.keep0 E235
                      have hO216 := hO216.keep0 E235
                      have hB222 := hB222.keep0 E235
                      have hR231 := hR231.keep0w E235
                      have hb := below_step0 hb E235 hb.size
                      have hO233 := hO233.mono (base' := w228.heap.size) (by omega)
                      refine op_move (ev_hit hN213 rfl) ?_
                      refine op_extract (ev_hit hN213 rfl) rfl ?_
                      refine op_extract (ev_hit hN213 rfl) rfl ?_
                      refine op_extract (ev_hit hN213 rfl) rfl ?_
                      refine op_extract (ev_hit hN213 rfl) rfl ?_
                      refine op_alloc (cs := [(Value.int .i64 0), (Value.int .i64 0), (Value.string (bs []))]) zero50 rfl ?_
                      intro w237 b238 lo_b238 hi_b238 hB240 E239
                      have z_w237 := E239.size
                      have h := h.keep0 E239
                      have h2 := h2.keep0 E239
                      have hB5 := hB5.keep0 E239
                      have hB9 := hB9.keep0 E239
                      have hy26 := hy26.keep0 E239
                      have hO25 := hO25.keep0 E239
                      have hO28 := hO28.keep0 E239
                      have hO58 := hO58.keep0 E239
                      have hO216 := hO216.keep0 E239
                      have hB222 := hB222.keep0 E239
                      have hR231 := hR231.keep0w E239
                      have hO233 := hO233.keep0 E239
                      have hb := below_step0 hb E239 hb.size
                      have hB240_old := hB240
                      refine op_store (vs := [(Value.int .i64 (takeX ((keyX x la n1).take (placeI cut ((keyX x la n1).length : Int)).toNat)).1.k), (Value.int .i64 (takeX ((keyX x la n1).take (placeI cut ((keyX x la n1).length : Int)).toNat)).1.n), (Value.string (bs (takeX ((keyX x la n1).take (placeI cut ((keyX x la n1).length : Int)).toNat)).1.s))]) (cs' := [(Value.int .i64 (takeX ((keyX x la n1).take (placeI cut ((keyX x la n1).length : Int)).toNat)).1.k), (Value.int .i64 (takeX ((keyX x la n1).take (placeI cut ((keyX x la n1).length : Int)).toNat)).1.n), (Value.string (bs (takeX ((keyX x la n1).take (placeI cut ((keyX x la n1).length : Int)).toNat)).1.s))]) size50 (ev_hit hN213 rfl) (ev_hit hN213 rfl) rfl rfl rfl hB240 (Nat.le_of_ble_eq_true rfl) rfl ?_
                      intro w243 hB240 E244
                      have z_w243 := E244.size
                      have h := h.keep E244 (fun k hk => .inr (by simp at hk; omega))
                      have h2 := h2.keep E244 (fun k hk => .inr (by simp at hk; omega))
                      have hB5 := hB5.keep E244 (by simp; omega)
                      have hB9 := hB9.keep E244 (by simp; omega)
                      have hy26 := hy26.keepX hB240_old E244 (by decide)
                      have hO25 := hO25.keepX hB240_old E244 (by decide)
                      have hO28 := hO28.keepX hB240_old E244 (by decide)
                      have hO58 := hO58.keepX hB240_old E244 (by decide)
                      have hO216 := hO216.keepX hB240_old E244 (by decide)
                      have hB222 := hB222.keep E244 (by simp; omega)
                      have hO233 := hO233.keepX hB240_old E244 (by decide)
                      have hb := below_step1 hb E244 hb.size (by omega)
                      refine op_assign (ev_hit hN213 rfl) ?_
                      refine op_assign (ev_hit hN213 rfl) ?_
                      refine op_assign (ev_hit hN213 rfl) ?_
                      refine reg_nil ?_
                      refine hK227 _ _ ?_
                      refine seq_any fun K245 hK245 => ?_
                      refine one_reg ?_
                      refine op_bslice (e := 5) (pv := []) (cs := []) trivial (by kernel_rfl) ?_
                      intro w246 b247 lo_b247 hi_b247 hB249 E248
                      have ne_b247_y25 : y25.ownBlock ≠ some b247 := fun hh => by have := (hy26.lt _ hh).2; omega
                      have ne_b247_v25 : v25.ownBlock ≠ some b247 := fun hh => by have := (hO25.lt _ hh).2; omega
                      have ne_b247_v28 : v28.ownBlock ≠ some b247 := fun hh => by have := (hO28.lt _ hh).2; omega
                      have ne_b247_v58 : v58.ownBlock ≠ some b247 := fun hh => by have := (hO58.lt _ hh).2; omega
                      have z_w246 := E248.size
                      have h := h.keep0 E248
                      have h2 := h2.keep0 E248
                      have hB5 := hB5.keep0 E248
                      have hB9 := hB9.keep0 E248
                      have hy26 := hy26.keep0 E248
                      have hO25 := hO25.keep0 E248
                      have hO28 := hO28.keep0 E248
                      have hO58 := hO58.keep0 E248
                      have hO216 := hO216.keep0 E248
                      have hB222 := hB222.keep0 E248
                      have hO233 := hO233.keep0 E248
                      have hB240 := hB240.keep0 E248
                      have hb := below_step0 hb E248 hb.size
                      refine op_move (ev_base hN213 rfl s213_15) ?_
                      have hP255 := (Own.ofBx (base := w.heap.size) (sz := 1) (n := 0) hB249 rfl (by decide) (by omega))
                      refine op_append slt22 (ev_hit hN213 rfl) hP255 (ev_hit hN213 rfl) (Src.ofRd Try.underlying22 (by decide) hy26.rdw (by simp [Value.oneCell', u8v])) (by unfold maxLen; omega) (by omega) hb.size ?_
                      intro v250 w251 hO253 E252 hm254
                      have dj256 : DJ y25 (Value.slice (some ⟨b247, 0, none⟩) 0 0) := fun k hk hg => by simp [Value.ownBlock] at hg; subst hg; exact ne_b247_y25 hk
                      have dj257 : DJ y25 v250 := DJ.step hm254 (fun k hk => (hy26.lt k hk).2) dj256
                      have dj258 : DJ v25 (Value.slice (some ⟨b247, 0, none⟩) 0 0) := fun k hk hg => by simp [Value.ownBlock] at hg; subst hg; exact ne_b247_v25 hk
                      have dj259 : DJ v25 v250 := DJ.step hm254 (fun k hk => (hO25.lt k hk).2) dj258
                      have dj260 : DJ v28 (Value.slice (some ⟨b247, 0, none⟩) 0 0) := fun k hk hg => by simp [Value.ownBlock] at hg; subst hg; exact ne_b247_v28 hk
                      have dj261 : DJ v28 v250 := DJ.step hm254 (fun k hk => (hO28.lt k hk).2) dj260
                      have dj262 : DJ v58 (Value.slice (some ⟨b247, 0, none⟩) 0 0) := fun k hk hg => by simp [Value.ownBlock] at hg; subst hg; exact ne_b247_v58 hk
                      have dj263 : DJ v58 v250 := DJ.step hm254 (fun k hk => (hO58.lt k hk).2) dj262
                      have z_w251 := E252.size
                      have h := h.keepO hP255 E252 (by omega)
                      have h2 := h2.keepO hP255 E252 (by omega)
                      have hB5 := hB5.keep E252 (by simp [Value.ownBlock]; try omega)
                      have hB9 := hB9.keep E252 (by simp [Value.ownBlock]; try omega)
                      have hy26 := hy26.keepD E252 dj256
                      have hO25 := hO25.keepD E252 dj258
                      have hO28 := hO28.keepD E252 dj260
                      have hO58 := hO58.keepD E252 dj262
                      have hO216 := hO216.keepT hP255 E252 (by decide)
                      have hB222 := hB222.keep E252 (by simp [Value.ownBlock]; try omega)
                      have hO233 := hO233.keepT hP255 E252 (by decide)
                      have hB240 := hB240.keep E252 (by simp [Value.ownBlock]; try omega)
                      have hb := below_stepO hb hP255 E252 hb.size (by omega)
                      have hO253 : Own w251 w.heap.size 5 1 v250 (0 + (keyX x la n1).length) (((keyX x la n1)).map u8v) := by simpa [u8v, u16v, cellsV] using hO253
                      refine op_bslice (e := 5) (pv := [(0, (Value.int .u8 0))]) (cs := [(Value.int .u8 0)]) ⟨rfl, rfl, trivial⟩ (by kernel_rfl) ?_
                      intro w264 b265 lo_b265 hi_b265 hB267 E266
                      have ne_b265_y25 : y25.ownBlock ≠ some b265 := fun hh => by have := (hy26.lt _ hh).2; omega
                      have ne_b265_v25 : v25.ownBlock ≠ some b265 := fun hh => by have := (hO25.lt _ hh).2; omega
                      have ne_b265_v28 : v28.ownBlock ≠ some b265 := fun hh => by have := (hO28.lt _ hh).2; omega
                      have ne_b265_v58 : v58.ownBlock ≠ some b265 := fun hh => by have := (hO58.lt _ hh).2; omega
                      have ne_b265_v250 : v250.ownBlock ≠ some b265 := fun hh => by have := (hO253.lt _ hh).2; omega
                      have z_w264 := E266.size
                      have h := h.keep0 E266
                      have h2 := h2.keep0 E266
                      have hB5 := hB5.keep0 E266
                      have hB9 := hB9.keep0 E266
                      have hy26 := hy26.keep0 E266
                      have hO25 := hO25.keep0 E266
                      have hO28 := hO28.keep0 E266
                      have hO58 := hO58.keep0 E266
                      have hO216 := hO216.keep0 E266
                      have hB222 := hB222.keep0 E266
                      have hO233 := hO233.keep0 E266
                      have hB240 := hB240.keep0 E266
                      have hO253 := hO253.keep0 E266
                      have hb := below_step0 hb E266 hb.size
                      have hP273 := hO253
                      refine op_append slt22 (ev_hit hN213 rfl) hP273 (ev_hit hN213 rfl) (Src.ofRd Try.underlying22 (by decide) (RdC.ofBx (sz := 1) (n := 1) hB267 rfl (by decide)) (by simp [Value.oneCell', u8v])) (by unfold maxLen; omega) (by omega) hb.size ?_
                      intro v268 w269 hO271 E270 hm272
                      have dj274 : DJ y25 v268 := DJ.step hm272 (fun k hk => (hy26.lt k hk).2) dj257
                      have dj275 : DJ v25 v268 := DJ.step hm272 (fun k hk => (hO25.lt k hk).2) dj259
                      have dj276 : DJ v28 v268 := DJ.step hm272 (fun k hk => (hO28.lt k hk).2) dj261
                      have dj277 : DJ v58 v268 := DJ.step hm272 (fun k hk => (hO58.lt k hk).2) dj263
                      have z_w269 := E270.size
                      have h := h.keepO hP273 E270 (by omega)
                      have h2 := h2.keepO hP273 E270 (by omega)
                      have hB5 := hB5.keepO hP273 E270 (by decide)
                      have hB9 := hB9.keepO hP273 E270 (by decide)
                      have hy26 := hy26.keepD E270 dj257
                      have hO25 := hO25.keepD E270 dj259
                      have hO28 := hO28.keepD E270 dj261
                      have hO58 := hO58.keepD E270 dj263
                      have hO216 := hO216.keepT hP273 E270 (by decide)
                      have hB222 := hB222.keepO hP273 E270 (by decide)
                      have hO233 := hO233.keepT hP273 E270 (by decide)
                      have hB240 := hB240.keepO hP273 E270 (by decide)
                      have hB267 := hB267.keep E270 (fun hh => ne_b265_v250 hh.symm)
                      have hb := below_stepO hb hP273 E270 hb.size (by omega)
                      have hO271 : Own w269 w.heap.size 5 1 v268 ((0 + (keyX x la n1).length) + 1) ((((keyX x la n1) ++ [0])).map u8v) := by simpa [u8v, u16v, cellsV] using hO271
                      have ne_b265_v268 : v268.ownBlock ≠ some b265 := ne_step (w1 := w264) ⟨E270, hm272⟩ (by omega) ne_b265_v250
                      have hq278 : RdC w269 0 w269.heap.size 1 v268 ((keyX x la n1) ++ [0]).length (((keyX x la n1) ++ [0]).map u8v) := by have hh : RdC w269 0 w269.heap.size 1 _ _ _ := (hO271.rdw.mono (L' := 0) (B' := w269.heap.size) (Nat.zero_le _) (by omega)); first | simpa using hh | simpa [Nat.add_comm, Nat.add_left_comm, Nat.add_assoc] using hh | exact hh.cast (by simp; try omega) (by simp)
                      refine op_fn (vs := [v268]) ok55 ⟨(ev_hit hN213 rfl), trivial⟩ (IXTake_ret ((keyX x la n1) ++ [0]) v268 _ (by first | assumption | omega | (simp only [List.length_append, List.length_cons, List.length_nil, List.length_drop, List.length_take]; omega) | (dsimp only; omega) | decide | (simp [keyV, be8_len]; done)) hq278) ?_
                      rintro _ w280 ⟨E281, u279, rfl, hO279⟩
                      have dj282 : DJ u279 u216 := fun k hk hg => by have q1 := (hO279.lt k hk).1; have q2 := (hO216.lt k hg).2; omega
                      have dj283 : DJ u279 u233 := fun k hk hg => by have q1 := (hO279.lt k hk).1; have q2 := (hO233.lt k hg).2; omega
                      have E281 := grown_of_below E281
                      have z_w280 := E281.size
                      have h := h.keep0 E281
                      have h2 := h2.keep0 E281
                      have hB5 := hB5.keep0 E281
                      have hB9 := hB9.keep0 E281
                      have hy26 := hy26.keep0 E281
                      have hO25 := hO25.keep0 E281
                      have hO28 := hO28.keep0 E281
                      have hO58 := hO58.keep0 E281
                      have hO216 := hO216.keep0 E281
                      have hB222 := hB222.keep0 E281
                      have hO233 := hO233.keep0 E281
                      have hB240 := hB240.keep0 E281
                      have hB267 := hB267.keep0 E281
                      have hO271 := hO271.keep0 E281
                      have hb := below_step0 hb E281 hb.size
                      have hO279 := hO279.mono (base' := w269.heap.size) (by omega)
                      refine op_move (ev_hit hN213 rfl) ?_
                      refine op_extract (ev_hit hN213 rfl) rfl ?_
                      refine op_extract (ev_hit hN213 rfl) rfl ?_
                      refine op_extract (ev_hit hN213 rfl) rfl ?_
                      refine op_extract (ev_hit hN213 rfl) rfl ?_
                      refine op_alloc (cs := [(Value.int .i64 0), (Value.int .i64 0), (Value.string (bs []))]) zero50 rfl ?_
                      intro w284 b285 lo_b285 hi_b285 hB287 E286
                      have z_w284 := E286.size
                      have h := h.keep0 E286
                      have h2 := h2.keep0 E286
                      have hB5 := hB5.keep0 E286
                      have hB9 := hB9.keep0 E286
                      have hy26 := hy26.keep0 E286
                      have hO25 := hO25.keep0 E286
                      have hO28 := hO28.keep0 E286
                      have hO58 := hO58.keep0 E286
                      have hO216 := hO216.keep0 E286
                      have hB222 := hB222.keep0 E286
                      have hO233 := hO233.keep0 E286
                      have hB240 := hB240.keep0 E286
                      have hB267 := hB267.keep0 E286
                      have hO271 := hO271.keep0 E286
                      have hO279 := hO279.keep0 E286
                      have hb := below_step0 hb E286 hb.size
                      have hB287_old := hB287
                      refine op_store (vs := [(Value.int .i64 (takeX ((keyX x la n1) ++ [0])).1.k), (Value.int .i64 (takeX ((keyX x la n1) ++ [0])).1.n), (Value.string (bs (takeX ((keyX x la n1) ++ [0])).1.s))]) (cs' := [(Value.int .i64 (takeX ((keyX x la n1) ++ [0])).1.k), (Value.int .i64 (takeX ((keyX x la n1) ++ [0])).1.n), (Value.string (bs (takeX ((keyX x la n1) ++ [0])).1.s))]) size50 (ev_hit hN213 rfl) (ev_hit hN213 rfl) rfl rfl rfl hB287 (Nat.le_of_ble_eq_true rfl) rfl ?_
                      intro w290 hB287 E291
                      have z_w290 := E291.size
                      have h := h.keep E291 (fun k hk => .inr (by simp at hk; omega))
                      have h2 := h2.keep E291 (fun k hk => .inr (by simp at hk; omega))
                      have hB5 := hB5.keep E291 (by simp; omega)
                      have hB9 := hB9.keep E291 (by simp; omega)
                      have hy26 := hy26.keepX hB287_old E291 (by decide)
                      have hO25 := hO25.keepX hB287_old E291 (by decide)
                      have hO28 := hO28.keepX hB287_old E291 (by decide)
                      have hO58 := hO58.keepX hB287_old E291 (by decide)
                      have hO216 := hO216.keepX hB287_old E291 (by decide)
                      have hB222 := hB222.keep E291 (by simp; omega)
                      have hO233 := hO233.keepX hB287_old E291 (by decide)
                      have hB240 := hB240.keep E291 (by simp; omega)
                      have hB267 := hB267.keep E291 (by simp; omega)
                      have hO271 := hO271.keepX hB287_old E291 (by decide)
                      have hO279 := hO279.keepX hB287_old E291 (by decide)
                      have hb := below_step1 hb E291 hb.size (by omega)
                      refine op_assign (ev_hit hN213 rfl) ?_
                      refine op_assign (ev_hit hN213 rfl) ?_
                      refine op_assign (ev_hit hN213 rfl) ?_
                      refine reg_nil ?_
                      refine hK245 _ _ ?_
                      refine seq_any fun K292 hK292 => ?_
                      refine one_reg ?_
                      refine op_move (ev_base hN213 rfl s213_15) ?_
                      refine op_str_of (bl := (keyX x la n1)) Try.underlying22 Try.underlying5 Try.underlying9 (ev_hit hN213 rfl) hy26.rdw ?_
                      refine op_move (ev_base hN213 rfl s213_16) ?_
                      refine op_str_of (bl := (keyX y lb n2)) Try.underlying22 Try.underlying5 Try.underlying9 (ev_hit hN213 rfl) hO28.rdw ?_
                      refine op_fn (vs := [(Value.string (bs (keyX x la n1))), (Value.string (bs (keyX y lb n2)))]) ok42 ⟨(ev_hit hN213 rfl), ⟨(ev_hit hN213 rfl), trivial⟩⟩ (CompareText_ret (keyX x la n1) (keyX y lb n2) _ (by first | assumption | omega | (simp only [List.length_append, List.length_cons, List.length_nil, List.length_drop, List.length_take]; omega) | (dsimp only; omega) | decide | (simp [keyV, be8_len]; done)) (by first | assumption | omega | (simp only [List.length_append, List.length_cons, List.length_nil, List.length_drop, List.length_take]; omega) | (dsimp only; omega) | decide | (simp [keyV, be8_len]; done))) ?_
                      rintro _ w293 ⟨E294, rfl⟩
                      have E294 := grown_of_below E294
                      have z_w293 := E294.size
                      have h := h.keep0 E294
                      have h2 := h2.keep0 E294
                      have hB5 := hB5.keep0 E294
                      have hB9 := hB9.keep0 E294
                      have hy26 := hy26.keep0 E294
                      have hO25 := hO25.keep0 E294
                      have hO28 := hO28.keep0 E294
                      have hO58 := hO58.keep0 E294
                      have hO216 := hO216.keep0 E294
                      have hB222 := hB222.keep0 E294
                      have hO233 := hO233.keep0 E294
                      have hB240 := hB240.keep0 E294
                      have hB267 := hB267.keep0 E294
                      have hO271 := hO271.keep0 E294
                      have hO279 := hO279.keep0 E294
                      have hB287 := hB287.keep0 E294
                      have hb := below_step0 hb E294 hb.size
                      refine op_move (ev_base hN213 rfl s213_17) ?_
                      refine op_eql (ev_hit hN213 rfl) (ev_hit hN213 rfl) (fun c149 => ?_) (fun c149 => ?_)
                      · -- 149 True
                        refine op_move (ev_hit hN213 rfl) ?_
                        refine g_true (j := 7) (dj := 150) (b := true) rfl rfl rfl (ev_hit hN213 rfl) ?_
                        refine op_move (ev_base hN213 rfl s213_19) ?_
                        refine op_pick_t (ev_hit hN213 rfl) (ev_hit hN213 rfl) ?_
                        refine op_move (ev_hit hN213 rfl) ?_
                        rcases Bool.eq_false_or_eq_true ((false == (decide (x.k = y.k ∧ x.n = y.n ∧ x.s = y.s)))) with g153 | g153
                        · -- 153 True
                          rw [g153]
                          refine g_true (j := 10) (dj := 153) (b := true) rfl rfl rfl (ev_hit hN213 rfl) ?_
                          refine op_move (ev_hit hN213 rfl) ?_
                          refine g_true (j := 10) (dj := 153) (b := true) rfl rfl rfl (ev_hit hN213 rfl) ?_
                          refine op_eql (ev_hit hN213 rfl) rfl (fun c155 => ?_) (fun c155 => ?_)
                          · -- 155 True
                            refine op_pick_t (ev_hit hN213 rfl) (ev_hit hN213 rfl) ?_
                            refine op_move (ev_hit hN213 rfl) ?_
                            refine g_true (j := 14) (dj := 157) (b := true) rfl rfl rfl (ev_hit hN213 rfl) ?_
                            refine op_loadA (cs := [(Value.int .i64 (takeX (keyX x la n1)).1.k), (Value.int .i64 (takeX (keyX x la n1)).1.n), (Value.string (bs (takeX (keyX x la n1)).1.s))]) agg50 rfl (ev_hit hN213 rfl) (fun j u hu => by rw [Nat.zero_add]; exact hB222.cell hu) ?_
                            refine g_true (j := 14) (dj := 157) (b := true) rfl rfl rfl (ev_hit hN213 rfl) ?_
                            refine op_loadA (cs := [(Value.int .i64 x.k), (Value.int .i64 x.n), (Value.string (bs x.s))]) agg50 rfl (ev_base hN213 rfl s213_7) (fun j u hu => by rw [Nat.zero_add]; exact hB5.cell hu) ?_
                            refine g_true (j := 14) (dj := 157) (b := true) rfl rfl rfl (ev_hit hN213 rfl) ?_
                            by_cases c160 : (takeX (keyX x la n1)).1.k = x.k ∧ (takeX (keyX x la n1)).1.n = x.n ∧ (takeX (keyX x la n1)).1.s = x.s
                            · -- 160 True
                              refine op_aeql (xs := [(Value.int .i64 (takeX (keyX x la n1)).1.k), (Value.int .i64 (takeX (keyX x la n1)).1.n), (Value.string (bs (takeX (keyX x la n1)).1.s))]) (ys := [(Value.int .i64 x.k), (Value.int .i64 x.n), (Value.string (bs x.s))]) (b' := true) (ev_hit hN213 rfl) (ev_hit hN213 rfl) (eq50 (takeX (keyX x la n1)).1.k x.k (takeX (keyX x la n1)).1.n x.n (takeX (keyX x la n1)).1.s x.s) (decide_eq_true c160) ?_
                              refine op_pick_t (ev_hit hN213 rfl) (ev_hit hN213 rfl) ?_
                              refine op_move (ev_hit hN213 rfl) ?_
                              refine g_true (j := 19) (dj := 162) (b := true) rfl rfl rfl (ev_hit hN213 rfl) ?_
                              refine op_move (ev_hit hN213 rfl) ?_
                              refine g_true (j := 19) (dj := 162) (b := true) rfl rfl rfl (ev_hit hN213 rfl) ?_
                              refine op_move (ev_base hN213 rfl s213_2) ?_
                              have hTX := takeX_lab (keyX x la n1)
                              refine g_true (j := 19) (dj := 162) (b := true) rfl rfl rfl (ev_hit hN213 rfl) ?_
                              refine op_fn (vs := [u216, u]) ok60 ⟨(ev_hit hN213 rfl), ⟨(ev_hit hN213 rfl), trivial⟩⟩ (sameL_ret (takeX (keyX x la n1)).2.1 la _ _ _ (by first | assumption | omega | (simp only [List.length_append, List.length_cons, List.length_nil, List.length_drop, List.length_take]; omega) | (dsimp only; omega) | decide | (simp [keyV, be8_len]; done)) (by first | assumption | omega | (simp only [List.length_append, List.length_cons, List.length_nil, List.length_drop, List.length_take]; omega) | (dsimp only; omega) | decide | (simp [keyV, be8_len]; done)) (show RdC w293 0 w293.heap.size 1 u216 (takeX (keyX x la n1)).2.1.length ((takeX (keyX x la n1)).2.1.map u16v) from by have hh : RdC w293 0 w293.heap.size 1 _ _ _ := (hO216.rdw.mono (L' := 0) (B' := w293.heap.size) (Nat.zero_le _) (by omega)); first | exact hh | exact hh.cast (by first | omega | (simp; try omega)) (by first | rfl | simp [u16v])) (show RdC w293 0 w293.heap.size 1 u la.length (la.map u16v) from by have hh : RdC w293 0 w293.heap.size 1 _ _ _ := (h.mono (L' := 0) (B' := w293.heap.size) (Nat.zero_le _) (by omega)); first | exact hh | exact hh.cast (by first | omega | (simp; try omega)) (by first | rfl | simp [u16v]))) ?_
                              rintro _ w295 ⟨E296, rfl⟩
                              have E296 := grown_of_below E296
                              have z_w295 := E296.size
                              have h := h.keep0 E296
                              have h2 := h2.keep0 E296
                              have hB5 := hB5.keep0 E296
                              have hB9 := hB9.keep0 E296
                              have hy26 := hy26.keep0 E296
                              have hO25 := hO25.keep0 E296
                              have hO28 := hO28.keep0 E296
                              have hO58 := hO58.keep0 E296
                              have hO216 := hO216.keep0 E296
                              have hB222 := hB222.keep0 E296
                              have hO233 := hO233.keep0 E296
                              have hB240 := hB240.keep0 E296
                              have hB267 := hB267.keep0 E296
                              have hO271 := hO271.keep0 E296
                              have hO279 := hO279.keep0 E296
                              have hB287 := hB287.keep0 E296
                              have hb := below_step0 hb E296 hb.size
                              rcases Bool.eq_false_or_eq_true ((decide ((takeX (keyX x la n1)).2.1 = la))) with c165 | c165
                              · -- 165 True
                                rw [c165]
                                refine op_pick_t (ev_hit hN213 rfl) (ev_hit hN213 rfl) ?_
                                refine op_move (ev_hit hN213 rfl) ?_
                                refine g_true (j := 24) (dj := 167) (b := true) rfl rfl rfl (ev_hit hN213 rfl) ?_
                                refine op_move (ev_hit hN213 rfl) ?_
                                refine g_true (j := 24) (dj := 167) (b := true) rfl rfl rfl (ev_hit hN213 rfl) ?_
                                refine op_move (ev_base hN213 rfl s213_4) ?_
                                refine g_true (j := 24) (dj := 167) (b := true) rfl rfl rfl (ev_hit hN213 rfl) ?_
                                refine op_eql (ev_hit hN213 rfl) (ev_hit hN213 rfl) (fun c170 => ?_) (fun c170 => ?_)
                                · -- 170 True
                                  refine op_pick_t (ev_hit hN213 rfl) (ev_hit hN213 rfl) ?_
                                  refine op_move (ev_hit hN213 rfl) ?_
                                  refine g_true (j := 29) (dj := 172) (b := true) rfl rfl rfl (ev_hit hN213 rfl) ?_
                                  refine op_move (ev_hit hN213 rfl) ?_
                                  refine g_true (j := 29) (dj := 172) (b := true) rfl rfl rfl (ev_hit hN213 rfl) ?_
                                  refine op_eql (ev_hit hN213 rfl) rfl (fun c174 => ?_) (fun c174 => ?_)
                                  · -- 174 True
                                    refine op_pick_t (ev_hit hN213 rfl) (ev_hit hN213 rfl) ?_
                                    refine op_move (ev_hit hN213 rfl) ?_
                                    refine g_true (j := 33) (dj := 176) (b := true) rfl rfl rfl (ev_hit hN213 rfl) ?_
                                    refine op_move (ev_hit hN213 rfl) ?_
                                    refine g_true (j := 33) (dj := 176) (b := true) rfl rfl rfl (ev_hit hN213 rfl) ?_
                                    refine op_eql (ev_hit hN213 rfl) rfl (fun c178 => ?_) (fun c178 => ?_)
                                    · -- 178 True
                                      refine op_pick_t (ev_hit hN213 rfl) (ev_hit hN213 rfl) ?_
                                      refine op_assign (ev_hit hN213 rfl) ?_
                                      refine reg_nil ?_
                                      refine hK292 _ _ ?_
                                      refine wp_ret ?_
                                      refine ret1 rfl hd213 (ev_hit hN213 rfl) ⟨_, rfl, ?_⟩
                                      -- path 35T 39T 44T 49T 85F 92T 98F 149T 153T 155T 160T 165T 170T 174T 178T
                                      exact ⟨hb, rfl⟩
                                    · -- 178 False
                                      exact absurd (takeX_more c35 ox c44 0) c178
                                  · -- 174 False
                                    exact absurd (takeX_cut c35 ox c44 (by omega)) c174
                                · -- 170 False
                                  exact absurd (by rw [takeX_put0 c35 ox c44 hn1]) c170
                              · -- 165 False
                                exact absurd c165 (by rw [takeX_put0 c35 ox c44 hn1]; simp)
                            · -- 160 False
                              exact absurd (by rw [takeX_put0 c35 ox c44 hn1]; exact ⟨rfl, rfl, rfl⟩) c160
                          · -- 155 False
                            exact absurd (by rw [takeX_put0 c35 ox c44 hn1]) c155
                        · -- 153 False
                          exact absurd (g153.symm.trans (begF g98)) (by decide)
                      · -- 149 False
                        exact absurd ((cmp_index c35 c39 ox oy c44 c49 hn1 hn2).trans hq.symm) c149
                · -- 92 False
                  exact absurd (keyX_take x la n1) g92
        · -- 49 False
          rw [c49]
          refine g_true (j := 13) (dj := 47) (b := false) rfl rfl rfl (ev_hit hN rfl) ?_
          refine op_not (ev_hit hN rfl) ?_
          refine op_pick_f (ev_hit hN rfl) (ev_hit hN rfl) ?_
          refine reg_nil ?_
          refine hK15 _ _ ?_
          refine wp_cond_true (ev_hit hN rfl) ?_
          refine seq_any fun K297 hK297 => ?_
          refine one_reg ?_
          refine op_assign rfl ?_
          refine reg_nil ?_
          refine hK297 _ _ ?_
          refine wp_ret (then_ret ( ?_))
          refine ret1 rfl hd (ev_hit hN rfl) ⟨_, rfl, ?_⟩
          -- path 35T 39T 44T 49F
          exact ⟨hb, rfl⟩
      · -- 44 False
        rw [c44]
        refine g_true (j := 8) (dj := 42) (b := false) rfl rfl rfl (ev_hit hN rfl) ?_
        refine op_not (ev_hit hN rfl) ?_
        refine op_pick_f (ev_hit hN rfl) (ev_hit hN rfl) ?_
        refine op_move (ev_hit hN rfl) ?_
        refine g_false (j := 13) (dj := 47) (b := false) rfl rfl rfl (ev_hit hN rfl) rfl rfl ?_
        refine g_false (j := 13) (dj := 47) (b := false) rfl rfl rfl (ev_hit hN rfl) rfl rfl ?_
        refine g_false (j := 13) (dj := 47) (b := false) rfl rfl rfl (ev_hit hN rfl) rfl rfl ?_
        refine op_pick_t (ev_hit hN rfl) rfl ?_
        refine reg_nil ?_
        refine hK15 _ _ ?_
        refine wp_cond_true (ev_hit hN rfl) ?_
        refine seq_any fun K298 hK298 => ?_
        refine one_reg ?_
        refine op_assign rfl ?_
        refine reg_nil ?_
        refine hK298 _ _ ?_
        refine wp_ret (then_ret ( ?_))
        refine ret1 rfl hd (ev_hit hN rfl) ⟨_, rfl, ?_⟩
        -- path 35T 39T 44F
        exact ⟨hb, rfl⟩
    · -- 39 False
      rw [c39]
      refine g_true (j := 3) (dj := 37) (b := false) rfl rfl rfl (ev_hit hN rfl) ?_
      refine op_not (ev_hit hN rfl) ?_
      refine op_pick_f (ev_hit hN rfl) (ev_hit hN rfl) ?_
      refine op_move (ev_hit hN rfl) ?_
      refine g_false (j := 8) (dj := 42) (b := false) rfl rfl rfl (ev_hit hN rfl) rfl rfl ?_
      refine g_false (j := 8) (dj := 42) (b := false) rfl rfl rfl (ev_hit hN rfl) rfl rfl ?_
      refine g_false (j := 8) (dj := 42) (b := false) rfl rfl rfl (ev_hit hN rfl) rfl rfl ?_
      refine op_pick_t (ev_hit hN rfl) rfl ?_
      refine op_move (ev_hit hN rfl) ?_
      refine g_false (j := 13) (dj := 47) (b := false) rfl rfl rfl (ev_hit hN rfl) rfl rfl ?_
      refine g_false (j := 13) (dj := 47) (b := false) rfl rfl rfl (ev_hit hN rfl) rfl rfl ?_
      refine g_false (j := 13) (dj := 47) (b := false) rfl rfl rfl (ev_hit hN rfl) rfl rfl ?_
      refine op_pick_t (ev_hit hN rfl) rfl ?_
      refine reg_nil ?_
      refine hK15 _ _ ?_
      refine wp_cond_true (ev_hit hN rfl) ?_
      refine seq_any fun K299 hK299 => ?_
      refine one_reg ?_
      refine op_assign rfl ?_
      refine reg_nil ?_
      refine hK299 _ _ ?_
      refine wp_ret (then_ret ( ?_))
      refine ret1 rfl hd (ev_hit hN rfl) ⟨_, rfl, ?_⟩
      -- path 35T 39F
      exact ⟨hb, rfl⟩
  · -- 35 False
    rw [c35]
    refine op_not (ev_hit hN rfl) ?_
    refine op_move (ev_hit hN rfl) ?_
    refine g_false (j := 3) (dj := 37) (b := false) rfl rfl rfl (ev_hit hN rfl) rfl rfl ?_
    refine g_false (j := 3) (dj := 37) (b := false) rfl rfl rfl (ev_hit hN rfl) rfl rfl ?_
    refine g_false (j := 3) (dj := 37) (b := false) rfl rfl rfl (ev_hit hN rfl) rfl rfl ?_
    refine op_pick_t (ev_hit hN rfl) rfl ?_
    refine op_move (ev_hit hN rfl) ?_
    refine g_false (j := 8) (dj := 42) (b := false) rfl rfl rfl (ev_hit hN rfl) rfl rfl ?_
    refine g_false (j := 8) (dj := 42) (b := false) rfl rfl rfl (ev_hit hN rfl) rfl rfl ?_
    refine g_false (j := 8) (dj := 42) (b := false) rfl rfl rfl (ev_hit hN rfl) rfl rfl ?_
    refine op_pick_t (ev_hit hN rfl) rfl ?_
    refine op_move (ev_hit hN rfl) ?_
    refine g_false (j := 13) (dj := 47) (b := false) rfl rfl rfl (ev_hit hN rfl) rfl rfl ?_
    refine g_false (j := 13) (dj := 47) (b := false) rfl rfl rfl (ev_hit hN rfl) rfl rfl ?_
    refine g_false (j := 13) (dj := 47) (b := false) rfl rfl rfl (ev_hit hN rfl) rfl rfl ?_
    refine op_pick_t (ev_hit hN rfl) rfl ?_
    refine reg_nil ?_
    refine hK15 _ _ ?_
    refine wp_cond_true (ev_hit hN rfl) ?_
    refine seq_any fun K300 hK300 => ?_
    refine one_reg ?_
    refine op_assign rfl ?_
    refine reg_nil ?_
    refine hK300 _ _ ?_
    refine wp_ret (then_ret ( ?_))
    refine ret1 rfl hd (ev_hit hN rfl) ⟨_, rfl, ?_⟩
    -- path 35F
    exact ⟨hb, rfl⟩

end Go.Proofs.Ytkkongnmcfdioaa
