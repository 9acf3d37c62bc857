/- Walks, written by a program: what each function of the translation hands back. -/
import Derived.Test.YtkkongnmcfdioaaI8
namespace Go.Proofs.Ytkkongnmcfdioaa
open Go.Gx Go.RowKit
attribute [local irreducible] wpList Code.wp Calls

theorem IndexAll_ret (x : Vl) (l : Lb) (n : Nat) (bl : List UInt8) (u v : Value) (w : World) (ox : OkV x) (hl : l.length ≤ 9223372036854775807) (hn2 : n < 18446744073709551616) (hbl : bl.length ≤ 9223372036854775807) (h : RdC w 0 w.heap.size 1 u l.length (l.map u16v)) (hv : RdC w 0 w.heap.size 1 v bl.length (bl.map u8v)) : Ret Try.prog 13 #[(Value.agg #[(Value.int .i64 x.k), (Value.int .i64 x.n), (Value.string (bs x.s))]), u, (Value.int .u64 ((n : Nat) : Int)), v] w (fun v' w' => Below w.heap.size w w' ∧ v' = .bool true) := by
  have oxs := ox.2.2
  have hb := Below.refl w.heap.size w
  refine enter (N := 86) Try.func13 rfl rfl (by simp) fun a0 hN hd hA => ?_
  have s0 : a0.tmps.getD 0 undef = (Value.agg #[(Value.int .i64 x.k), (Value.int .i64 x.n), (Value.string (bs x.s))]) := hA 0 (by simp)
  have s1 : a0.tmps.getD 1 undef = u := hA 1 (by simp)
  have s2 : a0.tmps.getD 2 undef = (Value.int .u64 ((n : Nat) : Int)) := hA 2 (by simp)
  have s3 : a0.tmps.getD 3 undef = v := hA 3 (by simp)
  clear hA
  refine seq_any fun K37 hK37 => ?_
  refine one_reg ?_
  refine op_box (cs := [(Value.int .i64 x.k), (Value.int .i64 x.n), (Value.string (bs x.s))]) (ev_base hN rfl s0) rfl ?_
  intro w38 b39 lo_b39 hi_b39 hB41 E40
  have z_w38 := E40.size
  have h := h.keep0 E40
  have hv := hv.keep0 E40
  have hb := below_step0 hb E40 hb.size
  refine op_assign rfl ?_
  refine reg_nil ?_
  refine hK37 _ _ ?_
  refine seq_any fun K42 hK42 => ?_
  refine seq_any fun K43 hK43 => ?_
  refine one_reg ?_
  refine op_fn (vs := []) ok53 trivial (begun16_ret _) ?_
  rintro _ w44 ⟨E45, rfl⟩
  have E45 := grown_of_below E45
  have z_w44 := E45.size
  have h := h.keep0 E45
  have hv := hv.keep0 E45
  have hB41 := hB41.keep0 E45
  have hb := below_step0 hb E45 hb.size
  refine op_not (ev_hit hN rfl) ?_
  refine reg_nil ?_
  refine hK43 _ _ ?_
  refine wp_cond_false (ev_hit hN rfl) ?_
  refine wp_skip ?_
  refine hK42 _ _ ?_
  refine seq_any fun K46 hK46 => ?_
  refine seq_any fun K47 hK47 => ?_
  refine one_reg ?_
  refine op_loadA (cs := [(Value.int .i64 x.k), (Value.int .i64 x.n), (Value.string (bs x.s))]) agg50 rfl (ev_hit hN rfl) (fun j u hu => by rw [Nat.zero_add]; exact hB41.cell hu) ?_
  refine op_fn (vs := [(Value.agg #[(Value.int .i64 x.k), (Value.int .i64 x.n), (Value.string (bs x.s))])]) ok32 ⟨(ev_hit hN rfl), trivial⟩ (MayValue_ret x _ (by first | assumption | omega | (simp only [List.length_append, List.length_cons, List.length_nil, List.length_drop, List.length_take]; omega) | (dsimp only; omega) | decide | (simp [keyV, be8_len]; done))) ?_
  rintro _ w48 ⟨E49, rfl⟩
  have E49 := grown_of_below E49
  have z_w48 := E49.size
  have h := h.keep0 E49
  have hv := hv.keep0 E49
  have hB41 := hB41.keep0 E49
  have hb := below_step0 hb E49 hb.size
  rcases Bool.eq_false_or_eq_true ((mayV x)) with c20 | c20
  · -- 20 True
    rw [c20]
    refine op_not (ev_hit hN rfl) ?_
    refine op_move (ev_hit hN rfl) ?_
    refine g_true (j := 3) (dj := 22) (b := false) rfl rfl rfl (ev_hit hN rfl) ?_
    refine op_move (ev_base hN rfl s1) ?_
    refine g_true (j := 3) (dj := 22) (b := false) rfl rfl rfl (ev_hit hN rfl) ?_
    refine op_fn (vs := [u]) ok54 ⟨(ev_hit hN rfl), trivial⟩ (refMay_ret l _ _ (by first | assumption | omega | (simp only [List.length_append, List.length_cons, List.length_nil, List.length_drop, List.length_take]; omega) | (dsimp only; omega) | decide | (simp [keyV, be8_len]; done)) (show RdC w48 0 w48.heap.size 1 u l.length (l.map u16v) from by have hh : RdC w48 0 w48.heap.size 1 _ _ _ := (h.mono (L' := 0) (B' := w48.heap.size) (Nat.zero_le _) (by omega)); first | exact hh | exact hh.cast (by first | omega | (simp; try omega)) (by first | rfl | simp [u16v]))) ?_
    rintro _ w50 ⟨E51, rfl⟩
    have E51 := grown_of_below E51
    have z_w50 := E51.size
    have h := h.keep0 E51
    have hv := hv.keep0 E51
    have hB41 := hB41.keep0 E51
    have hb := below_step0 hb E51 hb.size
    rcases Bool.eq_false_or_eq_true ((mayL l)) with c24 | c24
    · -- 24 True
      rw [c24]
      refine g_true (j := 3) (dj := 22) (b := false) rfl rfl rfl (ev_hit hN rfl) ?_
      refine op_not (ev_hit hN rfl) ?_
      refine op_pick_f (ev_hit hN rfl) (ev_hit hN rfl) ?_
      refine op_move (ev_hit hN rfl) ?_
      refine g_true (j := 8) (dj := 27) (b := false) rfl rfl rfl (ev_hit hN rfl) ?_
      refine op_move (ev_base hN rfl s3) ?_
      refine g_true (j := 8) (dj := 27) (b := false) rfl rfl rfl (ev_hit hN rfl) ?_
      refine op_len_rd Try.underlying22 (ev_hit hN rfl) hv ?_
      refine g_true (j := 8) (dj := 27) (b := false) rfl rfl rfl (ev_hit hN rfl) ?_
      refine op_gtr (ev_hit hN rfl) rfl (fun c30 => ?_) (fun c30 => ?_)
      · -- 30 True
        refine op_pick_f (ev_hit hN rfl) (ev_hit hN rfl) ?_
        refine reg_nil ?_
        refine hK47 _ _ ?_
        refine wp_cond_true (ev_hit hN rfl) ?_
        refine seq_any fun K52 hK52 => ?_
        refine one_reg ?_
        refine op_assign rfl ?_
        refine reg_nil ?_
        refine hK52 _ _ ?_
        refine wp_ret (then_ret ( ?_))
        refine ret1 rfl hd (ev_hit hN rfl) ⟨_, rfl, ?_⟩
        -- path 20T 24T 30T
        exact ⟨hb, rfl⟩
      · -- 30 False
        refine op_pick_f (ev_hit hN rfl) (ev_hit hN rfl) ?_
        refine reg_nil ?_
        refine hK47 _ _ ?_
        refine wp_cond_false (ev_hit hN rfl) ?_
        refine wp_skip ?_
        refine hK46 _ _ ?_
        refine seq_any fun K53 hK53 => ?_
        refine one_reg ?_
        refine op_move (ev_base hN rfl s3) ?_
        have hq54 : RdC w50 0 w50.heap.size 1 v bl.length (bl.map u8v) := by have hh : RdC w50 0 w50.heap.size 1 _ _ _ := (hv.mono (L' := 0) (B' := w50.heap.size) (Nat.zero_le _) (by omega)); first | simpa using hh | simpa [Nat.add_comm, Nat.add_left_comm, Nat.add_assoc] using hh | exact hh.cast (by simp; try omega) (by simp)
        refine op_fn (vs := [v]) ok55 ⟨(ev_hit hN rfl), trivial⟩ (IXTake_ret bl v _ (by first | assumption | omega | (simp only [List.length_append, List.length_cons, List.length_nil, List.length_drop, List.length_take]; omega) | (dsimp only; omega) | decide | (simp [keyV, be8_len]; done)) hq54) ?_
        rintro _ w56 ⟨E57, u55, rfl, hO55⟩
        have E57 := grown_of_below E57
        have z_w56 := E57.size
        have h := h.keep0 E57
        have hv := hv.keep0 E57
        have hB41 := hB41.keep0 E57
        have hb := below_step0 hb E57 hb.size
        have hO55 := hO55.mono (base' := w50.heap.size) (by omega)
        refine op_move (ev_hit hN rfl) ?_
        refine op_extract (ev_hit hN rfl) rfl ?_
        refine op_extract (ev_hit hN rfl) rfl ?_
        refine op_extract (ev_hit hN rfl) rfl ?_
        refine op_extract (ev_hit hN rfl) rfl ?_
        refine op_alloc (cs := [(Value.int .i64 0), (Value.int .i64 0), (Value.string (bs []))]) zero50 rfl ?_
        intro w58 b59 lo_b59 hi_b59 hB61 E60
        have z_w58 := E60.size
        have h := h.keep0 E60
        have hv := hv.keep0 E60
        have hB41 := hB41.keep0 E60
        have hO55 := hO55.keep0 E60
        have hb := below_step0 hb E60 hb.size
        have hB61_old := hB61
        refine op_store (vs := [(Value.int .i64 (takeX bl).1.k), (Value.int .i64 (takeX bl).1.n), (Value.string (bs (takeX bl).1.s))]) (cs' := [(Value.int .i64 (takeX bl).1.k), (Value.int .i64 (takeX bl).1.n), (Value.string (bs (takeX bl).1.s))]) size50 (ev_hit hN rfl) (ev_hit hN rfl) rfl rfl rfl hB61 (Nat.le_of_ble_eq_true rfl) rfl ?_
        intro w64 hB61 E65
        have z_w64 := E65.size
        have h := h.keep E65 (fun k hk => .inr (by simp at hk; omega))
        have hv := hv.keep E65 (fun k hk => .inr (by simp at hk; omega))
        have hB41 := hB41.keep E65 (by simp; omega)
        have hO55 := hO55.keepX hB61_old E65 (by decide)
        have hb := below_step1 hb E65 hb.size (by omega)
        refine op_assign (ev_hit hN rfl) ?_
        refine op_assign (ev_hit hN rfl) ?_
        refine op_assign (ev_hit hN rfl) ?_
        refine reg_nil ?_
        refine hK53 _ _ ?_
        refine seq_any fun K66 hK66 => ?_
        refine one_reg ?_
        refine op_move (ev_base hN rfl s3) ?_
        have hq67 : RdC w64 0 w64.heap.size 1 v bl.length (bl.map u8v) := by have hh : RdC w64 0 w64.heap.size 1 _ _ _ := (hv.mono (L' := 0) (B' := w64.heap.size) (Nat.zero_le _) (by omega)); first | simpa using hh | simpa [Nat.add_comm, Nat.add_left_comm, Nat.add_assoc] using hh | exact hh.cast (by simp; try omega) (by simp)
        refine op_fn (vs := [v]) ok56 ⟨(ev_hit hN rfl), trivial⟩ (RXTake_ret bl v _ (by first | assumption | omega | (simp only [List.length_append, List.length_cons, List.length_nil, List.length_drop, List.length_take]; omega) | (dsimp only; omega) | decide | (simp [keyV, be8_len]; done)) hq67) ?_
        rintro _ w69 ⟨E70, u68, rfl, hO68⟩
        have dj71 : DJ u68 u55 := fun k hk hg => by have q1 := (hO68.lt k hk).1; have q2 := (hO55.lt k hg).2; omega
        have E70 := grown_of_below E70
        have z_w69 := E70.size
        have h := h.keep0 E70
        have hv := hv.keep0 E70
        have hB41 := hB41.keep0 E70
        have hO55 := hO55.keep0 E70
        have hB61 := hB61.keep0 E70
        have hb := below_step0 hb E70 hb.size
        have hO68 := hO68.mono (base' := w64.heap.size) (by omega)
        refine op_move (ev_hit hN rfl) ?_
        refine op_extract (ev_hit hN rfl) rfl ?_
        refine op_extract (ev_hit hN rfl) rfl ?_
        refine op_extract (ev_hit hN rfl) rfl ?_
        refine op_extract (ev_hit hN rfl) rfl ?_
        refine op_alloc (cs := [(Value.int .i64 0), (Value.int .i64 0), (Value.string (bs []))]) zero50 rfl ?_
        intro w72 b73 lo_b73 hi_b73 hB75 E74
        have z_w72 := E74.size
        have h := h.keep0 E74
        have hv := hv.keep0 E74
        have hB41 := hB41.keep0 E74
        have hO55 := hO55.keep0 E74
        have hB61 := hB61.keep0 E74
        have hO68 := hO68.keep0 E74
        have hb := below_step0 hb E74 hb.size
        have hB75_old := hB75
        refine op_store (vs := [(Value.int .i64 (takeX bl).1.k), (Value.int .i64 (takeX bl).1.n), (Value.string (bs (takeX bl).1.s))]) (cs' := [(Value.int .i64 (takeX bl).1.k), (Value.int .i64 (takeX bl).1.n), (Value.string (bs (takeX bl).1.s))]) size50 (ev_hit hN rfl) (ev_hit hN rfl) rfl rfl rfl hB75 (Nat.le_of_ble_eq_true rfl) rfl ?_
        intro w78 hB75 E79
        have z_w78 := E79.size
        have h := h.keep E79 (fun k hk => .inr (by simp at hk; omega))
        have hv := hv.keep E79 (fun k hk => .inr (by simp at hk; omega))
        have hB41 := hB41.keep E79 (by simp; omega)
        have hO55 := hO55.keepX hB75_old E79 (by decide)
        have hB61 := hB61.keep E79 (by simp; omega)
        have hO68 := hO68.keepX hB75_old E79 (by decide)
        have hb := below_step1 hb E79 hb.size (by omega)
        refine op_assign (ev_hit hN rfl) ?_
        refine op_assign (ev_hit hN rfl) ?_
        refine op_assign (ev_hit hN rfl) ?_
        refine reg_nil ?_
        refine hK66 _ _ ?_
        refine seq_any fun K80 hK80 => ?_
        have hkx := keyX_len x l n
        have hkl := keyV_le x
        have hxl := may_len c20
        have hll := mayL_len c24
        have oxn := ox.2.1
        have hTX := takeX_lab bl
        by_cases g56 : (keyX x l n) = (keyX x l n)
        · -- 56 True
          by_cases g64 : (keyV x) = (keyR x)
          · -- 64 True
            by_cases g69 : (takeX bl).1.k = (takeX bl).1.k ∧ (takeX bl).1.n = (takeX bl).1.n ∧ (takeX bl).1.s = (takeX bl).1.s
            · -- 69 True
              rcases Bool.eq_false_or_eq_true ((decide ((takeX bl).2.1 = (takeX bl).2.1))) with g74 | g74
              · -- 74 True
                by_cases g79 : (((takeX bl).2.2.1 : Nat) : Int) = (((takeX bl).2.2.1 : Nat) : Int)
                · -- 79 True
                  refine reg_quiet (Φ := phiL [(fun uz _ => uz = (Value.agg #[(Value.int .i64 x.k), (Value.int .i64 x.n), (Value.string (bs x.s))])), (fun uz _ => uz = u), (fun uz _ => uz = (Value.int .u64 ((n : Nat) : Int))), (fun uz w' => ∃ (v81 : Value), uz = v81 ∧ Own w' w78.heap.size 5 1 v81 (keyX x l n).length ((keyX x l n).map u8v)), (fun uz _ => uz = (Value.string (bs (keyX x l n)))), (fun uz _ => uz = (Value.agg #[(Value.int .i64 x.k), (Value.int .i64 x.n), (Value.string (bs x.s))])), (fun uz _ => uz = u), (fun uz _ => uz = (Value.int .u64 ((n : Nat) : Int))), (fun uz w' => ∃ (v84 : Value), uz = v84 ∧ Own w' w78.heap.size 5 1 v84 (keyX x l n).length ((keyX x l n).map u8v)), (fun uz _ => uz = (Value.string (bs (keyX x l n)))), (fun uz _ => uz = (Value.bool true)), (fun uz _ => uz = (Value.bool true)), (fun uz _ => uz = (Value.agg #[(Value.int .i64 x.k), (Value.int .i64 x.n), (Value.string (bs x.s))])), (fun uz w' => ∃ (v88 : Value), uz = v88 ∧ Own w' w78.heap.size 5 1 v88 (keyV x).length ((keyV x).map u8v)), (fun uz _ => uz = (Value.string (bs (keyV x)))), (fun uz _ => uz = (Value.agg #[(Value.int .i64 x.k), (Value.int .i64 x.n), (Value.string (bs x.s))])), (fun uz w' => ∃ (v94 : Value), uz = v94 ∧ Own w' w78.heap.size 5 1 v94 (keyR x).length ((keyR x).map u8v)), (fun uz _ => uz = (Value.string (bs (keyR x)))), (fun uz _ => uz = (Value.bool true)), (fun uz _ => uz = (Value.bool true)), (fun uz _ => uz = (Value.bool true)), (fun uz _ => uz = (Value.agg #[(Value.int .i64 (takeX bl).1.k), (Value.int .i64 (takeX bl).1.n), (Value.string (bs (takeX bl).1.s))])), (fun uz _ => uz = (Value.agg #[(Value.int .i64 (takeX bl).1.k), (Value.int .i64 (takeX bl).1.n), (Value.string (bs (takeX bl).1.s))])), (fun uz _ => uz = (Value.bool true)), (fun uz _ => uz = (Value.bool true)), (fun uz _ => uz = (Value.bool true)), (fun uz _ => uz = u55), (fun uz _ => uz = u68), (fun uz _ => uz = (Value.bool true)), (fun uz _ => uz = (Value.bool true)), (fun uz _ => uz = (Value.bool true)), (fun uz _ => uz = (Value.int .u64 (((takeX bl).2.2.1 : Nat) : Int))), (fun uz _ => uz = (Value.int .u64 (((takeX bl).2.2.1 : Nat) : Int))), (fun uz _ => uz = (Value.bool true)), (fun uz _ => uz = (Value.bool true)), (fun uz _ => uz = (Value.bool true)), (fun uz _ => uz = (Value.int .i64 (takeX bl).2.2.2)), (fun uz _ => uz = (Value.int .i64 (takeX bl).2.2.2)), (fun uz _ => uz = (Value.bool (decide ((takeX bl).2.2.2 = (takeX bl).2.2.2)))), (fun uz _ => uz = (Value.bool (decide ((takeX bl).2.2.2 = (takeX bl).2.2.2)))), (fun uz _ => uz = (Value.bool (decide ((takeX bl).2.2.2 = (takeX bl).2.2.2))))]) mixed (by kernel_rfl) (by kernel_rfl) (by kernel_rfl) hN (StL.get (StL.eq (StL.eq (StL.eq (StL.cons (fun u w1 w2 E h => by obtain ⟨x0, hv, f0⟩ := h; exact ⟨x0, hv, f0.keep0 E⟩) (StL.eq (StL.eq (StL.eq (StL.eq (StL.cons (fun u w1 w2 E h => by obtain ⟨x0, hv, f0⟩ := h; exact ⟨x0, hv, f0.keep0 E⟩) (StL.eq (StL.eq (StL.eq (StL.eq (StL.cons (fun u w1 w2 E h => by obtain ⟨x0, hv, f0⟩ := h; exact ⟨x0, hv, f0.keep0 E⟩) (StL.eq (StL.eq (StL.cons (fun u w1 w2 E h => by obtain ⟨x0, hv, f0⟩ := h; exact ⟨x0, hv, f0.keep0 E⟩) (StL.eq (StL.eq (StL.eq (StL.eq (StL.eq (StL.eq (StL.eq (StL.eq (StL.eq (StL.eq (StL.eq (StL.eq (StL.eq (StL.eq (StL.eq (StL.eq (StL.eq (StL.eq (StL.eq (StL.eq (StL.eq (StL.eq (StL.eq (StL.eq (StL.nil _))))))))))))))))))))))))))))))))))))))))))) (ObL.get (s := 41) (ObL.cons ?_ (ObL.cons ?_ (ObL.cons ?_ (ObL.cons ?_ (ObL.cons ?_ (ObL.cons ?_ (ObL.cons ?_ (ObL.cons ?_ (ObL.cons ?_ (ObL.cons ?_ (ObL.cons ?_ (ObL.cons ?_ (ObL.cons ?_ (ObL.cons ?_ (ObL.cons ?_ (ObL.cons ?_ (ObL.cons ?_ (ObL.cons ?_ (ObL.cons ?_ (ObL.cons ?_ (ObL.cons ?_ (ObL.cons ?_ (ObL.cons ?_ (ObL.cons ?_ (ObL.cons ?_ (ObL.cons ?_ (ObL.cons ?_ (ObL.cons ?_ (ObL.cons ?_ (ObL.cons ?_ (ObL.cons ?_ (ObL.cons ?_ (ObL.cons ?_ (ObL.cons ?_ (ObL.cons ?_ (ObL.cons ?_ (ObL.cons ?_ (ObL.cons ?_ (ObL.cons ?_ (ObL.cons ?_ (ObL.cons ?_ (ObL.nil)))))))))))))))))))))))))))))))))))))))))) rfl) ?_
                  · -- operation 0, slot 46
                    intro a81 w81 hN81 hR81 hbs81 hdp81
                    have hR81 : w78.grownBy w81 none := hR81
                    have z_w81 := hR81.size
                    have h := h.keep0 hR81
                    have hv := hv.keep0 hR81
                    have hB41 := hB41.keep0 hR81
                    have hO55 := hO55.keep0 hR81
                    have hB61 := hB61.keep0 hR81
                    have hO68 := hO68.keep0 hR81
                    have hB75 := hB75.keep0 hR81
                    have hb := below_step0 hb hR81 hb.size
                    have q81_4 : a81.tmps.getD 4 undef = (ptr b39 0) := (hbs81 4 rfl).trans (sl_hit hN rfl)
                    clear hbs81 hdp81
                    refine op_loadA (cs := [(Value.int .i64 x.k), (Value.int .i64 x.n), (Value.string (bs x.s))]) agg50 rfl (ev_base hN81 rfl q81_4) (fun j u hu => by rw [Nat.zero_add]; exact hB41.cell hu) ?_
                    exact obN_end rfl rfl ((grown_refl _ _))
                  · -- operation 1, slot 47
                    intro a82 w82 hN82 hR82 hbs82 hdp82
                    have hR82 : w78.grownBy w82 none := hR82
                    have q82_1 : a82.tmps.getD 1 undef = u := (hbs82 1 rfl).trans (sl_base hN rfl s1)
                    clear hbs82 hdp82
                    refine op_move (ev_base hN82 rfl q82_1) ?_
                    exact obN_end rfl rfl ((grown_refl _ _))
                  · -- operation 2, slot 48
                    intro a83 w83 hN83 hR83 hbs83 hdp83
                    have hR83 : w78.grownBy w83 none := hR83
                    have q83_2 : a83.tmps.getD 2 undef = (Value.int .u64 ((n : Nat) : Int)) := (hbs83 2 rfl).trans (sl_base hN rfl s2)
                    clear hbs83 hdp83
                    refine op_move (ev_base hN83 rfl q83_2) ?_
                    exact obN_end rfl rfl ((grown_refl _ _))
                  · -- operation 3, slot 49
                    intro a84 w84 hN84 hR84 hbs84 hdp84
                    have hR84 : w78.grownBy w84 none := hR84
                    have z_w84 := hR84.size
                    have h := h.keep0 hR84
                    have hv := hv.keep0 hR84
                    have hB41 := hB41.keep0 hR84
                    have hO55 := hO55.keep0 hR84
                    have hB61 := hB61.keep0 hR84
                    have hO68 := hO68.keep0 hR84
                    have hB75 := hB75.keep0 hR84
                    have hb := below_step0 hb hR84 hb.size
                    have q84_46 : a84.tmps.getD 46 undef = (Value.agg #[(Value.int .i64 x.k), (Value.int .i64 x.n), (Value.string (bs x.s))]) := hdp84 0 _ 46 (by kernel_rfl) rfl rfl
                    have q84_47 : a84.tmps.getD 47 undef = u := hdp84 1 _ 47 (by kernel_rfl) rfl rfl
                    have q84_48 : a84.tmps.getD 48 undef = (Value.int .u64 ((n : Nat) : Int)) := hdp84 2 _ 48 (by kernel_rfl) rfl rfl
                    clear hbs84 hdp84
                    refine op_fn (vs := [(Value.agg #[(Value.int .i64 x.k), (Value.int .i64 x.n), (Value.string (bs x.s))]), u, (Value.int .u64 ((n : Nat) : Int))]) ok57 ⟨(ev_base hN84 rfl q84_46), ⟨(ev_base hN84 rfl q84_47), ⟨(ev_base hN84 rfl q84_48), trivial⟩⟩⟩ (IKey_ret x l n _ _ (by first | assumption | omega | (simp only [List.length_append, List.length_cons, List.length_nil, List.length_drop, List.length_take]; omega) | (dsimp only; omega) | decide | (simp [keyV, be8_len]; done)) (by first | assumption | omega | (simp only [List.length_append, List.length_cons, List.length_nil, List.length_drop, List.length_take]; omega) | (dsimp only; omega) | decide | (simp [keyV, be8_len]; done)) (by first | assumption | omega | (simp only [List.length_append, List.length_cons, List.length_nil, List.length_drop, List.length_take]; omega) | (dsimp only; omega) | decide | (simp [keyV, be8_len]; done)) (by first | assumption | omega | (simp only [List.length_append, List.length_cons, List.length_nil, List.length_drop, List.length_take]; omega) | (dsimp only; omega) | decide | (simp [keyV, be8_len]; done)) (show RdC w84 0 w84.heap.size 1 u l.length (l.map u16v) from by have hh : RdC w84 0 w84.heap.size 1 _ _ _ := (h.mono (L' := 0) (B' := w84.heap.size) (Nat.zero_le _) (by omega)); first | exact hh | exact hh.cast (by first | omega | (simp; try omega)) (by first | rfl | simp [u16v]))) ?_
                    rintro v85 w86 ⟨E87, hO85⟩
                    have E87 := grown_of_below E87
                    have z_w86 := E87.size
                    have h := h.keep0 E87
                    have hv := hv.keep0 E87
                    have hB41 := hB41.keep0 E87
                    have hO55 := hO55.keep0 E87
                    have hB61 := hB61.keep0 E87
                    have hO68 := hO68.keep0 E87
                    have hB75 := hB75.keep0 E87
                    have hb := below_step0 hb E87 hb.size
                    have hO85 := hO85.mono (base' := w78.heap.size) (by omega)
                    exact obN_end rfl ⟨v85, rfl, hO85⟩ (E87)
                  · -- operation 4, slot 50
                    intro a88 w88 hN88 hR88 hbs88 hdp88
                    have hR88 : w78.grownBy w88 none := hR88
                    have z_w88 := hR88.size
                    have h := h.keep0 hR88
                    have hv := hv.keep0 hR88
                    have hB41 := hB41.keep0 hR88
                    have hO55 := hO55.keep0 hR88
                    have hB61 := hB61.keep0 hR88
                    have hO68 := hO68.keep0 hR88
                    have hB75 := hB75.keep0 hR88
                    have hb := below_step0 hb hR88 hb.size
                    obtain ⟨v81, q88_49, hO81⟩ := hdp88 3 _ 49 (by kernel_rfl) rfl rfl
                    have hO81 : Own w88 w78.heap.size 5 1 v81 (keyX x l n).length ((keyX x l n).map u8v) := hO81
                    clear hbs88 hdp88
                    refine op_str_of (bl := (keyX x l n)) Try.underlying22 Try.underlying5 Try.underlying9 (ev_base hN88 rfl q88_49) hO81.rdw ?_
                    exact obN_end rfl rfl ((grown_refl _ _))
                  · -- operation 5, slot 51
                    intro a89 w89 hN89 hR89 hbs89 hdp89
                    have hR89 : w78.grownBy w89 none := hR89
                    have z_w89 := hR89.size
                    have h := h.keep0 hR89
                    have hv := hv.keep0 hR89
                    have hB41 := hB41.keep0 hR89
                    have hO55 := hO55.keep0 hR89
                    have hB61 := hB61.keep0 hR89
                    have hO68 := hO68.keep0 hR89
                    have hB75 := hB75.keep0 hR89
                    have hb := below_step0 hb hR89 hb.size
                    have q89_4 : a89.tmps.getD 4 undef = (ptr b39 0) := (hbs89 4 rfl).trans (sl_hit hN rfl)
                    clear hbs89 hdp89
                    refine op_loadA (cs := [(Value.int .i64 x.k), (Value.int .i64 x.n), (Value.string (bs x.s))]) agg50 rfl (ev_base hN89 rfl q89_4) (fun j u hu => by rw [Nat.zero_add]; exact hB41.cell hu) ?_
                    exact obN_end rfl rfl ((grown_refl _ _))
                  · -- operation 6, slot 52
                    intro a90 w90 hN90 hR90 hbs90 hdp90
                    have hR90 : w78.grownBy w90 none := hR90
                    have q90_1 : a90.tmps.getD 1 undef = u := (hbs90 1 rfl).trans (sl_base hN rfl s1)
                    clear hbs90 hdp90
                    refine op_move (ev_base hN90 rfl q90_1) ?_
                    exact obN_end rfl rfl ((grown_refl _ _))
                  · -- operation 7, slot 53
                    intro a91 w91 hN91 hR91 hbs91 hdp91
                    have hR91 : w78.grownBy w91 none := hR91
                    have q91_2 : a91.tmps.getD 2 undef = (Value.int .u64 ((n : Nat) : Int)) := (hbs91 2 rfl).trans (sl_base hN rfl s2)
                    clear hbs91 hdp91
                    refine op_move (ev_base hN91 rfl q91_2) ?_
                    exact obN_end rfl rfl ((grown_refl _ _))
                  · -- operation 8, slot 54
                    intro a92 w92 hN92 hR92 hbs92 hdp92
                    have hR92 : w78.grownBy w92 none := hR92
                    have z_w92 := hR92.size
                    have h := h.keep0 hR92
                    have hv := hv.keep0 hR92
                    have hB41 := hB41.keep0 hR92
                    have hO55 := hO55.keep0 hR92
                    have hB61 := hB61.keep0 hR92
                    have hO68 := hO68.keep0 hR92
                    have hB75 := hB75.keep0 hR92
                    have hb := below_step0 hb hR92 hb.size
                    have q92_51 : a92.tmps.getD 51 undef = (Value.agg #[(Value.int .i64 x.k), (Value.int .i64 x.n), (Value.string (bs x.s))]) := hdp92 5 _ 51 (by kernel_rfl) rfl rfl
                    have q92_52 : a92.tmps.getD 52 undef = u := hdp92 6 _ 52 (by kernel_rfl) rfl rfl
                    have q92_53 : a92.tmps.getD 53 undef = (Value.int .u64 ((n : Nat) : Int)) := hdp92 7 _ 53 (by kernel_rfl) rfl rfl
                    clear hbs92 hdp92
                    refine op_fn (vs := [(Value.agg #[(Value.int .i64 x.k), (Value.int .i64 x.n), (Value.string (bs x.s))]), u, (Value.int .u64 ((n : Nat) : Int))]) ok58 ⟨(ev_base hN92 rfl q92_51), ⟨(ev_base hN92 rfl q92_52), ⟨(ev_base hN92 rfl q92_53), trivial⟩⟩⟩ (RIndex_ret x l n _ _ (by first | assumption | omega | (simp only [List.length_append, List.length_cons, List.length_nil, List.length_drop, List.length_take]; omega) | (dsimp only; omega) | decide | (simp [keyV, be8_len]; done)) (by first | assumption | omega | (simp only [List.length_append, List.length_cons, List.length_nil, List.length_drop, List.length_take]; omega) | (dsimp only; omega) | decide | (simp [keyV, be8_len]; done)) (by first | assumption | omega | (simp only [List.length_append, List.length_cons, List.length_nil, List.length_drop, List.length_take]; omega) | (dsimp only; omega) | decide | (simp [keyV, be8_len]; done)) (by first | assumption | omega | (simp only [List.length_append, List.length_cons, List.length_nil, List.length_drop, List.length_take]; omega) | (dsimp only; omega) | decide | (simp [keyV, be8_len]; done)) (show RdC w92 0 w92.heap.size 1 u l.length (l.map u16v) from by have hh : RdC w92 0 w92.heap.size 1 _ _ _ := (h.mono (L' := 0) (B' := w92.heap.size) (Nat.zero_le _) (by omega)); first | exact hh | exact hh.cast (by first | omega | (simp; try omega)) (by first | rfl | simp [u16v]))) ?_
                    rintro v93 w94 ⟨E95, hO93⟩
                    have E95 := grown_of_below E95
                    have z_w94 := E95.size
                    have h := h.keep0 E95
                    have hv := hv.keep0 E95
                    have hB41 := hB41.keep0 E95
                    have hO55 := hO55.keep0 E95
                    have hB61 := hB61.keep0 E95
                    have hO68 := hO68.keep0 E95
                    have hB75 := hB75.keep0 E95
                    have hb := below_step0 hb E95 hb.size
                    have hO93 := hO93.mono (base' := w78.heap.size) (by omega)
                    exact obN_end rfl ⟨v93, rfl, hO93⟩ (E95)
                  · -- operation 9, slot 55
                    intro a96 w96 hN96 hR96 hbs96 hdp96
                    have hR96 : w78.grownBy w96 none := hR96
                    have z_w96 := hR96.size
                    have h := h.keep0 hR96
                    have hv := hv.keep0 hR96
                    have hB41 := hB41.keep0 hR96
                    have hO55 := hO55.keep0 hR96
                    have hB61 := hB61.keep0 hR96
                    have hO68 := hO68.keep0 hR96
                    have hB75 := hB75.keep0 hR96
                    have hb := below_step0 hb hR96 hb.size
                    obtain ⟨v84, q96_54, hO84⟩ := hdp96 8 _ 54 (by kernel_rfl) rfl rfl
                    have hO84 : Own w96 w78.heap.size 5 1 v84 (keyX x l n).length ((keyX x l n).map u8v) := hO84
                    clear hbs96 hdp96
                    refine op_str_of (bl := (keyX x l n)) Try.underlying22 Try.underlying5 Try.underlying9 (ev_base hN96 rfl q96_54) hO84.rdw ?_
                    exact obN_end rfl rfl ((grown_refl _ _))
                  · -- operation 10, slot 56
                    intro a97 w97 hN97 hR97 hbs97 hdp97
                    have hR97 : w78.grownBy w97 none := hR97
                    have q97_50 : a97.tmps.getD 50 undef = (Value.string (bs (keyX x l n))) := hdp97 4 _ 50 (by kernel_rfl) rfl rfl
                    have q97_55 : a97.tmps.getD 55 undef = (Value.string (bs (keyX x l n))) := hdp97 9 _ 55 (by kernel_rfl) rfl rfl
                    clear hbs97 hdp97
                    refine op_seqlb (b := true) (ev_base hN97 rfl q97_50) (ev_base hN97 rfl q97_55) (decide_eq_true g56) ?_
                    exact obN_end rfl rfl ((grown_refl _ _))
                  · -- operation 11, slot 57
                    intro a98 w98 hN98 hR98 hbs98 hdp98
                    have hR98 : w78.grownBy w98 none := hR98
                    have q98_56 : a98.tmps.getD 56 undef = (Value.bool true) := hdp98 10 _ 56 (by kernel_rfl) rfl rfl
                    clear hbs98 hdp98
                    refine op_move (ev_base hN98 rfl q98_56) ?_
                    exact obN_end rfl rfl ((grown_refl _ _))
                  · -- operation 12, slot 58
                    intro a99 w99 hN99 hR99 hbs99 hdp99
                    have hR99 : w78.grownBy w99 none := hR99
                    have z_w99 := hR99.size
                    have h := h.keep0 hR99
                    have hv := hv.keep0 hR99
                    have hB41 := hB41.keep0 hR99
                    have hO55 := hO55.keep0 hR99
                    have hB61 := hB61.keep0 hR99
                    have hO68 := hO68.keep0 hR99
                    have hB75 := hB75.keep0 hR99
                    have hb := below_step0 hb hR99 hb.size
                    have q99_4 : a99.tmps.getD 4 undef = (ptr b39 0) := (hbs99 4 rfl).trans (sl_hit hN rfl)
                    have q99_57 : a99.tmps.getD 57 undef = (Value.bool true) := hdp99 11 _ 57 (by kernel_rfl) rfl rfl
                    clear hbs99 hdp99
                    refine g_true (j := 11) (dj := 57) (b := true) rfl rfl rfl (ev_base hN99 rfl q99_57) ?_
                    refine op_loadA (cs := [(Value.int .i64 x.k), (Value.int .i64 x.n), (Value.string (bs x.s))]) agg50 rfl (ev_base hN99 rfl q99_4) (fun j u hu => by rw [Nat.zero_add]; exact hB41.cell hu) ?_
                    exact obN_end rfl rfl ((grown_refl _ _))
                  · -- operation 13, slot 59
                    intro a100 w100 hN100 hR100 hbs100 hdp100
                    have hR100 : w78.grownBy w100 none := hR100
                    have z_w100 := hR100.size
                    have h := h.keep0 hR100
                    have hv := hv.keep0 hR100
                    have hB41 := hB41.keep0 hR100
                    have hO55 := hO55.keep0 hR100
                    have hB61 := hB61.keep0 hR100
                    have hO68 := hO68.keep0 hR100
                    have hB75 := hB75.keep0 hR100
                    have hb := below_step0 hb hR100 hb.size
                    have q100_58 : a100.tmps.getD 58 undef = (Value.agg #[(Value.int .i64 x.k), (Value.int .i64 x.n), (Value.string (bs x.s))]) := hdp100 12 _ 58 (by kernel_rfl) rfl rfl
                    have q100_57 : a100.tmps.getD 57 undef = (Value.bool true) := hdp100 11 _ 57 (by kernel_rfl) rfl rfl
                    clear hbs100 hdp100
                    refine g_true (j := 11) (dj := 57) (b := true) rfl rfl rfl (ev_base hN100 rfl q100_57) ?_
                    refine op_fn (vs := [(Value.agg #[(Value.int .i64 x.k), (Value.int .i64 x.n), (Value.string (bs x.s))])]) ok59 ⟨(ev_base hN100 rfl q100_58), trivial⟩ (From_ret x _ (by first | assumption | omega | (simp only [List.length_append, List.length_cons, List.length_nil, List.length_drop, List.length_take]; omega) | (dsimp only; omega) | decide | (simp [keyV, be8_len]; done)) (by first | assumption | omega | (simp only [List.length_append, List.length_cons, List.length_nil, List.length_drop, List.length_take]; omega) | (dsimp only; omega) | decide | (simp [keyV, be8_len]; done))) ?_
                    rintro v101 w102 ⟨E103, hO101⟩
                    have E103 := grown_of_below E103
                    have z_w102 := E103.size
                    have h := h.keep0 E103
                    have hv := hv.keep0 E103
                    have hB41 := hB41.keep0 E103
                    have hO55 := hO55.keep0 E103
                    have hB61 := hB61.keep0 E103
                    have hO68 := hO68.keep0 E103
                    have hB75 := hB75.keep0 E103
                    have hb := below_step0 hb E103 hb.size
                    have hO101 := hO101.mono (base' := w78.heap.size) (by omega)
                    exact obN_end rfl ⟨v101, rfl, hO101⟩ (E103)
                  · -- operation 14, slot 60
                    intro a104 w104 hN104 hR104 hbs104 hdp104
                    have hR104 : w78.grownBy w104 none := hR104
                    have z_w104 := hR104.size
                    have h := h.keep0 hR104
                    have hv := hv.keep0 hR104
                    have hB41 := hB41.keep0 hR104
                    have hO55 := hO55.keep0 hR104
                    have hB61 := hB61.keep0 hR104
                    have hO68 := hO68.keep0 hR104
                    have hB75 := hB75.keep0 hR104
                    have hb := below_step0 hb hR104 hb.size
                    obtain ⟨v88, q104_59, hO88⟩ := hdp104 13 _ 59 (by kernel_rfl) rfl rfl
                    have hO88 : Own w104 w78.heap.size 5 1 v88 (keyV x).length ((keyV x).map u8v) := hO88
                    have q104_57 : a104.tmps.getD 57 undef = (Value.bool true) := hdp104 11 _ 57 (by kernel_rfl) rfl rfl
                    clear hbs104 hdp104
                    refine g_true (j := 11) (dj := 57) (b := true) rfl rfl rfl (ev_base hN104 rfl q104_57) ?_
                    refine op_str_of (bl := (keyV x)) Try.underlying22 Try.underlying5 Try.underlying9 (ev_base hN104 rfl q104_59) hO88.rdw ?_
                    exact obN_end rfl rfl ((grown_refl _ _))
                  · -- operation 15, slot 61
                    intro a105 w105 hN105 hR105 hbs105 hdp105
                    have hR105 : w78.grownBy w105 none := hR105
                    have z_w105 := hR105.size
                    have h := h.keep0 hR105
                    have hv := hv.keep0 hR105
                    have hB41 := hB41.keep0 hR105
                    have hO55 := hO55.keep0 hR105
                    have hB61 := hB61.keep0 hR105
                    have hO68 := hO68.keep0 hR105
                    have hB75 := hB75.keep0 hR105
                    have hb := below_step0 hb hR105 hb.size
                    have q105_4 : a105.tmps.getD 4 undef = (ptr b39 0) := (hbs105 4 rfl).trans (sl_hit hN rfl)
                    have q105_57 : a105.tmps.getD 57 undef = (Value.bool true) := hdp105 11 _ 57 (by kernel_rfl) rfl rfl
                    clear hbs105 hdp105
                    refine g_true (j := 11) (dj := 57) (b := true) rfl rfl rfl (ev_base hN105 rfl q105_57) ?_
                    refine op_loadA (cs := [(Value.int .i64 x.k), (Value.int .i64 x.n), (Value.string (bs x.s))]) agg50 rfl (ev_base hN105 rfl q105_4) (fun j u hu => by rw [Nat.zero_add]; exact hB41.cell hu) ?_
                    exact obN_end rfl rfl ((grown_refl _ _))
                  · -- operation 16, slot 62
                    intro a106 w106 hN106 hR106 hbs106 hdp106
                    have hR106 : w78.grownBy w106 none := hR106
                    have z_w106 := hR106.size
                    have h := h.keep0 hR106
                    have hv := hv.keep0 hR106
                    have hB41 := hB41.keep0 hR106
                    have hO55 := hO55.keep0 hR106
                    have hB61 := hB61.keep0 hR106
                    have hO68 := hO68.keep0 hR106
                    have hB75 := hB75.keep0 hR106
                    have hb := below_step0 hb hR106 hb.size
                    have q106_61 : a106.tmps.getD 61 undef = (Value.agg #[(Value.int .i64 x.k), (Value.int .i64 x.n), (Value.string (bs x.s))]) := hdp106 15 _ 61 (by kernel_rfl) rfl rfl
                    have q106_57 : a106.tmps.getD 57 undef = (Value.bool true) := hdp106 11 _ 57 (by kernel_rfl) rfl rfl
                    clear hbs106 hdp106
                    refine g_true (j := 11) (dj := 57) (b := true) rfl rfl rfl (ev_base hN106 rfl q106_57) ?_
                    have hq107 : RdC w106 0 w106.heap.size 1 (Value.slice none 0 0) ([] : List UInt8).length (([] : List UInt8).map u8v) := by have hh : RdC w106 0 w106.heap.size 1 _ _ _ := ((RdC.nil _ 0 0 1).mono (L' := 0) (B' := w106.heap.size) (Nat.zero_le _) (by omega)); first | simpa using hh | simpa [Nat.add_comm, Nat.add_left_comm, Nat.add_assoc] using hh | exact hh.cast (by simp; try omega) (by simp)
                    refine op_fn (vs := [(Value.slice none 0 0), (Value.agg #[(Value.int .i64 x.k), (Value.int .i64 x.n), (Value.string (bs x.s))])]) ok37 ⟨rfl, ⟨(ev_base hN106 rfl q106_61), trivial⟩⟩ (RKey_ret [] x _ _ (by first | assumption | omega | (simp only [List.length_append, List.length_cons, List.length_nil, List.length_drop, List.length_take]; omega) | (dsimp only; omega) | decide | (simp [keyV, be8_len]; done)) (by first | assumption | omega | (simp only [List.length_append, List.length_cons, List.length_nil, List.length_drop, List.length_take]; omega) | (dsimp only; omega) | decide | (simp [keyV, be8_len]; done)) (by first | assumption | omega | (simp only [List.length_append, List.length_cons, List.length_nil, List.length_drop, List.length_take]; omega) | (dsimp only; omega) | decide | (simp [keyV, be8_len]; done)) hq107) ?_
                    rintro v108 w110 ⟨E111, hO109⟩
                    have E111 := grown_of_below E111
                    have z_w110 := E111.size
                    have h := h.keep0 E111
                    have hv := hv.keep0 E111
                    have hB41 := hB41.keep0 E111
                    have hO55 := hO55.keep0 E111
                    have hB61 := hB61.keep0 E111
                    have hO68 := hO68.keep0 E111
                    have hB75 := hB75.keep0 E111
                    have hb := below_step0 hb E111 hb.size
                    have hO109 : Own w110 w78.heap.size 5 1 v108 (keyR x).length ((keyR x).map u8v) := by simpa using hO109.mono (base' := w78.heap.size) (by omega)
                    exact obN_end rfl ⟨v108, rfl, hO109⟩ (E111)
                  · -- operation 17, slot 63
                    intro a112 w112 hN112 hR112 hbs112 hdp112
                    have hR112 : w78.grownBy w112 none := hR112
                    have z_w112 := hR112.size
                    have h := h.keep0 hR112
                    have hv := hv.keep0 hR112
                    have hB41 := hB41.keep0 hR112
                    have hO55 := hO55.keep0 hR112
                    have hB61 := hB61.keep0 hR112
                    have hO68 := hO68.keep0 hR112
                    have hB75 := hB75.keep0 hR112
                    have hb := below_step0 hb hR112 hb.size
                    obtain ⟨v94, q112_62, hO95⟩ := hdp112 16 _ 62 (by kernel_rfl) rfl rfl
                    have hO95 : Own w112 w78.heap.size 5 1 v94 (keyR x).length ((keyR x).map u8v) := hO95
                    have q112_57 : a112.tmps.getD 57 undef = (Value.bool true) := hdp112 11 _ 57 (by kernel_rfl) rfl rfl
                    clear hbs112 hdp112
                    refine g_true (j := 11) (dj := 57) (b := true) rfl rfl rfl (ev_base hN112 rfl q112_57) ?_
                    refine op_str_of (bl := (keyR x)) Try.underlying22 Try.underlying5 Try.underlying9 (ev_base hN112 rfl q112_62) hO95.rdw ?_
                    exact obN_end rfl rfl ((grown_refl _ _))
                  · -- operation 18, slot 64
                    intro a113 w113 hN113 hR113 hbs113 hdp113
                    have hR113 : w78.grownBy w113 none := hR113
                    have q113_60 : a113.tmps.getD 60 undef = (Value.string (bs (keyV x))) := hdp113 14 _ 60 (by kernel_rfl) rfl rfl
                    have q113_63 : a113.tmps.getD 63 undef = (Value.string (bs (keyR x))) := hdp113 17 _ 63 (by kernel_rfl) rfl rfl
                    have q113_57 : a113.tmps.getD 57 undef = (Value.bool true) := hdp113 11 _ 57 (by kernel_rfl) rfl rfl
                    clear hbs113 hdp113
                    refine g_true (j := 11) (dj := 57) (b := true) rfl rfl rfl (ev_base hN113 rfl q113_57) ?_
                    refine op_seqlb (b := true) (ev_base hN113 rfl q113_60) (ev_base hN113 rfl q113_63) (decide_eq_true g64) ?_
                    exact obN_end rfl rfl ((grown_refl _ _))
                  · -- operation 19, slot 65
                    intro a114 w114 hN114 hR114 hbs114 hdp114
                    have hR114 : w78.grownBy w114 none := hR114
                    have q114_57 : a114.tmps.getD 57 undef = (Value.bool true) := hdp114 11 _ 57 (by kernel_rfl) rfl rfl
                    have q114_64 : a114.tmps.getD 64 undef = (Value.bool true) := hdp114 18 _ 64 (by kernel_rfl) rfl rfl
                    clear hbs114 hdp114
                    refine op_pick_t (ev_base hN114 rfl q114_57) (ev_base hN114 rfl q114_64) ?_
                    exact obN_end rfl rfl ((grown_refl _ _))
                  · -- operation 20, slot 66
                    intro a115 w115 hN115 hR115 hbs115 hdp115
                    have hR115 : w78.grownBy w115 none := hR115
                    have q115_65 : a115.tmps.getD 65 undef = (Value.bool true) := hdp115 19 _ 65 (by kernel_rfl) rfl rfl
                    clear hbs115 hdp115
                    refine op_move (ev_base hN115 rfl q115_65) ?_
                    exact obN_end rfl rfl ((grown_refl _ _))
                  · -- operation 21, slot 67
                    intro a116 w116 hN116 hR116 hbs116 hdp116
                    have hR116 : w78.grownBy w116 none := hR116
                    have z_w116 := hR116.size
                    have h := h.keep0 hR116
                    have hv := hv.keep0 hR116
                    have hB41 := hB41.keep0 hR116
                    have hO55 := hO55.keep0 hR116
                    have hB61 := hB61.keep0 hR116
                    have hO68 := hO68.keep0 hR116
                    have hB75 := hB75.keep0 hR116
                    have hb := below_step0 hb hR116 hb.size
                    have q116_9 : a116.tmps.getD 9 undef = (ptr b59 0) := (hbs116 9 rfl).trans (sl_hit hN rfl)
                    have q116_66 : a116.tmps.getD 66 undef = (Value.bool true) := hdp116 20 _ 66 (by kernel_rfl) rfl rfl
                    clear hbs116 hdp116
                    refine g_true (j := 20) (dj := 66) (b := true) rfl rfl rfl (ev_base hN116 rfl q116_66) ?_
                    refine op_loadA (cs := [(Value.int .i64 (takeX bl).1.k), (Value.int .i64 (takeX bl).1.n), (Value.string (bs (takeX bl).1.s))]) agg50 rfl (ev_base hN116 rfl q116_9) (fun j u hu => by rw [Nat.zero_add]; exact hB61.cell hu) ?_
                    exact obN_end rfl rfl ((grown_refl _ _))
                  · -- operation 22, slot 68
                    intro a117 w117 hN117 hR117 hbs117 hdp117
                    have hR117 : w78.grownBy w117 none := hR117
                    have z_w117 := hR117.size
                    have h := h.keep0 hR117
                    have hv := hv.keep0 hR117
                    have hB41 := hB41.keep0 hR117
                    have hO55 := hO55.keep0 hR117
                    have hB61 := hB61.keep0 hR117
                    have hO68 := hO68.keep0 hR117
                    have hB75 := hB75.keep0 hR117
                    have hb := below_step0 hb hR117 hb.size
                    have q117_13 : a117.tmps.getD 13 undef = (ptr b73 0) := (hbs117 13 rfl).trans (sl_hit hN rfl)
                    have q117_66 : a117.tmps.getD 66 undef = (Value.bool true) := hdp117 20 _ 66 (by kernel_rfl) rfl rfl
                    clear hbs117 hdp117
                    refine g_true (j := 20) (dj := 66) (b := true) rfl rfl rfl (ev_base hN117 rfl q117_66) ?_
                    refine op_loadA (cs := [(Value.int .i64 (takeX bl).1.k), (Value.int .i64 (takeX bl).1.n), (Value.string (bs (takeX bl).1.s))]) agg50 rfl (ev_base hN117 rfl q117_13) (fun j u hu => by rw [Nat.zero_add]; exact hB75.cell hu) ?_
                    exact obN_end rfl rfl ((grown_refl _ _))
                  · -- operation 23, slot 69
                    intro a118 w118 hN118 hR118 hbs118 hdp118
                    have hR118 : w78.grownBy w118 none := hR118
                    have q118_67 : a118.tmps.getD 67 undef = (Value.agg #[(Value.int .i64 (takeX bl).1.k), (Value.int .i64 (takeX bl).1.n), (Value.string (bs (takeX bl).1.s))]) := hdp118 21 _ 67 (by kernel_rfl) rfl rfl
                    have q118_68 : a118.tmps.getD 68 undef = (Value.agg #[(Value.int .i64 (takeX bl).1.k), (Value.int .i64 (takeX bl).1.n), (Value.string (bs (takeX bl).1.s))]) := hdp118 22 _ 68 (by kernel_rfl) rfl rfl
                    have q118_66 : a118.tmps.getD 66 undef = (Value.bool true) := hdp118 20 _ 66 (by kernel_rfl) rfl rfl
                    clear hbs118 hdp118
                    refine g_true (j := 20) (dj := 66) (b := true) rfl rfl rfl (ev_base hN118 rfl q118_66) ?_
                    refine op_aeql (xs := [(Value.int .i64 (takeX bl).1.k), (Value.int .i64 (takeX bl).1.n), (Value.string (bs (takeX bl).1.s))]) (ys := [(Value.int .i64 (takeX bl).1.k), (Value.int .i64 (takeX bl).1.n), (Value.string (bs (takeX bl).1.s))]) (b' := true) (ev_base hN118 rfl q118_67) (ev_base hN118 rfl q118_68) (eq50 (takeX bl).1.k (takeX bl).1.k (takeX bl).1.n (takeX bl).1.n (takeX bl).1.s (takeX bl).1.s) (decide_eq_true g69) ?_
                    exact obN_end rfl rfl ((grown_refl _ _))
                  · -- operation 24, slot 70
                    intro a119 w119 hN119 hR119 hbs119 hdp119
                    have hR119 : w78.grownBy w119 none := hR119
                    have q119_66 : a119.tmps.getD 66 undef = (Value.bool true) := hdp119 20 _ 66 (by kernel_rfl) rfl rfl
                    have q119_69 : a119.tmps.getD 69 undef = (Value.bool true) := hdp119 23 _ 69 (by kernel_rfl) rfl rfl
                    clear hbs119 hdp119
                    refine op_pick_t (ev_base hN119 rfl q119_66) (ev_base hN119 rfl q119_69) ?_
                    exact obN_end rfl rfl ((grown_refl _ _))
                  · -- operation 25, slot 71
                    intro a120 w120 hN120 hR120 hbs120 hdp120
                    have hR120 : w78.grownBy w120 none := hR120
                    have q120_70 : a120.tmps.getD 70 undef = (Value.bool true) := hdp120 24 _ 70 (by kernel_rfl) rfl rfl
                    clear hbs120 hdp120
                    refine op_move (ev_base hN120 rfl q120_70) ?_
                    exact obN_end rfl rfl ((grown_refl _ _))
                  · -- operation 26, slot 72
                    intro a121 w121 hN121 hR121 hbs121 hdp121
                    have hR121 : w78.grownBy w121 none := hR121
                    have q121_10 : a121.tmps.getD 10 undef = u55 := (hbs121 10 rfl).trans (sl_hit hN rfl)
                    have q121_71 : a121.tmps.getD 71 undef = (Value.bool true) := hdp121 25 _ 71 (by kernel_rfl) rfl rfl
                    clear hbs121 hdp121
                    refine g_true (j := 25) (dj := 71) (b := true) rfl rfl rfl (ev_base hN121 rfl q121_71) ?_
                    refine op_move (ev_base hN121 rfl q121_10) ?_
                    exact obN_end rfl rfl ((grown_refl _ _))
                  · -- operation 27, slot 73
                    intro a122 w122 hN122 hR122 hbs122 hdp122
                    have hR122 : w78.grownBy w122 none := hR122
                    have q122_14 : a122.tmps.getD 14 undef = u68 := (hbs122 14 rfl).trans (sl_hit hN rfl)
                    have q122_71 : a122.tmps.getD 71 undef = (Value.bool true) := hdp122 25 _ 71 (by kernel_rfl) rfl rfl
                    clear hbs122 hdp122
                    refine g_true (j := 25) (dj := 71) (b := true) rfl rfl rfl (ev_base hN122 rfl q122_71) ?_
                    refine op_move (ev_base hN122 rfl q122_14) ?_
                    exact obN_end rfl rfl ((grown_refl _ _))
                  · -- operation 28, slot 74
                    intro a123 w123 hN123 hR123 hbs123 hdp123
                    have hR123 : w78.grownBy w123 none := hR123
                    have z_w123 := hR123.size
                    have h := h.keep0 hR123
                    have hv := hv.keep0 hR123
                    have hB41 := hB41.keep0 hR123
                    have hO55 := hO55.keep0 hR123
                    have hB61 := hB61.keep0 hR123
                    have hO68 := hO68.keep0 hR123
                    have hB75 := hB75.keep0 hR123
                    have hb := below_step0 hb hR123 hb.size
                    have q123_72 : a123.tmps.getD 72 undef = u55 := hdp123 26 _ 72 (by kernel_rfl) rfl rfl
                    have q123_73 : a123.tmps.getD 73 undef = u68 := hdp123 27 _ 73 (by kernel_rfl) rfl rfl
                    have q123_71 : a123.tmps.getD 71 undef = (Value.bool true) := hdp123 25 _ 71 (by kernel_rfl) rfl rfl
                    clear hbs123 hdp123
                    refine g_true (j := 25) (dj := 71) (b := true) rfl rfl rfl (ev_base hN123 rfl q123_71) ?_
                    refine op_fn (vs := [u55, u68]) ok60 ⟨(ev_base hN123 rfl q123_72), ⟨(ev_base hN123 rfl q123_73), trivial⟩⟩ (sameL_ret (takeX bl).2.1 (takeX bl).2.1 _ _ _ (by first | assumption | omega | (simp only [List.length_append, List.length_cons, List.length_nil, List.length_drop, List.length_take]; omega) | (dsimp only; omega) | decide | (simp [keyV, be8_len]; done)) (by first | assumption | omega | (simp only [List.length_append, List.length_cons, List.length_nil, List.length_drop, List.length_take]; omega) | (dsimp only; omega) | decide | (simp [keyV, be8_len]; done)) (show RdC w123 0 w123.heap.size 1 u55 (takeX bl).2.1.length ((takeX bl).2.1.map u16v) from by have hh : RdC w123 0 w123.heap.size 1 _ _ _ := (hO55.rdw.mono (L' := 0) (B' := w123.heap.size) (Nat.zero_le _) (by omega)); first | exact hh | exact hh.cast (by first | omega | (simp; try omega)) (by first | rfl | simp [u16v])) (show RdC w123 0 w123.heap.size 1 u68 (takeX bl).2.1.length ((takeX bl).2.1.map u16v) from by have hh : RdC w123 0 w123.heap.size 1 _ _ _ := (hO68.rdw.mono (L' := 0) (B' := w123.heap.size) (Nat.zero_le _) (by omega)); first | exact hh | exact hh.cast (by first | omega | (simp; try omega)) (by first | rfl | simp [u16v]))) ?_
                    rintro _ w124 ⟨E125, rfl⟩
                    have E125 := grown_of_below E125
                    have z_w124 := E125.size
                    have h := h.keep0 E125
                    have hv := hv.keep0 E125
                    have hB41 := hB41.keep0 E125
                    have hO55 := hO55.keep0 E125
                    have hB61 := hB61.keep0 E125
                    have hO68 := hO68.keep0 E125
                    have hB75 := hB75.keep0 E125
                    have hb := below_step0 hb E125 hb.size
                    rw [g74]
                    exact obN_end rfl rfl (E125)
                  · -- operation 29, slot 75
                    intro a126 w126 hN126 hR126 hbs126 hdp126
                    have hR126 : w78.grownBy w126 none := hR126
                    have q126_71 : a126.tmps.getD 71 undef = (Value.bool true) := hdp126 25 _ 71 (by kernel_rfl) rfl rfl
                    have q126_74 : a126.tmps.getD 74 undef = (Value.bool true) := hdp126 28 _ 74 (by kernel_rfl) rfl rfl
                    clear hbs126 hdp126
                    refine op_pick_t (ev_base hN126 rfl q126_71) (ev_base hN126 rfl q126_74) ?_
                    exact obN_end rfl rfl ((grown_refl _ _))
                  · -- operation 30, slot 76
                    intro a127 w127 hN127 hR127 hbs127 hdp127
                    have hR127 : w78.grownBy w127 none := hR127
                    have q127_75 : a127.tmps.getD 75 undef = (Value.bool true) := hdp127 29 _ 75 (by kernel_rfl) rfl rfl
                    clear hbs127 hdp127
                    refine op_move (ev_base hN127 rfl q127_75) ?_
                    exact obN_end rfl rfl ((grown_refl _ _))
                  · -- operation 31, slot 77
                    intro a128 w128 hN128 hR128 hbs128 hdp128
                    have hR128 : w78.grownBy w128 none := hR128
                    have q128_11 : a128.tmps.getD 11 undef = (Value.int .u64 (((takeX bl).2.2.1 : Nat) : Int)) := (hbs128 11 rfl).trans (sl_hit hN rfl)
                    have q128_76 : a128.tmps.getD 76 undef = (Value.bool true) := hdp128 30 _ 76 (by kernel_rfl) rfl rfl
                    clear hbs128 hdp128
                    refine g_true (j := 30) (dj := 76) (b := true) rfl rfl rfl (ev_base hN128 rfl q128_76) ?_
                    refine op_move (ev_base hN128 rfl q128_11) ?_
                    exact obN_end rfl rfl ((grown_refl _ _))
                  · -- operation 32, slot 78
                    intro a129 w129 hN129 hR129 hbs129 hdp129
                    have hR129 : w78.grownBy w129 none := hR129
                    have q129_15 : a129.tmps.getD 15 undef = (Value.int .u64 (((takeX bl).2.2.1 : Nat) : Int)) := (hbs129 15 rfl).trans (sl_hit hN rfl)
                    have q129_76 : a129.tmps.getD 76 undef = (Value.bool true) := hdp129 30 _ 76 (by kernel_rfl) rfl rfl
                    clear hbs129 hdp129
                    refine g_true (j := 30) (dj := 76) (b := true) rfl rfl rfl (ev_base hN129 rfl q129_76) ?_
                    refine op_move (ev_base hN129 rfl q129_15) ?_
                    exact obN_end rfl rfl ((grown_refl _ _))
                  · -- operation 33, slot 79
                    intro a130 w130 hN130 hR130 hbs130 hdp130
                    have hR130 : w78.grownBy w130 none := hR130
                    have q130_77 : a130.tmps.getD 77 undef = (Value.int .u64 (((takeX bl).2.2.1 : Nat) : Int)) := hdp130 31 _ 77 (by kernel_rfl) rfl rfl
                    have q130_78 : a130.tmps.getD 78 undef = (Value.int .u64 (((takeX bl).2.2.1 : Nat) : Int)) := hdp130 32 _ 78 (by kernel_rfl) rfl rfl
                    have q130_76 : a130.tmps.getD 76 undef = (Value.bool true) := hdp130 30 _ 76 (by kernel_rfl) rfl rfl
                    clear hbs130 hdp130
                    refine g_true (j := 30) (dj := 76) (b := true) rfl rfl rfl (ev_base hN130 rfl q130_76) ?_
                    refine op_cmp (b := true) (ev_base hN130 rfl q130_77) (ev_base hN130 rfl q130_78) (b_eql (decide_eq_true g79)) ?_
                    exact obN_end rfl rfl ((grown_refl _ _))
                  · -- operation 34, slot 80
                    intro a131 w131 hN131 hR131 hbs131 hdp131
                    have hR131 : w78.grownBy w131 none := hR131
                    have q131_76 : a131.tmps.getD 76 undef = (Value.bool true) := hdp131 30 _ 76 (by kernel_rfl) rfl rfl
                    have q131_79 : a131.tmps.getD 79 undef = (Value.bool true) := hdp131 33 _ 79 (by kernel_rfl) rfl rfl
                    clear hbs131 hdp131
                    refine op_pick_t (ev_base hN131 rfl q131_76) (ev_base hN131 rfl q131_79) ?_
                    exact obN_end rfl rfl ((grown_refl _ _))
                  · -- operation 35, slot 81
                    intro a132 w132 hN132 hR132 hbs132 hdp132
                    have hR132 : w78.grownBy w132 none := hR132
                    have q132_80 : a132.tmps.getD 80 undef = (Value.bool true) := hdp132 34 _ 80 (by kernel_rfl) rfl rfl
                    clear hbs132 hdp132
                    refine op_move (ev_base hN132 rfl q132_80) ?_
                    exact obN_end rfl rfl ((grown_refl _ _))
                  · -- operation 36, slot 82
                    intro a133 w133 hN133 hR133 hbs133 hdp133
                    have hR133 : w78.grownBy w133 none := hR133
                    have q133_12 : a133.tmps.getD 12 undef = (Value.int .i64 (takeX bl).2.2.2) := (hbs133 12 rfl).trans (sl_hit hN rfl)
                    have q133_81 : a133.tmps.getD 81 undef = (Value.bool true) := hdp133 35 _ 81 (by kernel_rfl) rfl rfl
                    clear hbs133 hdp133
                    refine g_true (j := 35) (dj := 81) (b := true) rfl rfl rfl (ev_base hN133 rfl q133_81) ?_
                    refine op_move (ev_base hN133 rfl q133_12) ?_
                    exact obN_end rfl rfl ((grown_refl _ _))
                  · -- operation 37, slot 83
                    intro a134 w134 hN134 hR134 hbs134 hdp134
                    have hR134 : w78.grownBy w134 none := hR134
                    have q134_16 : a134.tmps.getD 16 undef = (Value.int .i64 (takeX bl).2.2.2) := (hbs134 16 rfl).trans (sl_hit hN rfl)
                    have q134_81 : a134.tmps.getD 81 undef = (Value.bool true) := hdp134 35 _ 81 (by kernel_rfl) rfl rfl
                    clear hbs134 hdp134
                    refine g_true (j := 35) (dj := 81) (b := true) rfl rfl rfl (ev_base hN134 rfl q134_81) ?_
                    refine op_move (ev_base hN134 rfl q134_16) ?_
                    exact obN_end rfl rfl ((grown_refl _ _))
                  · -- operation 38, slot 84
                    intro a135 w135 hN135 hR135 hbs135 hdp135
                    have hR135 : w78.grownBy w135 none := hR135
                    have q135_82 : a135.tmps.getD 82 undef = (Value.int .i64 (takeX bl).2.2.2) := hdp135 36 _ 82 (by kernel_rfl) rfl rfl
                    have q135_83 : a135.tmps.getD 83 undef = (Value.int .i64 (takeX bl).2.2.2) := hdp135 37 _ 83 (by kernel_rfl) rfl rfl
                    have q135_81 : a135.tmps.getD 81 undef = (Value.bool true) := hdp135 35 _ 81 (by kernel_rfl) rfl rfl
                    clear hbs135 hdp135
                    refine g_true (j := 35) (dj := 81) (b := true) rfl rfl rfl (ev_base hN135 rfl q135_81) ?_
                    refine op_cmp (b := (decide ((takeX bl).2.2.2 = (takeX bl).2.2.2))) (ev_base hN135 rfl q135_82) (ev_base hN135 rfl q135_83) (b_eql rfl) ?_
                    exact obN_end rfl rfl ((grown_refl _ _))
                  · -- operation 39, slot 85
                    intro a136 w136 hN136 hR136 hbs136 hdp136
                    have hR136 : w78.grownBy w136 none := hR136
                    have q136_81 : a136.tmps.getD 81 undef = (Value.bool true) := hdp136 35 _ 81 (by kernel_rfl) rfl rfl
                    have q136_84 : a136.tmps.getD 84 undef = (Value.bool (decide ((takeX bl).2.2.2 = (takeX bl).2.2.2))) := hdp136 38 _ 84 (by kernel_rfl) rfl rfl
                    clear hbs136 hdp136
                    refine op_pick_t (ev_base hN136 rfl q136_81) (ev_base hN136 rfl q136_84) ?_
                    exact obN_end rfl rfl ((grown_refl _ _))
                  · -- operation 40, slot 8
                    intro a137 w137 hN137 hR137 hbs137 hdp137
                    have hR137 : w78.grownBy w137 none := hR137
                    have q137_85 : a137.tmps.getD 85 undef = (Value.bool (decide ((takeX bl).2.2.2 = (takeX bl).2.2.2))) := hdp137 39 _ 85 (by kernel_rfl) rfl rfl
                    clear hbs137 hdp137
                    refine op_assign (ev_base hN137 rfl q137_85) ?_
                    exact obN_end rfl rfl ((grown_refl _ _))
                  · -- behind the region
                    intro a138 w138 hN138 hd138 hbs138 hph138 E138
                    have hd138 := hd138.trans hd
                    have s138_0 : a138.tmps.getD 0 undef = (Value.agg #[(Value.int .i64 x.k), (Value.int .i64 x.n), (Value.string (bs x.s))]) := (hbs138 0 rfl).trans (sl_base hN rfl s0)
                    have s138_1 : a138.tmps.getD 1 undef = u := (hbs138 1 rfl).trans (sl_base hN rfl s1)
                    have s138_2 : a138.tmps.getD 2 undef = (Value.int .u64 ((n : Nat) : Int)) := (hbs138 2 rfl).trans (sl_base hN rfl s2)
                    have s138_3 : a138.tmps.getD 3 undef = v := (hbs138 3 rfl).trans (sl_base hN rfl s3)
                    have s138_4 : a138.tmps.getD 4 undef = (ptr b39 0) := (hbs138 4 rfl).trans (sl_hit hN rfl)
                    have s138_8 : a138.tmps.getD 8 undef = (Value.bool (decide ((takeX bl).2.2.2 = (takeX bl).2.2.2))) := hph138 40 _ 8 rfl rfl
                    have s138_9 : a138.tmps.getD 9 undef = (ptr b59 0) := (hbs138 9 rfl).trans (sl_hit hN rfl)
                    have s138_10 : a138.tmps.getD 10 undef = u55 := (hbs138 10 rfl).trans (sl_hit hN rfl)
                    have s138_11 : a138.tmps.getD 11 undef = (Value.int .u64 (((takeX bl).2.2.1 : Nat) : Int)) := (hbs138 11 rfl).trans (sl_hit hN rfl)
                    have s138_12 : a138.tmps.getD 12 undef = (Value.int .i64 (takeX bl).2.2.2) := (hbs138 12 rfl).trans (sl_hit hN rfl)
                    have s138_13 : a138.tmps.getD 13 undef = (ptr b73 0) := (hbs138 13 rfl).trans (sl_hit hN rfl)
                    have s138_14 : a138.tmps.getD 14 undef = u68 := (hbs138 14 rfl).trans (sl_hit hN rfl)
                    have s138_15 : a138.tmps.getD 15 undef = (Value.int .u64 (((takeX bl).2.2.1 : Nat) : Int)) := (hbs138 15 rfl).trans (sl_hit hN rfl)
                    have s138_16 : a138.tmps.getD 16 undef = (Value.int .i64 (takeX bl).2.2.2) := (hbs138 16 rfl).trans (sl_hit hN rfl)
                    have s138_17 : a138.tmps.getD 17 undef = (Value.bool true) := (hbs138 17 rfl).trans (sl_hit hN rfl)
                    have s138_18 : a138.tmps.getD 18 undef = (Value.bool false) := (hbs138 18 rfl).trans (sl_hit hN rfl)
                    have s138_19 : a138.tmps.getD 19 undef = (Value.agg #[(Value.int .i64 x.k), (Value.int .i64 x.n), (Value.string (bs x.s))]) := (hbs138 19 rfl).trans (sl_hit hN rfl)
                    have s138_20 : a138.tmps.getD 20 undef = (Value.bool true) := (hbs138 20 rfl).trans (sl_hit hN rfl)
                    have s138_21 : a138.tmps.getD 21 undef = (Value.bool false) := (hbs138 21 rfl).trans (sl_hit hN rfl)
                    have s138_22 : a138.tmps.getD 22 undef = (Value.bool false) := (hbs138 22 rfl).trans (sl_hit hN rfl)
                    have s138_23 : a138.tmps.getD 23 undef = u := (hbs138 23 rfl).trans (sl_hit hN rfl)
                    have s138_24 : a138.tmps.getD 24 undef = (Value.bool true) := (hbs138 24 rfl).trans (sl_hit hN rfl)
                    have s138_25 : a138.tmps.getD 25 undef = (Value.bool false) := (hbs138 25 rfl).trans (sl_hit hN rfl)
                    have s138_26 : a138.tmps.getD 26 undef = (Value.bool false) := (hbs138 26 rfl).trans (sl_hit hN rfl)
                    have s138_27 : a138.tmps.getD 27 undef = (Value.bool false) := (hbs138 27 rfl).trans (sl_hit hN rfl)
                    have s138_28 : a138.tmps.getD 28 undef = v := (hbs138 28 rfl).trans (sl_hit hN rfl)
                    have s138_29 : a138.tmps.getD 29 undef = (Value.int .i64 ((bl.length : Nat) : Int)) := (hbs138 29 rfl).trans (sl_hit hN rfl)
                    have s138_30 : a138.tmps.getD 30 undef = (Value.bool false) := (hbs138 30 rfl).trans (sl_hit hN rfl)
                    have s138_31 : a138.tmps.getD 31 undef = (Value.bool false) := (hbs138 31 rfl).trans (sl_hit hN rfl)
                    have s138_32 : a138.tmps.getD 32 undef = (Value.tuple #[(Value.agg #[(Value.int .i64 (takeX bl).1.k), (Value.int .i64 (takeX bl).1.n), (Value.string (bs (takeX bl).1.s))]), u55, (Value.int .u64 (((takeX bl).2.2.1 : Nat) : Int)), (Value.int .i64 (takeX bl).2.2.2)]) := (hbs138 32 rfl).trans (sl_hit hN rfl)
                    have s138_33 : a138.tmps.getD 33 undef = v := (hbs138 33 rfl).trans (sl_hit hN rfl)
                    have s138_34 : a138.tmps.getD 34 undef = (Value.tuple #[(Value.agg #[(Value.int .i64 (takeX bl).1.k), (Value.int .i64 (takeX bl).1.n), (Value.string (bs (takeX bl).1.s))]), u55, (Value.int .u64 (((takeX bl).2.2.1 : Nat) : Int)), (Value.int .i64 (takeX bl).2.2.2)]) := (hbs138 34 rfl).trans (sl_hit hN rfl)
                    have s138_35 : a138.tmps.getD 35 undef = (Value.agg #[(Value.int .i64 (takeX bl).1.k), (Value.int .i64 (takeX bl).1.n), (Value.string (bs (takeX bl).1.s))]) := (hbs138 35 rfl).trans (sl_hit hN rfl)
                    have s138_36 : a138.tmps.getD 36 undef = u55 := (hbs138 36 rfl).trans (sl_hit hN rfl)
                    have s138_37 : a138.tmps.getD 37 undef = (Value.int .u64 (((takeX bl).2.2.1 : Nat) : Int)) := (hbs138 37 rfl).trans (sl_hit hN rfl)
                    have s138_38 : a138.tmps.getD 38 undef = (Value.int .i64 (takeX bl).2.2.2) := (hbs138 38 rfl).trans (sl_hit hN rfl)
                    have s138_39 : a138.tmps.getD 39 undef = (Value.tuple #[(Value.agg #[(Value.int .i64 (takeX bl).1.k), (Value.int .i64 (takeX bl).1.n), (Value.string (bs (takeX bl).1.s))]), u68, (Value.int .u64 (((takeX bl).2.2.1 : Nat) : Int)), (Value.int .i64 (takeX bl).2.2.2)]) := (hbs138 39 rfl).trans (sl_hit hN rfl)
                    have s138_40 : a138.tmps.getD 40 undef = v := (hbs138 40 rfl).trans (sl_hit hN rfl)
                    have s138_41 : a138.tmps.getD 41 undef = (Value.tuple #[(Value.agg #[(Value.int .i64 (takeX bl).1.k), (Value.int .i64 (takeX bl).1.n), (Value.string (bs (takeX bl).1.s))]), u68, (Value.int .u64 (((takeX bl).2.2.1 : Nat) : Int)), (Value.int .i64 (takeX bl).2.2.2)]) := (hbs138 41 rfl).trans (sl_hit hN rfl)
                    have s138_42 : a138.tmps.getD 42 undef = (Value.agg #[(Value.int .i64 (takeX bl).1.k), (Value.int .i64 (takeX bl).1.n), (Value.string (bs (takeX bl).1.s))]) := (hbs138 42 rfl).trans (sl_hit hN rfl)
                    have s138_43 : a138.tmps.getD 43 undef = u68 := (hbs138 43 rfl).trans (sl_hit hN rfl)
                    have s138_44 : a138.tmps.getD 44 undef = (Value.int .u64 (((takeX bl).2.2.1 : Nat) : Int)) := (hbs138 44 rfl).trans (sl_hit hN rfl)
                    have s138_45 : a138.tmps.getD 45 undef = (Value.int .i64 (takeX bl).2.2.2) := (hbs138 45 rfl).trans (sl_hit hN rfl)
                    have s138_46 : a138.tmps.getD 46 undef = (Value.agg #[(Value.int .i64 x.k), (Value.int .i64 x.n), (Value.string (bs x.s))]) := hph138 0 _ 46 rfl rfl
                    have s138_47 : a138.tmps.getD 47 undef = u := hph138 1 _ 47 rfl rfl
                    have s138_48 : a138.tmps.getD 48 undef = (Value.int .u64 ((n : Nat) : Int)) := hph138 2 _ 48 rfl rfl
                    obtain ⟨v81, s138_49, hO81⟩ := hph138 3 _ 49 rfl rfl
                    have hO81 : Own w138 w78.heap.size 5 1 v81 (keyX x l n).length ((keyX x l n).map u8v) := hO81
                    have s138_50 : a138.tmps.getD 50 undef = (Value.string (bs (keyX x l n))) := hph138 4 _ 50 rfl rfl
                    have s138_51 : a138.tmps.getD 51 undef = (Value.agg #[(Value.int .i64 x.k), (Value.int .i64 x.n), (Value.string (bs x.s))]) := hph138 5 _ 51 rfl rfl
                    have s138_52 : a138.tmps.getD 52 undef = u := hph138 6 _ 52 rfl rfl
                    have s138_53 : a138.tmps.getD 53 undef = (Value.int .u64 ((n : Nat) : Int)) := hph138 7 _ 53 rfl rfl
                    obtain ⟨v84, s138_54, hO84⟩ := hph138 8 _ 54 rfl rfl
                    have hO84 : Own w138 w78.heap.size 5 1 v84 (keyX x l n).length ((keyX x l n).map u8v) := hO84
                    have s138_55 : a138.tmps.getD 55 undef = (Value.string (bs (keyX x l n))) := hph138 9 _ 55 rfl rfl
                    have s138_56 : a138.tmps.getD 56 undef = (Value.bool true) := hph138 10 _ 56 rfl rfl
                    have s138_57 : a138.tmps.getD 57 undef = (Value.bool true) := hph138 11 _ 57 rfl rfl
                    have s138_58 : a138.tmps.getD 58 undef = (Value.agg #[(Value.int .i64 x.k), (Value.int .i64 x.n), (Value.string (bs x.s))]) := hph138 12 _ 58 rfl rfl
                    obtain ⟨v88, s138_59, hO88⟩ := hph138 13 _ 59 rfl rfl
                    have hO88 : Own w138 w78.heap.size 5 1 v88 (keyV x).length ((keyV x).map u8v) := hO88
                    have s138_60 : a138.tmps.getD 60 undef = (Value.string (bs (keyV x))) := hph138 14 _ 60 rfl rfl
                    have s138_61 : a138.tmps.getD 61 undef = (Value.agg #[(Value.int .i64 x.k), (Value.int .i64 x.n), (Value.string (bs x.s))]) := hph138 15 _ 61 rfl rfl
                    obtain ⟨v94, s138_62, hO95⟩ := hph138 16 _ 62 rfl rfl
                    have hO95 : Own w138 w78.heap.size 5 1 v94 (keyR x).length ((keyR x).map u8v) := hO95
                    have s138_63 : a138.tmps.getD 63 undef = (Value.string (bs (keyR x))) := hph138 17 _ 63 rfl rfl
                    have s138_64 : a138.tmps.getD 64 undef = (Value.bool true) := hph138 18 _ 64 rfl rfl
                    have s138_65 : a138.tmps.getD 65 undef = (Value.bool true) := hph138 19 _ 65 rfl rfl
                    have s138_66 : a138.tmps.getD 66 undef = (Value.bool true) := hph138 20 _ 66 rfl rfl
                    have s138_67 : a138.tmps.getD 67 undef = (Value.agg #[(Value.int .i64 (takeX bl).1.k), (Value.int .i64 (takeX bl).1.n), (Value.string (bs (takeX bl).1.s))]) := hph138 21 _ 67 rfl rfl
                    have s138_68 : a138.tmps.getD 68 undef = (Value.agg #[(Value.int .i64 (takeX bl).1.k), (Value.int .i64 (takeX bl).1.n), (Value.string (bs (takeX bl).1.s))]) := hph138 22 _ 68 rfl rfl
                    have s138_69 : a138.tmps.getD 69 undef = (Value.bool true) := hph138 23 _ 69 rfl rfl
                    have s138_70 : a138.tmps.getD 70 undef = (Value.bool true) := hph138 24 _ 70 rfl rfl
                    have s138_71 : a138.tmps.getD 71 undef = (Value.bool true) := hph138 25 _ 71 rfl rfl
                    have s138_72 : a138.tmps.getD 72 undef = u55 := hph138 26 _ 72 rfl rfl
                    have s138_73 : a138.tmps.getD 73 undef = u68 := hph138 27 _ 73 rfl rfl
                    have s138_74 : a138.tmps.getD 74 undef = (Value.bool true) := hph138 28 _ 74 rfl rfl
                    have s138_75 : a138.tmps.getD 75 undef = (Value.bool true) := hph138 29 _ 75 rfl rfl
                    have s138_76 : a138.tmps.getD 76 undef = (Value.bool true) := hph138 30 _ 76 rfl rfl
                    have s138_77 : a138.tmps.getD 77 undef = (Value.int .u64 (((takeX bl).2.2.1 : Nat) : Int)) := hph138 31 _ 77 rfl rfl
                    have s138_78 : a138.tmps.getD 78 undef = (Value.int .u64 (((takeX bl).2.2.1 : Nat) : Int)) := hph138 32 _ 78 rfl rfl
                    have s138_79 : a138.tmps.getD 79 undef = (Value.bool true) := hph138 33 _ 79 rfl rfl
                    have s138_80 : a138.tmps.getD 80 undef = (Value.bool true) := hph138 34 _ 80 rfl rfl
                    have s138_81 : a138.tmps.getD 81 undef = (Value.bool true) := hph138 35 _ 81 rfl rfl
                    have s138_82 : a138.tmps.getD 82 undef = (Value.int .i64 (takeX bl).2.2.2) := hph138 36 _ 82 rfl rfl
                    have s138_83 : a138.tmps.getD 83 undef = (Value.int .i64 (takeX bl).2.2.2) := hph138 37 _ 83 rfl rfl
                    have s138_84 : a138.tmps.getD 84 undef = (Value.bool (decide ((takeX bl).2.2.2 = (takeX bl).2.2.2))) := hph138 38 _ 84 rfl rfl
                    have s138_85 : a138.tmps.getD 85 undef = (Value.bool (decide ((takeX bl).2.2.2 = (takeX bl).2.2.2))) := hph138 39 _ 85 rfl rfl
                    clear hbs138 hph138
                    have E138 : w78.grownBy w138 none := E138
                    have z_w138 := E138.size
                    have h := h.keep0 E138
                    have hv := hv.keep0 E138
                    have hB41 := hB41.keep0 E138
                    have hO55 := hO55.keep0 E138
                    have hB61 := hB61.keep0 E138
                    have hO68 := hO68.keep0 E138
                    have hB75 := hB75.keep0 E138
                    have hb := below_step0 hb E138 hb.size
                    refine hK80 _ _ ?_
                    refine wp_ret ?_
                    refine ret1 rfl hd138 (ev_base hN138 rfl s138_8) ⟨_, rfl, ?_⟩
                    -- path 20T 24T 30F 56T 64T 69T 74T 79T
                    exact ⟨hb, congrArg Value.bool (by simp)⟩
                · -- 79 False
                  simp at g79
              · -- 74 False
                simp at g74
            · -- 69 False
              simp at g69
          · -- 64 False
            exact absurd (keyR_eq oxn).symm g64
        · -- 56 False
          simp at g56
    · -- 24 False
      rw [c24]
      refine g_true (j := 3) (dj := 22) (b := false) rfl rfl rfl (ev_hit hN rfl) ?_
      refine op_not (ev_hit hN rfl) ?_
      refine op_pick_f (ev_hit hN rfl) (ev_hit hN rfl) ?_
      refine op_move (ev_hit hN rfl) ?_
      refine g_false (j := 8) (dj := 27) (b := false) rfl rfl rfl (ev_hit hN rfl) rfl rfl ?_
      refine g_false (j := 8) (dj := 27) (b := false) rfl rfl rfl (ev_hit hN rfl) rfl rfl ?_
      refine g_false (j := 8) (dj := 27) (b := false) rfl rfl rfl (ev_hit hN rfl) rfl rfl ?_
      refine op_pick_t (ev_hit hN rfl) rfl ?_
      refine reg_nil ?_
      refine hK47 _ _ ?_
      refine wp_cond_true (ev_hit hN rfl) ?_
      refine seq_any fun K139 hK139 => ?_
      refine one_reg ?_
      refine op_assign rfl ?_
      refine reg_nil ?_
      refine hK139 _ _ ?_
      refine wp_ret (then_ret ( ?_))
      refine ret1 rfl hd (ev_hit hN rfl) ⟨_, rfl, ?_⟩
      -- path 20T 24F
      exact ⟨hb, rfl⟩
  · -- 20 False
    rw [c20]
    refine op_not (ev_hit hN rfl) ?_
    refine op_move (ev_hit hN rfl) ?_
    refine g_false (j := 3) (dj := 22) (b := false) rfl rfl rfl (ev_hit hN rfl) rfl rfl ?_
    refine g_false (j := 3) (dj := 22) (b := false) rfl rfl rfl (ev_hit hN rfl) rfl rfl ?_
    refine g_false (j := 3) (dj := 22) (b := false) rfl rfl rfl (ev_hit hN rfl) rfl rfl ?_
    refine op_pick_t (ev_hit hN rfl) rfl ?_
    refine op_move (ev_hit hN rfl) ?_
    refine g_false (j := 8) (dj := 27) (b := false) rfl rfl rfl (ev_hit hN rfl) rfl rfl ?_
    refine g_false (j := 8) (dj := 27) (b := false) rfl rfl rfl (ev_hit hN rfl) rfl rfl ?_
    refine g_false (j := 8) (dj := 27) (b := false) rfl rfl rfl (ev_hit hN rfl) rfl rfl ?_
    refine op_pick_t (ev_hit hN rfl) rfl ?_
    refine reg_nil ?_
    refine hK47 _ _ ?_
    refine wp_cond_true (ev_hit hN rfl) ?_
    refine seq_any fun K140 hK140 => ?_
    refine one_reg ?_
    refine op_assign rfl ?_
    refine reg_nil ?_
    refine hK140 _ _ ?_
    refine wp_ret (then_ret ( ?_))
    refine ret1 rfl hd (ev_hit hN rfl) ⟨_, rfl, ?_⟩
    -- path 20F
    exact ⟨hb, rfl⟩

end Go.Proofs.Ytkkongnmcfdioaa
