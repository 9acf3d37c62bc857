/- Walks, written by a program: what each function of the translation hands back. -/
import Derived.Test.YthflnkfghogaoaaProg
import Derived.KernelRfl
import Derived.Test.YthflnkfghogaoaaB4
set_option linter.unusedVariables false
set_option linter.unusedSimpArgs false

namespace Go.Proofs.Ythflnkfghogaoaa
open Go.Gx Go.RowKit
attribute [local irreducible] wpList wpStill Code.wp Calls

theorem TypedAggs_ret (agg name : UInt8) (more order : Bool) (w : World) : Ret Try.prog 8 #[(Value.int .u8 (agg.toNat : Int)), (Value.int .u8 (name.toNat : Int)), (Value.bool more), (Value.bool order)] w (fun v' w' => Below w.heap.size w w' ∧ v' = .bool true) := by
 have hp0 := name.toNat_lt
 have hp1 := agg.toNat_lt
 have hb := Below.refl w.heap.size w
 refine enter (N := 66) Try.func8 rfl rfl (by simp) fun a0 hN hd hA => ?_
 have s0 : a0.tmps.getD 0 undef = (Value.int .u8 (agg.toNat : Int)) := hA 0 (by simp)
 have s1 : a0.tmps.getD 1 undef = (Value.int .u8 (name.toNat : Int)) := hA 1 (by simp)
 have s2 : a0.tmps.getD 2 undef = (Value.bool more) := hA 2 (by simp)
 have s3 : a0.tmps.getD 3 undef = (Value.bool order) := hA 3 (by simp)
 clear hA
 refine seq_any fun K1 hK1 => one_reg ?_
 refine op_assign rfl (reg_nil (hK1 _ _ (seq_any fun K2 hK2 => seq_any fun K3 hK3 => one_reg (op_fn (vs := []) ok12 trivial (begun10_ret _) ?_))))
 rintro _ w4 ⟨E5, rfl⟩
 have E5 := grown_of_below E5
 have z_w4 := E5.size
 have hb := below_step0 hb E5 hb.size
 refine op_not (ev_hit hN rfl) ?_
 refine reg_nil (hK3 _ _ (wp_cond_false (ev_hit hN rfl) (wp_skip (hK2 _ _ (seq_join2 (N := 66) (fun az_ w' => ∃ (n9 : List UInt8) (a9 : Nat), (az_.tmps.getD 2 undef = (Value.bool more)) ∧ (az_.tmps.getD 3 undef = (Value.bool order)) ∧ (az_.tmps.getD 8 undef = (Value.bool false)) ∧ (az_.tmps.getD 9 undef = (Value.string (bs n9))) ∧ (az_.tmps.getD 10 undef = (Value.int .i64 ((a9 : Nat) : Int))) ∧ (n9 ∈ NM3) ∧ (a9 < 5) ∧ (Below w.heap.size w w') ∧ (w4.heap.size ≤ w'.heap.size)) (fun hJ6 => ?_) ?_)))))
 ·
  refine seq_any fun K7 hK7 => one_reg (op_bslice (e := 9) (pv := [(0, (Value.string (bs [107]))), (1, (Value.string (bs [118]))), (2, (Value.string (bs [110])))]) (cs := [(Value.string (bs [107])), (Value.string (bs [118])), (Value.string (bs [110]))]) ⟨rfl, rfl, ⟨rfl, rfl, ⟨rfl, rfl, trivial⟩⟩⟩ (by kernel_rfl) ?_)
  intro w8 b9 lo_b9 hi_b9 hB11 E10
  have z_w8 := E10.size
  have hb := below_step0 hb E10 hb.size
  refine op_move (ev_base hN rfl s1) (op_rem (r := ((name.toNat % 3 : Nat) : Int)) (ev_hit hN rfl) rfl (by decide) (by rw [Int.tmod_eq_emod_of_nonneg (by omega)]; omega) ?_)
  refine op_index_rd slt53 (ev_hit hN rfl) (RdC.ofBx (sz := 1) (n := 3) hB11 rfl (by decide)) (ev_hit hN rfl) (by omega) (by omega) ?_
  intro b12 o13 h0b12 h1b12 hc14
  refine op_load1 (v := (Value.string (bs (NM3.getD (name.toNat % 3) [])))) one9 (ev_hit hN rfl) (by have := hc14 0 (Value.string (bs (NM3.getD (name.toNat % 3) []))) (by decide) (el_sv (l := NM3) (i := (name.toNat % 3)) rfl (show _ < 3 by omega)); simpa using this) ?_
  refine op_assign (ev_hit hN rfl) (reg_nil (hK7 _ _ (seq_any fun K15 hK15 => one_reg (op_move (ev_base hN rfl s0) (op_rem (r := ((agg.toNat % 5 : Nat) : Int)) (ev_hit hN rfl) rfl (by decide) (by rw [Int.tmod_eq_emod_of_nonneg (by omega)]; omega) ?_)))))
  refine op_conv (r := ((agg.toNat % 5 : Nat) : Int)) (ev_hit hN rfl) us5 Try.underlying3 (wrap_i64 (by omega)) ?_
  refine op_assign (ev_hit hN rfl) (reg_nil (hK15 _ _ ?_))
  exact hJ6 _ _ _ hN hd ⟨(NM3.getD (name.toNat % 3) []), agg.toNat % 5, (sl_base hN rfl s2), (sl_base hN rfl s3), (sl_hit hN rfl), (sl_hit hN rfl), (sl_hit hN rfl), (getD_mem (l := NM3) (i := name.toNat % 3) (show _ < 3 by omega)), (by omega), hb, (by omega)⟩
 ·
  rintro a6 w6 hN6 hd6 ⟨n9, a9, s6_2, s6_3, s6_8, s6_9, s6_10, hn9, ha9, hb, zl_w6⟩
  have z_w6 := hb.size
  refine seq_any fun K16 hK16 => one_reg (op_move (ev_base hN6 rfl s6_10) (op_move (ev_base hN6 rfl s6_9) (op_build (pv := [(0, (Value.int .i64 ((a9 : Nat) : Int))), (2, (Value.string (bs n9)))]) (v := (Value.agg #[(Value.int .i64 ((a9 : Nat) : Int)), (Value.string (bs [])), (Value.string (bs n9))])) ⟨rfl, (ev_hit hN6 rfl), ⟨rfl, (ev_hit hN6 rfl), trivial⟩⟩ (by kernel_rfl) ?_)))
  refine op_bslice (e := 63) (pv := [(0, (Value.agg #[(Value.int .i64 ((a9 : Nat) : Int)), (Value.string (bs [])), (Value.string (bs n9))]))]) (cs := [(Value.int .i64 ((a9 : Nat) : Int)), (Value.string (bs [])), (Value.string (bs n9))]) ⟨rfl, (ev_hit hN6 rfl), trivial⟩ (by kernel_rfl) ?_
  intro w17 b18 lo_b18 hi_b18 hB20 E19
  have z_w17 := E19.size
  have hb := below_step0 hb E19 hb.size
  refine op_build (pv := [(0, (Value.int .i64 6)), (1, (Value.string (bs [116]))), (6, (Value.slice (some ⟨b18, 0, none⟩) 1 1))]) (v := (Value.agg #[(Value.int .i64 6), (Value.string (bs [116])), (Value.string (bs [])), (Value.slice none 0 0), (Value.slice none 0 0), (Value.slice none 0 0), (Value.slice (some ⟨b18, 0, none⟩) 1 1), (Value.string (bs [])), (Value.slice none 0 0), (Value.slice none 0 0), (Value.slice none 0 0), (Value.bool false), (Value.slice none 0 0)])) ⟨rfl, rfl, ⟨rfl, rfl, ⟨rfl, (ev_hit hN6 rfl), trivial⟩⟩⟩ (by kernel_rfl) ?_
  refine op_alloc (cs := [(Value.int .i64 0), (Value.string (bs [])), (Value.string (bs [])), (Value.slice none 0 0), (Value.slice none 0 0), (Value.slice none 0 0), (Value.slice none 0 0), (Value.string (bs [])), (Value.slice none 0 0), (Value.slice none 0 0), (Value.slice none 0 0), (Value.bool false), (Value.slice none 0 0)]) zero45 rfl ?_
  intro w21 b22 lo_b22 hi_b22 hB24 E23
  have z_w21 := E23.size
  have hB20 := hB20.keep0 E23
  have hb := below_step0 hb E23 hb.size
  have hB24_old := hB24
  refine op_store (vs := [(Value.int .i64 6), (Value.string (bs [116])), (Value.string (bs [])), (Value.slice none 0 0), (Value.slice none 0 0), (Value.slice none 0 0), (Value.slice (some ⟨b18, 0, none⟩) 1 1), (Value.string (bs [])), (Value.slice none 0 0), (Value.slice none 0 0), (Value.slice none 0 0), (Value.bool false), (Value.slice none 0 0)]) (cs' := [(Value.int .i64 6), (Value.string (bs [116])), (Value.string (bs [])), (Value.slice none 0 0), (Value.slice none 0 0), (Value.slice none 0 0), (Value.slice (some ⟨b18, 0, none⟩) 1 1), (Value.string (bs [])), (Value.slice none 0 0), (Value.slice none 0 0), (Value.slice none 0 0), (Value.bool false), (Value.slice none 0 0)]) size45 (ev_hit hN6 rfl) (ev_hit hN6 rfl) rfl rfl rfl hB24 (Nat.le_of_ble_eq_true rfl) rfl ?_
  intro w27 hB24 E28
  have z_w27 := E28.size
  have hB20 := hB20.keep E28 (fun hh => hB20.ne hB24_old (by decide) (Option.some.inj hh))
  have hb := below_step1 hb E28 hb.size (by omega)
  refine reg_nil (hK16 _ _ (seq_any fun K29 hK29 => seq_any fun K30 hK30 => ?_))
  refine one_reg (op_move (ev_base hN6 rfl s6_10) (op_eql (ev_hit hN6 rfl) rfl (fun c29 => ?_) (fun c29 => ?_)))
  ·
   refine reg_nil (hK30 _ _ (wp_cond_true (ev_hit hN6 rfl) (one_reg (op_field fld45_6 (ev_hit hN6 rfl) (op_load1 (v := (Value.slice (some ⟨b18, 0, none⟩) 1 1)) one22 (ev_hit hN6 rfl) (hB24.cell rfl) (op_index_lit (i := 0) (o := 0) slt22 (ev_hit hN6 rfl) rfl rfl (by decide) rfl ?_))))))
   refine op_field fld63_2 (ev_hit hN6 rfl) ?_
   have hB20_old := hB20
   refine op_store (vs := [(Value.string (bs []))]) (cs' := [(Value.int .i64 ((a9 : Nat) : Int)), (Value.string (bs [])), (Value.string (bs []))]) size9 (ev_hit hN6 rfl) rfl rfl rfl rfl hB20 (Nat.le_of_ble_eq_true rfl) rfl ?_
   intro w33 hB20 E34
   have z_w33 := E34.size
   have hB24 := hB24.keep E34 (fun hh => hB24.ne hB20_old (by decide) (Option.some.inj hh))
   have hb := below_step1 hb E34 hb.size (by omega)
   refine reg_nil (hK29 _ _ (seq_any fun K35 hK35 => seq_any fun K36 hK36 => ?_))
   refine one_reg (op_move (ev_base hN6 rfl s6_2) (reg_nil (hK36 _ _ (wp_cond_split (ev_hit hN6 rfl) (fun c34 => ?_) (fun c34 => ?_)))))
   ·
    refine one_reg (op_field fld45_6 (ev_hit hN6 rfl) (op_load1 (v := (Value.slice (some ⟨b18, 0, none⟩) 1 1)) one22 (ev_hit hN6 rfl) (hB24.cell rfl) (op_build (pv := [(2, (Value.string (bs [107])))]) (v := (Value.agg #[(Value.int .i64 0), (Value.string (bs [])), (Value.string (bs [107]))])) ⟨rfl, rfl, trivial⟩ (by kernel_rfl) ?_)))
    refine op_bslice (e := 63) (pv := [(0, (Value.agg #[(Value.int .i64 0), (Value.string (bs [])), (Value.string (bs [107]))]))]) (cs := [(Value.int .i64 0), (Value.string (bs [])), (Value.string (bs [107]))]) ⟨rfl, (ev_hit hN6 rfl), trivial⟩ (by kernel_rfl) ?_
    intro w37 b38 lo_b38 hi_b38 hB40 E39
    have z_w37 := E39.size
    have hB24 := hB24.keep0 E39
    have hB20 := hB20.keep0 E39
    have hb := below_step0 hb E39 hb.size
    have hP46 := (Own.ofBx (base := w.heap.size) (sz := 3) (n := 1) hB20 rfl (by decide) (by omega))
    refine op_append slt22 (ev_hit hN6 rfl) hP46 (ev_hit hN6 rfl) (Src.ofRd Try.underlying22 (by decide) (RdC.ofBx (sz := 3) (n := 1) hB40 rfl (by decide)) rfl) (by unfold maxLen; omega) (by omega) hb.size ?_
    intro v41 w42 hO44 E43 hm45
    have z_w42 := E43.size
    have hB24 := hB24.keep E43 (by simp [Value.ownBlock]; try omega)
    have hb := below_stepO hb hP46 E43 hb.size (by omega)
    have hO44 : Own w42 w.heap.size 63 3 v41 (1 + 1) ((([(PItm.mk ((a9 : Nat) : Int) [] [])] ++ [(PItm.mk 0 [] ([107]))])).flatMap cellsI) := by exact hO44.cast (by simp) (by simp [cellsI])
    refine op_field fld45_6 (ev_hit hN6 rfl) ?_
    have hB24_old := hB24
    refine op_store (vs := [v41]) (cs' := [(Value.int .i64 6), (Value.string (bs [116])), (Value.string (bs [])), (Value.slice none 0 0), (Value.slice none 0 0), (Value.slice none 0 0), v41, (Value.string (bs [])), (Value.slice none 0 0), (Value.slice none 0 0), (Value.slice none 0 0), (Value.bool false), (Value.slice none 0 0)]) size22 (ev_hit hN6 rfl) (ev_hit hN6 rfl) hO44.cl rfl (by simp only [List.all_cons, List.all_nil, Bool.true_and, Bool.and_true, hO44.one]; try rfl) hB24 (Nat.le_of_ble_eq_true rfl) rfl ?_
    intro w49 hB24 E50
    have z_w49 := E50.size
    have hO44 := hO44.keepX hB24_old E50 (by decide)
    have hb := below_step1 hb E50 hb.size (by omega)
    refine reg_nil (hK35 _ _ (seq_any fun K51 hK51 => seq_any fun K52 hK52 => ?_))
    refine one_reg (op_move (ev_base hN6 rfl s6_3) (reg_nil (hK52 _ _ (wp_cond_split (ev_hit hN6 rfl) (fun c41 => ?_) (fun c41 => ?_)))))
    ·
     refine one_reg (op_fn (vs := [(Value.string (bs [])), (Value.string (bs [107]))]) ok25 ⟨rfl, ⟨rfl, trivial⟩⟩ (col_ret [] ([107]) _) ?_)
     rintro _ w53 ⟨E54, rfl⟩
     have E54 := grown_of_below E54
     have z_w53 := E54.size
     have hO44 := hO44.keep0 E54
     have hB24 := hB24.keep0 E54
     have hb := below_step0 hb E54 hb.size
     refine op_bslice (e := 28) (pv := [(0, (Value.agg #[(Value.int .i64 2), (Value.int .i64 0), (Value.int .i64 0), (Value.string (bs [])), (Value.string (bs [])), (Value.string (bs [107])), (Value.slice none 0 0)]))]) (cs := [(Value.int .i64 2), (Value.int .i64 0), (Value.int .i64 0), (Value.string (bs [])), (Value.string (bs [])), (Value.string (bs [107])), (Value.slice none 0 0)]) ⟨rfl, (ev_hit hN6 rfl), trivial⟩ (by kernel_rfl) ?_
     intro w55 b56 lo_b56 hi_b56 hB58 E57
     have z_w55 := E57.size
     have hO44 := hO44.keep0 E57
     have hB24 := hB24.keep0 E57
     have hb := below_step0 hb E57 hb.size
     refine op_field fld45_10 (ev_hit hN6 rfl) ?_
     have hB24_old := hB24
     refine op_store (vs := [(Value.slice (some ⟨b56, 0, none⟩) 1 1)]) (cs' := [(Value.int .i64 6), (Value.string (bs [116])), (Value.string (bs [])), (Value.slice none 0 0), (Value.slice none 0 0), (Value.slice none 0 0), v41, (Value.string (bs [])), (Value.slice none 0 0), (Value.slice none 0 0), (Value.slice (some ⟨b56, 0, none⟩) 1 1), (Value.bool false), (Value.slice none 0 0)]) size26 (ev_hit hN6 rfl) (ev_hit hN6 rfl) rfl rfl rfl hB24 (Nat.le_of_ble_eq_true rfl) rfl ?_
     intro w61 hB24 E62
     have z_w61 := E62.size
     have hO44 := hO44.keepX hB24_old E62 (by decide)
     have hB58 := hB58.keep E62 (fun hh => hB58.ne hB24_old (by decide) (Option.some.inj hh))
     have hb := below_step1 hb E62 hb.size (by omega)
     refine reg_nil (hK51 _ _ (seq_join2 (N := 66) (fun az_ w' => ∃ (wt : Int), (az_.tmps.getD 8 undef = (Value.bool false)) ∧ (az_.tmps.getD 11 undef = (ptr b22 0)) ∧ (az_.tmps.getD 12 undef = (Value.int .i64 wt)) ∧ (wt = wantA a9 n9 more order) ∧ (Below w.heap.size w w') ∧ (w61.heap.size ≤ w'.heap.size) ∧ (Own w' w.heap.size 63 3 v41 (1 + 1) ((([(PItm.mk ((a9 : Nat) : Int) [] [])] ++ [(PItm.mk 0 [] ([107]))])).flatMap cellsI)) ∧ (Bx w' b56 28 [(Value.int .i64 2), (Value.int .i64 0), (Value.int .i64 0), (Value.string (bs [])), (Value.string (bs [])), (Value.string (bs [107])), (Value.slice none 0 0)]) ∧ (Bx w' b22 45 [(Value.int .i64 6), (Value.string (bs [116])), (Value.string (bs [])), (Value.slice none 0 0), (Value.slice none 0 0), (Value.slice none 0 0), v41, (Value.string (bs [])), (Value.slice none 0 0), (Value.slice none 0 0), (Value.slice (some ⟨b56, 0, none⟩) 1 1), (Value.bool false), (Value.slice none 0 0)])) (fun hJ63 => ?_) ?_))
     ·
      refine seq_any fun K64 hK64 => ?_
      refine one_reg (op_assign rfl (reg_nil (hK64 _ _ (seq_any fun K65 hK65 => seq_any fun K66 hK66 => ?_))))
      refine one_reg (op_move (ev_base hN6 rfl s6_10) (op_eql (ev_hit hN6 rfl) rfl (fun c46 => ?_) (fun c46 => ?_)))
      ·
       refine op_move (ev_hit hN6 rfl) (g_true (j := 2) (dj := 47) (b := true) rfl rfl rfl (ev_hit hN6 rfl) (op_move (ev_base hN6 rfl s6_9) (g_true (j := 2) (dj := 47) (b := true) rfl rfl rfl (ev_hit hN6 rfl) (op_seql (ev_hit hN6 rfl) rfl (fun c49 => ?_) (fun c49 => ?_)))))
       ·
        refine op_pick_t (ev_hit hN6 rfl) (ev_hit hN6 rfl) ?_
        refine op_move (ev_hit hN6 rfl) (g_false (j := 6) (dj := 51) (b := false) rfl rfl rfl (ev_hit hN6 rfl) rfl rfl (g_false (j := 6) (dj := 51) (b := false) rfl rfl rfl (ev_hit hN6 rfl) rfl rfl (g_false (j := 6) (dj := 51) (b := false) rfl rfl rfl (ev_hit hN6 rfl) rfl rfl (g_undef (j := 9) (dj := 54) (b := true) rfl rfl rfl (ev_hit hN6 rfl) rfl ?_))))
        refine g_undef (j := 9) (dj := 54) (b := true) rfl rfl rfl (ev_hit hN6 rfl) rfl ?_
        refine g_undef (j := 11) (dj := 56) (b := false) rfl rfl rfl (ev_hit hN6 rfl) rfl ?_
        refine g_undef (j := 9) (dj := 54) (b := true) rfl rfl rfl (ev_hit hN6 rfl) rfl ?_
        refine g_false (j := 6) (dj := 51) (b := false) rfl rfl rfl (ev_hit hN6 rfl) rfl rfl (op_pick_t (ev_hit hN6 rfl) rfl ?_)
        refine reg_nil (hK66 _ _ (wp_cond_true (ev_hit hN6 rfl) (one_reg (op_assign rfl (reg_nil (hK65 _ _ ?_))))))
        exact hJ63 _ _ _ hN6 hd6 ⟨11, (sl_base hN6 rfl s6_8), (sl_hit hN6 rfl), (sl_hit hN6 rfl), (by unfold wantA; rw [if_pos (.inl ⟨by omega, c49⟩)]), hb, (by omega), hO44, hB58, hB24⟩
       ·
        refine op_pick_t (ev_hit hN6 rfl) (ev_hit hN6 rfl) ?_
        refine op_move (ev_hit hN6 rfl) (g_true (j := 6) (dj := 51) (b := false) rfl rfl rfl (ev_hit hN6 rfl) (op_move (ev_base hN6 rfl s6_10) (g_true (j := 6) (dj := 51) (b := false) rfl rfl rfl (ev_hit hN6 rfl) (op_neq (ev_hit hN6 rfl) rfl (fun c53 => ?_) (fun c53 => ?_)))))
        ·
         refine g_true (j := 6) (dj := 51) (b := false) rfl rfl rfl (ev_hit hN6 rfl) (op_move (ev_hit hN6 rfl) (g_true (j := 9) (dj := 54) (b := true) rfl rfl rfl (ev_hit hN6 rfl) (op_move (ev_base hN6 rfl s6_2) (g_true (j := 9) (dj := 54) (b := true) rfl rfl rfl (ev_hit hN6 rfl) (op_move (ev_hit hN6 rfl) ?_)))))
         rcases Bool.eq_false_or_eq_true (more) with g56 | g56
         ·
          rw [g56]
          refine g_false (j := 11) (dj := 56) (b := false) rfl rfl rfl (ev_hit hN6 rfl) rfl rfl (g_true (j := 9) (dj := 54) (b := true) rfl rfl rfl (ev_hit hN6 rfl) (op_pick_t (ev_hit hN6 rfl) rfl ?_))
          refine g_true (j := 6) (dj := 51) (b := false) rfl rfl rfl (ev_hit hN6 rfl) (op_pick_t (ev_hit hN6 rfl) (ev_hit hN6 rfl) ?_)
          refine op_pick_f (ev_hit hN6 rfl) (ev_hit hN6 rfl) ?_
          refine reg_nil (hK66 _ _ (wp_cond_true (ev_hit hN6 rfl) (one_reg (op_assign rfl (reg_nil (hK65 _ _ ?_))))))
          exact hJ63 _ _ _ hN6 hd6 ⟨11, (sl_base hN6 rfl s6_8), (sl_hit hN6 rfl), (sl_hit hN6 rfl), (by unfold wantA; rw [if_pos (.inr ⟨by omega, .inl c34⟩)]), hb, (by omega), hO44, hB58, hB24⟩
         ·
          exact absurd (g56.symm.trans c34) (by decide)
        ·
         refine g_true (j := 6) (dj := 51) (b := false) rfl rfl rfl (ev_hit hN6 rfl) (op_move (ev_hit hN6 rfl) (g_false (j := 9) (dj := 54) (b := true) rfl rfl rfl (ev_hit hN6 rfl) rfl rfl (g_false (j := 9) (dj := 54) (b := true) rfl rfl rfl (ev_hit hN6 rfl) rfl rfl (g_undef (j := 11) (dj := 56) (b := false) rfl rfl rfl (ev_hit hN6 rfl) rfl ?_))))
         refine g_false (j := 9) (dj := 54) (b := true) rfl rfl rfl (ev_hit hN6 rfl) rfl rfl (g_true (j := 6) (dj := 51) (b := false) rfl rfl rfl (ev_hit hN6 rfl) (op_pick_f (ev_hit hN6 rfl) rfl ?_))
         refine op_pick_f (ev_hit hN6 rfl) (ev_hit hN6 rfl) ?_
         refine reg_nil (hK66 _ _ (wp_cond_false (ev_hit hN6 rfl) (wp_skip (hK65 _ _ ?_))))
         exact hJ63 _ _ _ hN6 hd6 ⟨0, (sl_base hN6 rfl s6_8), (sl_hit hN6 rfl), (sl_hit hN6 rfl), (by unfold wantA; rw [if_neg (fun g => g.elim (fun g => c49 g.2) (fun g => (by have := g.1; omega)))]), hb, (by omega), hO44, hB58, hB24⟩
      ·
       refine op_move (ev_hit hN6 rfl) (g_false (j := 2) (dj := 47) (b := true) rfl rfl rfl (ev_hit hN6 rfl) rfl rfl (g_false (j := 2) (dj := 47) (b := true) rfl rfl rfl (ev_hit hN6 rfl) rfl rfl (op_pick_f (ev_hit hN6 rfl) rfl ?_)))
       refine op_move (ev_hit hN6 rfl) (g_true (j := 6) (dj := 51) (b := false) rfl rfl rfl (ev_hit hN6 rfl) (op_move (ev_base hN6 rfl s6_10) (g_true (j := 6) (dj := 51) (b := false) rfl rfl rfl (ev_hit hN6 rfl) (op_neq (ev_hit hN6 rfl) rfl (fun c53 => ?_) (fun c53 => ?_)))))
       ·
        refine g_true (j := 6) (dj := 51) (b := false) rfl rfl rfl (ev_hit hN6 rfl) (op_move (ev_hit hN6 rfl) (g_true (j := 9) (dj := 54) (b := true) rfl rfl rfl (ev_hit hN6 rfl) (op_move (ev_base hN6 rfl s6_2) (g_true (j := 9) (dj := 54) (b := true) rfl rfl rfl (ev_hit hN6 rfl) (op_move (ev_hit hN6 rfl) ?_)))))
        rcases Bool.eq_false_or_eq_true (more) with g56 | g56
        ·
         rw [g56]
         refine g_false (j := 11) (dj := 56) (b := false) rfl rfl rfl (ev_hit hN6 rfl) rfl rfl (g_true (j := 9) (dj := 54) (b := true) rfl rfl rfl (ev_hit hN6 rfl) (op_pick_t (ev_hit hN6 rfl) rfl ?_))
         refine g_true (j := 6) (dj := 51) (b := false) rfl rfl rfl (ev_hit hN6 rfl) (op_pick_t (ev_hit hN6 rfl) (ev_hit hN6 rfl) ?_)
         refine op_pick_f (ev_hit hN6 rfl) (ev_hit hN6 rfl) ?_
         refine reg_nil (hK66 _ _ (wp_cond_true (ev_hit hN6 rfl) (one_reg (op_assign rfl (reg_nil (hK65 _ _ ?_))))))
         exact hJ63 _ _ _ hN6 hd6 ⟨11, (sl_base hN6 rfl s6_8), (sl_hit hN6 rfl), (sl_hit hN6 rfl), (by unfold wantA; rw [if_pos (.inr ⟨by omega, .inl c34⟩)]), hb, (by omega), hO44, hB58, hB24⟩
        ·
         exact absurd (g56.symm.trans c34) (by decide)
       ·
        refine g_true (j := 6) (dj := 51) (b := false) rfl rfl rfl (ev_hit hN6 rfl) (op_move (ev_hit hN6 rfl) (g_false (j := 9) (dj := 54) (b := true) rfl rfl rfl (ev_hit hN6 rfl) rfl rfl (g_false (j := 9) (dj := 54) (b := true) rfl rfl rfl (ev_hit hN6 rfl) rfl rfl (g_undef (j := 11) (dj := 56) (b := false) rfl rfl rfl (ev_hit hN6 rfl) rfl ?_))))
        refine g_false (j := 9) (dj := 54) (b := true) rfl rfl rfl (ev_hit hN6 rfl) rfl rfl (g_true (j := 6) (dj := 51) (b := false) rfl rfl rfl (ev_hit hN6 rfl) (op_pick_f (ev_hit hN6 rfl) rfl ?_))
        refine op_pick_f (ev_hit hN6 rfl) (ev_hit hN6 rfl) ?_
        refine reg_nil (hK66 _ _ (wp_cond_false (ev_hit hN6 rfl) (wp_skip (hK65 _ _ ?_))))
        exact hJ63 _ _ _ hN6 hd6 ⟨0, (sl_base hN6 rfl s6_8), (sl_hit hN6 rfl), (sl_hit hN6 rfl), (by unfold wantA; rw [if_neg (fun g => g.elim (fun g => (by have := g.1; omega)) (fun g => (by have := g.1; omega)))]), hb, (by omega), hO44, hB58, hB24⟩
     ·
      rintro a63 w63 hN63 hd63 ⟨wt, s63_8, s63_11, s63_12, hwt, hb, zl_w63, hO44, hB58, hB24⟩
      have z_w63 := hb.size
      refine seq_any fun K67 hK67 => reg_split (hd := [_, _, _, _]) (tl := _) 4 mixed (by kernel_rfl) rfl rfl ?_
      refine any_env (φ := phiV [(fun _ => True), (fun uz => uz = (Value.agg #[(Value.int .i64 6), (Value.string (bs [116])), (Value.string (bs [])), (Value.slice none 0 0), (Value.slice none 0 0), (Value.slice none 0 0), v41, (Value.string (bs [])), (Value.slice none 0 0), (Value.slice none 0 0), (Value.slice (some ⟨b56, 0, none⟩) 1 1), (Value.bool false), (Value.slice none 0 0)])), (fun _ => True), (fun uz => uz = (Value.int .i64 wt))]) (G := fun w' => Bx w' b22 45 [(Value.int .i64 6), (Value.string (bs [116])), (Value.string (bs [])), (Value.slice none 0 0), (Value.slice none 0 0), (Value.slice none 0 0), v41, (Value.string (bs [])), (Value.slice none 0 0), (Value.slice none 0 0), (Value.slice (some ⟨b56, 0, none⟩) 1 1), (Value.bool false), (Value.slice none 0 0)]) [0, 2] (by kernel_rfl) (by kernel_rfl) (by kernel_rfl) (by kernel_rfl) hN63 (fun w1 w2 E h => h.keep0 E) hB24 (ObEs.pass rfl (ObEs.cons ?_ (ObEs.pass rfl (ObEs.cons ?_ (ObEs.nil))))) (by simp only [putsL_defers]) ?_
      ·
       intro eA aA wA hNA hGA hbsA hdpA
       have qA_11 := (hbsA 11 rfl).trans (sl_base hN63 rfl s63_11)
       refine op_loadA (cs := [(Value.int .i64 6), (Value.string (bs [116])), (Value.string (bs [])), (Value.slice none 0 0), (Value.slice none 0 0), (Value.slice none 0 0), v41, (Value.string (bs [])), (Value.slice none 0 0), (Value.slice none 0 0), (Value.slice (some ⟨b56, 0, none⟩) 1 1), (Value.bool false), (Value.slice none 0 0)]) agg45 rfl (ev_base hNA rfl qA_11) (fun j u hu => by rw [Nat.zero_add]; exact hGA.cell hu) ?_
       exact obE_end rfl rfl rfl
      ·
       intro eA aA wA hNA hGA hbsA hdpA
       have qA_12 := (hbsA 12 rfl).trans (sl_base hN63 rfl s63_12)
       refine op_move (ev_base hNA rfl qA_12) ?_
       exact obE_end rfl rfl rfl
      ·
       intro w68 E68 _ a68 hN68 hbs68 hdp68 o_ ho_; obtain rfl := Option.some.inj ho_
       have z_w68 := E68.size
       have hO44 := hO44.keep0 E68
       have hB58 := hB58.keep0 E68
       have hB24 := hB24.keep0 E68
       have hb := below_step0 hb E68 hb.size
       refine op_fn (vs := []) ok16 trivial (Schema_ret _) ?_
       rintro _ w70 ⟨E71, tv69, D69, rfl, hM69, hT69⟩
       have E71 := grown_of_below E71
       have z_w70 := E71.size
       have hO44 := hO44.keep0 E71
       have hB58 := hB58.keep0 E71
       have hB24 := hB24.keep0 E71
       have hb := below_step0 hb E71 hb.size
       have hR69 := hT69.1
       have hz69 := sch_sz hM69
       refine ke_end rfl (by decide) rfl hB24 ?_
       intro w72 E72 _ a72 hN72 hbs72 hdp72 o_ ho_; obtain rfl := Option.some.inj ho_
       have z_w72 := E72.size
       have hO44 := hO44.keep0 E72
       have hB58 := hB58.keep0 E72
       have hB24 := hB24.keep0 E72
       have hT69 := hT69.keep0 E72
       have hb := below_step0 hb E72 hb.size
       have q72_61 : Sl a72 61 (Value.agg #[tv69, (Value.slice none 0 0)]) := (Option.some.inj ((hdp72 0 _ 61 (by kernel_rfl) rfl rfl).1 0 rfl)).symm
       have q72_62 : Sl a72 62 (Value.agg #[(Value.int .i64 6), (Value.string (bs [116])), (Value.string (bs [])), (Value.slice none 0 0), (Value.slice none 0 0), (Value.slice none 0 0), v41, (Value.string (bs [])), (Value.slice none 0 0), (Value.slice none 0 0), (Value.slice (some ⟨b56, 0, none⟩) 1 1), (Value.bool false), (Value.slice none 0 0)]) := (hdp72 1 _ 62 (by kernel_rfl) rfl rfl).2 rfl
       refine op_fn (vs := [(Value.agg #[tv69, (Value.slice none 0 0)]), (Value.agg #[(Value.int .i64 6), (Value.string (bs [116])), (Value.string (bs [])), (Value.slice none 0 0), (Value.slice none 0 0), (Value.slice none 0 0), v41, (Value.string (bs [])), (Value.slice none 0 0), (Value.slice none 0 0), (Value.slice (some ⟨b56, 0, none⟩) 1 1), (Value.bool false), (Value.slice none 0 0)])]) ok19 ⟨(ev_base hN72 rfl q72_61), ⟨(ev_base hN72 rfl q72_62), trivial⟩⟩ (checkM hM69 (XS.mk (StF.mk 6 ([116]) [] (Value.slice none 0 0) [] (Value.slice none 0 0) [] (Value.slice none 0 0) [] v41 ([(PItm.mk ((a9 : Nat) : Int) [] [])] ++ [(PItm.mk 0 [] ([107]))]) [] (Value.slice none 0 0) [] (Value.slice none 0 0) [] (Value.slice (some ⟨b56, 0, none⟩) 1 1) ([(XE.mk 2 0 0 [] [] ([107]) (Value.slice none 0 0) [])]) false) (Value.slice none 0 0) []) (hT69.mono (by omega)) hz69.1 hz69.2 (SRd.mk (s := (XS.mk (StF.mk 6 ([116]) [] (Value.slice none 0 0) [] (Value.slice none 0 0) [] (Value.slice none 0 0) [] v41 ([(PItm.mk ((a9 : Nat) : Int) [] [])] ++ [(PItm.mk 0 [] ([107]))]) [] (Value.slice none 0 0) [] (Value.slice none 0 0) [] (Value.slice (some ⟨b56, 0, none⟩) 1 1) ([(XE.mk 2 0 0 [] [] ([107]) (Value.slice none 0 0) [])]) false) (Value.slice none 0 0) [])) ⟨(RdC.nil _ _ _ _), (RdC.nil _ _ _ _), (XsRd.nil _ _), (hO44.rdw.mono (Nat.zero_le _) (by omega)), (XsRd.nil _ _), (XsRd.nil _ _), (XsRd.lit1 (e := (XE.mk 2 0 0 [] [] ([107]) (Value.slice none 0 0) [])) hB58 (by omega) (XRd.bare rfl rfl))⟩ (RdC.nil _ _ _ _) (fun _ h => (by cases h)))) ?_
       rintro _ w73 ⟨E74, rfl⟩
       have E74 := grown_of_below E74
       have z_w73 := E74.size
       have hB24 := hB24.keep0 E74
       have hb := below_step0 hb E74 hb.size
       refine ke_end rfl (by decide) rfl hB24 ?_
       intro w75 E75 a75 hN75 hd75 hbs75 hph75
       have hd75 := hd75.trans ((by simp only [putsL_defers] : _ = _).trans hd63)
       have z_w75 := E75.size
       have hb := below_step0 hb E75 hb.size
       have s75_63 : Sl a75 63 (Value.int .i64 (checkE schT [] (XS.mk (StF.mk 6 ([116]) [] (Value.slice none 0 0) [] (Value.slice none 0 0) [] (Value.slice none 0 0) [] v41 ([(PItm.mk ((a9 : Nat) : Int) [] [])] ++ [(PItm.mk 0 [] ([107]))]) [] (Value.slice none 0 0) [] (Value.slice none 0 0) [] (Value.slice (some ⟨b56, 0, none⟩) 1 1) ([(XE.mk 2 0 0 [] [] ([107]) (Value.slice none 0 0) [])]) false) (Value.slice none 0 0) []))) := (Option.some.inj ((hph75 2 _ 63 rfl rfl).1 1 rfl)).symm
       have s75_64 : Sl a75 64 (Value.int .i64 wt) := (hph75 3 _ 64 rfl rfl).2 rfl
       refine split_end ?_
       refine from_seq (tl := [_, _]) (by decide) (by kernel_rfl) rfl ?_
       have hit : itemsA a9 n9 true = ([(PItm.mk (a9 : Int) [] [])] ++ [(PItm.mk 0 [] [107])]) := by unfold itemsA; rw [if_pos (show a9 = 1 by omega)]; rfl
       have hck : checkE schT [] (XS.mk (StF.mk 6 ([116]) [] (Value.slice none 0 0) [] (Value.slice none 0 0) [] (Value.slice none 0 0) [] v41 ([(PItm.mk ((a9 : Nat) : Int) [] [])] ++ [(PItm.mk 0 [] ([107]))]) [] (Value.slice none 0 0) [] (Value.slice none 0 0) [] (Value.slice (some ⟨b56, 0, none⟩) 1 1) ([(XE.mk 2 0 0 [] [] ([107]) (Value.slice none 0 0) [])]) false) (Value.slice none 0 0) []) = wantA a9 n9 true true := by have h9 := @aggs_all v41 (Value.slice (some ⟨b56, 0, none⟩) 1 1) (Value.slice none 0 0) (.slice none 0 0) n9 a9 hn9 ha9 true true; rw [hit] at h9; exact h9
       refine op_eql (ev_base hN75 rfl s75_63) (ev_base hN75 rfl s75_64) (fun c65 => ?_) (fun c65 => ?_)
       ·
        refine op_assign (ev_hit hN75 rfl) (reg_nil (hK67 _ _ (wp_ret ?_)))
        refine ret1 rfl hd75 (ev_hit hN75 rfl) ⟨_, rfl, ?_⟩
        exact ⟨hb, rfl⟩
       ·
        rw [hwt, c34, c41] at c65; exact absurd hck c65
    ·
     refine wp_skip (hK51 _ _ (seq_join2 (N := 66) (fun az_ w' => ∃ (wt : Int), (az_.tmps.getD 8 undef = (Value.bool false)) ∧ (az_.tmps.getD 11 undef = (ptr b22 0)) ∧ (az_.tmps.getD 12 undef = (Value.int .i64 wt)) ∧ (wt = wantA a9 n9 more order) ∧ (Below w.heap.size w w') ∧ (w49.heap.size ≤ w'.heap.size) ∧ (Own w' w.heap.size 63 3 v41 (1 + 1) ((([(PItm.mk ((a9 : Nat) : Int) [] [])] ++ [(PItm.mk 0 [] ([107]))])).flatMap cellsI)) ∧ (Bx w' b22 45 [(Value.int .i64 6), (Value.string (bs [116])), (Value.string (bs [])), (Value.slice none 0 0), (Value.slice none 0 0), (Value.slice none 0 0), v41, (Value.string (bs [])), (Value.slice none 0 0), (Value.slice none 0 0), (Value.slice none 0 0), (Value.bool false), (Value.slice none 0 0)])) (fun hJ76 => ?_) ?_))
     ·
      refine seq_any fun K77 hK77 => ?_
      refine one_reg (op_assign rfl (reg_nil (hK77 _ _ (seq_any fun K78 hK78 => seq_any fun K79 hK79 => ?_))))
      refine one_reg (op_move (ev_base hN6 rfl s6_10) (op_eql (ev_hit hN6 rfl) rfl (fun c46 => ?_) (fun c46 => ?_)))
      ·
       refine op_move (ev_hit hN6 rfl) (g_true (j := 2) (dj := 47) (b := true) rfl rfl rfl (ev_hit hN6 rfl) (op_move (ev_base hN6 rfl s6_9) (g_true (j := 2) (dj := 47) (b := true) rfl rfl rfl (ev_hit hN6 rfl) (op_seql (ev_hit hN6 rfl) rfl (fun c49 => ?_) (fun c49 => ?_)))))
       ·
        refine op_pick_t (ev_hit hN6 rfl) (ev_hit hN6 rfl) ?_
        refine op_move (ev_hit hN6 rfl) (g_false (j := 6) (dj := 51) (b := false) rfl rfl rfl (ev_hit hN6 rfl) rfl rfl (g_false (j := 6) (dj := 51) (b := false) rfl rfl rfl (ev_hit hN6 rfl) rfl rfl (g_false (j := 6) (dj := 51) (b := false) rfl rfl rfl (ev_hit hN6 rfl) rfl rfl (g_undef (j := 9) (dj := 54) (b := true) rfl rfl rfl (ev_hit hN6 rfl) rfl ?_))))
        refine g_undef (j := 9) (dj := 54) (b := true) rfl rfl rfl (ev_hit hN6 rfl) rfl ?_
        refine g_undef (j := 11) (dj := 56) (b := false) rfl rfl rfl (ev_hit hN6 rfl) rfl ?_
        refine g_undef (j := 9) (dj := 54) (b := true) rfl rfl rfl (ev_hit hN6 rfl) rfl ?_
        refine g_false (j := 6) (dj := 51) (b := false) rfl rfl rfl (ev_hit hN6 rfl) rfl rfl (op_pick_t (ev_hit hN6 rfl) rfl ?_)
        refine reg_nil (hK79 _ _ (wp_cond_true (ev_hit hN6 rfl) (one_reg (op_assign rfl (reg_nil (hK78 _ _ ?_))))))
        exact hJ76 _ _ _ hN6 hd6 ⟨11, (sl_base hN6 rfl s6_8), (sl_hit hN6 rfl), (sl_hit hN6 rfl), (by unfold wantA; rw [if_pos (.inl ⟨by omega, c49⟩)]), hb, (by omega), hO44, hB24⟩
       ·
        refine op_pick_t (ev_hit hN6 rfl) (ev_hit hN6 rfl) ?_
        refine op_move (ev_hit hN6 rfl) (g_true (j := 6) (dj := 51) (b := false) rfl rfl rfl (ev_hit hN6 rfl) (op_move (ev_base hN6 rfl s6_10) (g_true (j := 6) (dj := 51) (b := false) rfl rfl rfl (ev_hit hN6 rfl) (op_neq (ev_hit hN6 rfl) rfl (fun c53 => ?_) (fun c53 => ?_)))))
        ·
         refine g_true (j := 6) (dj := 51) (b := false) rfl rfl rfl (ev_hit hN6 rfl) (op_move (ev_hit hN6 rfl) (g_true (j := 9) (dj := 54) (b := true) rfl rfl rfl (ev_hit hN6 rfl) (op_move (ev_base hN6 rfl s6_2) (g_true (j := 9) (dj := 54) (b := true) rfl rfl rfl (ev_hit hN6 rfl) (op_move (ev_hit hN6 rfl) ?_)))))
         rcases Bool.eq_false_or_eq_true (more) with g56 | g56
         ·
          rw [g56]
          refine g_false (j := 11) (dj := 56) (b := false) rfl rfl rfl (ev_hit hN6 rfl) rfl rfl (g_true (j := 9) (dj := 54) (b := true) rfl rfl rfl (ev_hit hN6 rfl) (op_pick_t (ev_hit hN6 rfl) rfl ?_))
          refine g_true (j := 6) (dj := 51) (b := false) rfl rfl rfl (ev_hit hN6 rfl) (op_pick_t (ev_hit hN6 rfl) (ev_hit hN6 rfl) ?_)
          refine op_pick_f (ev_hit hN6 rfl) (ev_hit hN6 rfl) ?_
          refine reg_nil (hK79 _ _ (wp_cond_true (ev_hit hN6 rfl) (one_reg (op_assign rfl (reg_nil (hK78 _ _ ?_))))))
          exact hJ76 _ _ _ hN6 hd6 ⟨11, (sl_base hN6 rfl s6_8), (sl_hit hN6 rfl), (sl_hit hN6 rfl), (by unfold wantA; rw [if_pos (.inr ⟨by omega, .inl c34⟩)]), hb, (by omega), hO44, hB24⟩
         ·
          exact absurd (g56.symm.trans c34) (by decide)
        ·
         refine g_true (j := 6) (dj := 51) (b := false) rfl rfl rfl (ev_hit hN6 rfl) (op_move (ev_hit hN6 rfl) (g_false (j := 9) (dj := 54) (b := true) rfl rfl rfl (ev_hit hN6 rfl) rfl rfl (g_false (j := 9) (dj := 54) (b := true) rfl rfl rfl (ev_hit hN6 rfl) rfl rfl (g_undef (j := 11) (dj := 56) (b := false) rfl rfl rfl (ev_hit hN6 rfl) rfl ?_))))
         refine g_false (j := 9) (dj := 54) (b := true) rfl rfl rfl (ev_hit hN6 rfl) rfl rfl (g_true (j := 6) (dj := 51) (b := false) rfl rfl rfl (ev_hit hN6 rfl) (op_pick_f (ev_hit hN6 rfl) rfl ?_))
         refine op_pick_f (ev_hit hN6 rfl) (ev_hit hN6 rfl) ?_
         refine reg_nil (hK79 _ _ (wp_cond_false (ev_hit hN6 rfl) (wp_skip (hK78 _ _ ?_))))
         exact hJ76 _ _ _ hN6 hd6 ⟨0, (sl_base hN6 rfl s6_8), (sl_hit hN6 rfl), (sl_hit hN6 rfl), (by unfold wantA; rw [if_neg (fun g => g.elim (fun g => c49 g.2) (fun g => (by have := g.1; omega)))]), hb, (by omega), hO44, hB24⟩
      ·
       refine op_move (ev_hit hN6 rfl) (g_false (j := 2) (dj := 47) (b := true) rfl rfl rfl (ev_hit hN6 rfl) rfl rfl (g_false (j := 2) (dj := 47) (b := true) rfl rfl rfl (ev_hit hN6 rfl) rfl rfl (op_pick_f (ev_hit hN6 rfl) rfl ?_)))
       refine op_move (ev_hit hN6 rfl) (g_true (j := 6) (dj := 51) (b := false) rfl rfl rfl (ev_hit hN6 rfl) (op_move (ev_base hN6 rfl s6_10) (g_true (j := 6) (dj := 51) (b := false) rfl rfl rfl (ev_hit hN6 rfl) (op_neq (ev_hit hN6 rfl) rfl (fun c53 => ?_) (fun c53 => ?_)))))
       ·
        refine g_true (j := 6) (dj := 51) (b := false) rfl rfl rfl (ev_hit hN6 rfl) (op_move (ev_hit hN6 rfl) (g_true (j := 9) (dj := 54) (b := true) rfl rfl rfl (ev_hit hN6 rfl) (op_move (ev_base hN6 rfl s6_2) (g_true (j := 9) (dj := 54) (b := true) rfl rfl rfl (ev_hit hN6 rfl) (op_move (ev_hit hN6 rfl) ?_)))))
        rcases Bool.eq_false_or_eq_true (more) with g56 | g56
        ·
         rw [g56]
         refine g_false (j := 11) (dj := 56) (b := false) rfl rfl rfl (ev_hit hN6 rfl) rfl rfl (g_true (j := 9) (dj := 54) (b := true) rfl rfl rfl (ev_hit hN6 rfl) (op_pick_t (ev_hit hN6 rfl) rfl ?_))
         refine g_true (j := 6) (dj := 51) (b := false) rfl rfl rfl (ev_hit hN6 rfl) (op_pick_t (ev_hit hN6 rfl) (ev_hit hN6 rfl) ?_)
         refine op_pick_f (ev_hit hN6 rfl) (ev_hit hN6 rfl) ?_
         refine reg_nil (hK79 _ _ (wp_cond_true (ev_hit hN6 rfl) (one_reg (op_assign rfl (reg_nil (hK78 _ _ ?_))))))
         exact hJ76 _ _ _ hN6 hd6 ⟨11, (sl_base hN6 rfl s6_8), (sl_hit hN6 rfl), (sl_hit hN6 rfl), (by unfold wantA; rw [if_pos (.inr ⟨by omega, .inl c34⟩)]), hb, (by omega), hO44, hB24⟩
        ·
         exact absurd (g56.symm.trans c34) (by decide)
       ·
        refine g_true (j := 6) (dj := 51) (b := false) rfl rfl rfl (ev_hit hN6 rfl) (op_move (ev_hit hN6 rfl) (g_false (j := 9) (dj := 54) (b := true) rfl rfl rfl (ev_hit hN6 rfl) rfl rfl (g_false (j := 9) (dj := 54) (b := true) rfl rfl rfl (ev_hit hN6 rfl) rfl rfl (g_undef (j := 11) (dj := 56) (b := false) rfl rfl rfl (ev_hit hN6 rfl) rfl ?_))))
        refine g_false (j := 9) (dj := 54) (b := true) rfl rfl rfl (ev_hit hN6 rfl) rfl rfl (g_true (j := 6) (dj := 51) (b := false) rfl rfl rfl (ev_hit hN6 rfl) (op_pick_f (ev_hit hN6 rfl) rfl ?_))
        refine op_pick_f (ev_hit hN6 rfl) (ev_hit hN6 rfl) ?_
        refine reg_nil (hK79 _ _ (wp_cond_false (ev_hit hN6 rfl) (wp_skip (hK78 _ _ ?_))))
        exact hJ76 _ _ _ hN6 hd6 ⟨0, (sl_base hN6 rfl s6_8), (sl_hit hN6 rfl), (sl_hit hN6 rfl), (by unfold wantA; rw [if_neg (fun g => g.elim (fun g => (by have := g.1; omega)) (fun g => (by have := g.1; omega)))]), hb, (by omega), hO44, hB24⟩
     ·
      rintro a76 w76 hN76 hd76 ⟨wt, s76_8, s76_11, s76_12, hwt, hb, zl_w76, hO44, hB24⟩
      have z_w76 := hb.size
      refine seq_any fun K80 hK80 => reg_split (hd := [_, _, _, _]) (tl := _) 4 mixed (by kernel_rfl) rfl rfl ?_
      refine any_env (φ := phiV [(fun _ => True), (fun uz => uz = (Value.agg #[(Value.int .i64 6), (Value.string (bs [116])), (Value.string (bs [])), (Value.slice none 0 0), (Value.slice none 0 0), (Value.slice none 0 0), v41, (Value.string (bs [])), (Value.slice none 0 0), (Value.slice none 0 0), (Value.slice none 0 0), (Value.bool false), (Value.slice none 0 0)])), (fun _ => True), (fun uz => uz = (Value.int .i64 wt))]) (G := fun w' => Bx w' b22 45 [(Value.int .i64 6), (Value.string (bs [116])), (Value.string (bs [])), (Value.slice none 0 0), (Value.slice none 0 0), (Value.slice none 0 0), v41, (Value.string (bs [])), (Value.slice none 0 0), (Value.slice none 0 0), (Value.slice none 0 0), (Value.bool false), (Value.slice none 0 0)]) [0, 2] (by kernel_rfl) (by kernel_rfl) (by kernel_rfl) (by kernel_rfl) hN76 (fun w1 w2 E h => h.keep0 E) hB24 (ObEs.pass rfl (ObEs.cons ?_ (ObEs.pass rfl (ObEs.cons ?_ (ObEs.nil))))) (by simp only [putsL_defers]) ?_
      ·
       intro eA aA wA hNA hGA hbsA hdpA
       have qA_11 := (hbsA 11 rfl).trans (sl_base hN76 rfl s76_11)
       refine op_loadA (cs := [(Value.int .i64 6), (Value.string (bs [116])), (Value.string (bs [])), (Value.slice none 0 0), (Value.slice none 0 0), (Value.slice none 0 0), v41, (Value.string (bs [])), (Value.slice none 0 0), (Value.slice none 0 0), (Value.slice none 0 0), (Value.bool false), (Value.slice none 0 0)]) agg45 rfl (ev_base hNA rfl qA_11) (fun j u hu => by rw [Nat.zero_add]; exact hGA.cell hu) ?_
       exact obE_end rfl rfl rfl
      ·
       intro eA aA wA hNA hGA hbsA hdpA
       have qA_12 := (hbsA 12 rfl).trans (sl_base hN76 rfl s76_12)
       refine op_move (ev_base hNA rfl qA_12) ?_
       exact obE_end rfl rfl rfl
      ·
       intro w81 E81 _ a81 hN81 hbs81 hdp81 o_ ho_; obtain rfl := Option.some.inj ho_
       have z_w81 := E81.size
       have hO44 := hO44.keep0 E81
       have hB24 := hB24.keep0 E81
       have hb := below_step0 hb E81 hb.size
       refine op_fn (vs := []) ok16 trivial (Schema_ret _) ?_
       rintro _ w83 ⟨E84, tv82, D82, rfl, hM82, hT82⟩
       have E84 := grown_of_below E84
       have z_w83 := E84.size
       have hO44 := hO44.keep0 E84
       have hB24 := hB24.keep0 E84
       have hb := below_step0 hb E84 hb.size
       have hR82 := hT82.1
       have hz82 := sch_sz hM82
       refine ke_end rfl (by decide) rfl hB24 ?_
       intro w85 E85 _ a85 hN85 hbs85 hdp85 o_ ho_; obtain rfl := Option.some.inj ho_
       have z_w85 := E85.size
       have hO44 := hO44.keep0 E85
       have hB24 := hB24.keep0 E85
       have hT82 := hT82.keep0 E85
       have hb := below_step0 hb E85 hb.size
       have q85_61 : Sl a85 61 (Value.agg #[tv82, (Value.slice none 0 0)]) := (Option.some.inj ((hdp85 0 _ 61 (by kernel_rfl) rfl rfl).1 0 rfl)).symm
       have q85_62 : Sl a85 62 (Value.agg #[(Value.int .i64 6), (Value.string (bs [116])), (Value.string (bs [])), (Value.slice none 0 0), (Value.slice none 0 0), (Value.slice none 0 0), v41, (Value.string (bs [])), (Value.slice none 0 0), (Value.slice none 0 0), (Value.slice none 0 0), (Value.bool false), (Value.slice none 0 0)]) := (hdp85 1 _ 62 (by kernel_rfl) rfl rfl).2 rfl
       refine op_fn (vs := [(Value.agg #[tv82, (Value.slice none 0 0)]), (Value.agg #[(Value.int .i64 6), (Value.string (bs [116])), (Value.string (bs [])), (Value.slice none 0 0), (Value.slice none 0 0), (Value.slice none 0 0), v41, (Value.string (bs [])), (Value.slice none 0 0), (Value.slice none 0 0), (Value.slice none 0 0), (Value.bool false), (Value.slice none 0 0)])]) ok19 ⟨(ev_base hN85 rfl q85_61), ⟨(ev_base hN85 rfl q85_62), trivial⟩⟩ (checkM hM82 (XS.mk (StF.mk 6 ([116]) [] (Value.slice none 0 0) [] (Value.slice none 0 0) [] (Value.slice none 0 0) [] v41 ([(PItm.mk ((a9 : Nat) : Int) [] [])] ++ [(PItm.mk 0 [] ([107]))]) [] (Value.slice none 0 0) [] (Value.slice none 0 0) [] (Value.slice none 0 0) [] false) (Value.slice none 0 0) []) (hT82.mono (by omega)) hz82.1 hz82.2 (SRd.mk (s := (XS.mk (StF.mk 6 ([116]) [] (Value.slice none 0 0) [] (Value.slice none 0 0) [] (Value.slice none 0 0) [] v41 ([(PItm.mk ((a9 : Nat) : Int) [] [])] ++ [(PItm.mk 0 [] ([107]))]) [] (Value.slice none 0 0) [] (Value.slice none 0 0) [] (Value.slice none 0 0) [] false) (Value.slice none 0 0) [])) ⟨(RdC.nil _ _ _ _), (RdC.nil _ _ _ _), (XsRd.nil _ _), (hO44.rdw.mono (Nat.zero_le _) (by omega)), (XsRd.nil _ _), (XsRd.nil _ _), (XsRd.nil _ _)⟩ (RdC.nil _ _ _ _) (fun _ h => (by cases h)))) ?_
       rintro _ w86 ⟨E87, rfl⟩
       have E87 := grown_of_below E87
       have z_w86 := E87.size
       have hB24 := hB24.keep0 E87
       have hb := below_step0 hb E87 hb.size
       refine ke_end rfl (by decide) rfl hB24 ?_
       intro w88 E88 a88 hN88 hd88 hbs88 hph88
       have hd88 := hd88.trans ((by simp only [putsL_defers] : _ = _).trans hd76)
       have z_w88 := E88.size
       have hb := below_step0 hb E88 hb.size
       have s88_63 : Sl a88 63 (Value.int .i64 (checkE schT [] (XS.mk (StF.mk 6 ([116]) [] (Value.slice none 0 0) [] (Value.slice none 0 0) [] (Value.slice none 0 0) [] v41 ([(PItm.mk ((a9 : Nat) : Int) [] [])] ++ [(PItm.mk 0 [] ([107]))]) [] (Value.slice none 0 0) [] (Value.slice none 0 0) [] (Value.slice none 0 0) [] false) (Value.slice none 0 0) []))) := (Option.some.inj ((hph88 2 _ 63 rfl rfl).1 1 rfl)).symm
       have s88_64 : Sl a88 64 (Value.int .i64 wt) := (hph88 3 _ 64 rfl rfl).2 rfl
       refine split_end ?_
       refine from_seq (tl := [_, _]) (by decide) (by kernel_rfl) rfl ?_
       have hit : itemsA a9 n9 true = ([(PItm.mk (a9 : Int) [] [])] ++ [(PItm.mk 0 [] [107])]) := by unfold itemsA; rw [if_pos (show a9 = 1 by omega)]; rfl
       have hck : checkE schT [] (XS.mk (StF.mk 6 ([116]) [] (Value.slice none 0 0) [] (Value.slice none 0 0) [] (Value.slice none 0 0) [] v41 ([(PItm.mk ((a9 : Nat) : Int) [] [])] ++ [(PItm.mk 0 [] ([107]))]) [] (Value.slice none 0 0) [] (Value.slice none 0 0) [] (Value.slice none 0 0) [] false) (Value.slice none 0 0) []) = wantA a9 n9 true false := by have h9 := @aggs_all v41 (Value.slice none 0 0) (Value.slice none 0 0) (.slice none 0 0) n9 a9 hn9 ha9 true false; rw [hit] at h9; exact h9
       refine op_eql (ev_base hN88 rfl s88_63) (ev_base hN88 rfl s88_64) (fun c65 => ?_) (fun c65 => ?_)
       ·
        refine op_assign (ev_hit hN88 rfl) (reg_nil (hK80 _ _ (wp_ret ?_)))
        refine ret1 rfl hd88 (ev_hit hN88 rfl) ⟨_, rfl, ?_⟩
        exact ⟨hb, rfl⟩
       ·
        rw [hwt, c34, c41] at c65; exact absurd hck c65
   ·
    refine wp_skip (hK35 _ _ (seq_any fun K89 hK89 => seq_any fun K90 hK90 => ?_))
    refine one_reg (op_move (ev_base hN6 rfl s6_3) (reg_nil (hK90 _ _ (wp_cond_split (ev_hit hN6 rfl) (fun c41 => ?_) (fun c41 => ?_)))))
    ·
     refine one_reg (op_fn (vs := [(Value.string (bs [])), (Value.string (bs [107]))]) ok25 ⟨rfl, ⟨rfl, trivial⟩⟩ (col_ret [] ([107]) _) ?_)
     rintro _ w91 ⟨E92, rfl⟩
     have E92 := grown_of_below E92
     have z_w91 := E92.size
     have hB24 := hB24.keep0 E92
     have hB20 := hB20.keep0 E92
     have hb := below_step0 hb E92 hb.size
     refine op_bslice (e := 28) (pv := [(0, (Value.agg #[(Value.int .i64 2), (Value.int .i64 0), (Value.int .i64 0), (Value.string (bs [])), (Value.string (bs [])), (Value.string (bs [107])), (Value.slice none 0 0)]))]) (cs := [(Value.int .i64 2), (Value.int .i64 0), (Value.int .i64 0), (Value.string (bs [])), (Value.string (bs [])), (Value.string (bs [107])), (Value.slice none 0 0)]) ⟨rfl, (ev_hit hN6 rfl), trivial⟩ (by kernel_rfl) ?_
     intro w93 b94 lo_b94 hi_b94 hB96 E95
     have z_w93 := E95.size
     have hB24 := hB24.keep0 E95
     have hB20 := hB20.keep0 E95
     have hb := below_step0 hb E95 hb.size
     refine op_field fld45_10 (ev_hit hN6 rfl) ?_
     have hB24_old := hB24
     refine op_store (vs := [(Value.slice (some ⟨b94, 0, none⟩) 1 1)]) (cs' := [(Value.int .i64 6), (Value.string (bs [116])), (Value.string (bs [])), (Value.slice none 0 0), (Value.slice none 0 0), (Value.slice none 0 0), (Value.slice (some ⟨b18, 0, none⟩) 1 1), (Value.string (bs [])), (Value.slice none 0 0), (Value.slice none 0 0), (Value.slice (some ⟨b94, 0, none⟩) 1 1), (Value.bool false), (Value.slice none 0 0)]) size26 (ev_hit hN6 rfl) (ev_hit hN6 rfl) rfl rfl rfl hB24 (Nat.le_of_ble_eq_true rfl) rfl ?_
     intro w99 hB24 E100
     have z_w99 := E100.size
     have hB20 := hB20.keep E100 (fun hh => hB20.ne hB24_old (by decide) (Option.some.inj hh))
     have hB96 := hB96.keep E100 (fun hh => hB96.ne hB24_old (by decide) (Option.some.inj hh))
     have hb := below_step1 hb E100 hb.size (by omega)
     refine reg_nil (hK89 _ _ (seq_join2 (N := 66) (fun az_ w' => ∃ (wt : Int), (az_.tmps.getD 8 undef = (Value.bool false)) ∧ (az_.tmps.getD 11 undef = (ptr b22 0)) ∧ (az_.tmps.getD 12 undef = (Value.int .i64 wt)) ∧ (wt = wantA a9 n9 more order) ∧ (Below w.heap.size w w') ∧ (w99.heap.size ≤ w'.heap.size) ∧ (Bx w' b18 63 [(Value.int .i64 ((a9 : Nat) : Int)), (Value.string (bs [])), (Value.string (bs []))]) ∧ (Bx w' b94 28 [(Value.int .i64 2), (Value.int .i64 0), (Value.int .i64 0), (Value.string (bs [])), (Value.string (bs [])), (Value.string (bs [107])), (Value.slice none 0 0)]) ∧ (Bx w' b22 45 [(Value.int .i64 6), (Value.string (bs [116])), (Value.string (bs [])), (Value.slice none 0 0), (Value.slice none 0 0), (Value.slice none 0 0), (Value.slice (some ⟨b18, 0, none⟩) 1 1), (Value.string (bs [])), (Value.slice none 0 0), (Value.slice none 0 0), (Value.slice (some ⟨b94, 0, none⟩) 1 1), (Value.bool false), (Value.slice none 0 0)])) (fun hJ101 => ?_) ?_))
     ·
      refine seq_any fun K102 hK102 => ?_
      refine one_reg (op_assign rfl (reg_nil (hK102 _ _ (seq_any fun K103 hK103 => seq_any fun K104 hK104 => ?_))))
      refine one_reg (op_move (ev_base hN6 rfl s6_10) (op_eql (ev_hit hN6 rfl) rfl (fun c46 => ?_) (fun c46 => ?_)))
      ·
       refine op_move (ev_hit hN6 rfl) (g_true (j := 2) (dj := 47) (b := true) rfl rfl rfl (ev_hit hN6 rfl) (op_move (ev_base hN6 rfl s6_9) (g_true (j := 2) (dj := 47) (b := true) rfl rfl rfl (ev_hit hN6 rfl) (op_seql (ev_hit hN6 rfl) rfl (fun c49 => ?_) (fun c49 => ?_)))))
       ·
        refine op_pick_t (ev_hit hN6 rfl) (ev_hit hN6 rfl) ?_
        refine op_move (ev_hit hN6 rfl) (g_false (j := 6) (dj := 51) (b := false) rfl rfl rfl (ev_hit hN6 rfl) rfl rfl (g_false (j := 6) (dj := 51) (b := false) rfl rfl rfl (ev_hit hN6 rfl) rfl rfl (g_false (j := 6) (dj := 51) (b := false) rfl rfl rfl (ev_hit hN6 rfl) rfl rfl (g_undef (j := 9) (dj := 54) (b := true) rfl rfl rfl (ev_hit hN6 rfl) rfl ?_))))
        refine g_undef (j := 9) (dj := 54) (b := true) rfl rfl rfl (ev_hit hN6 rfl) rfl ?_
        refine g_undef (j := 11) (dj := 56) (b := false) rfl rfl rfl (ev_hit hN6 rfl) rfl ?_
        refine g_undef (j := 9) (dj := 54) (b := true) rfl rfl rfl (ev_hit hN6 rfl) rfl ?_
        refine g_false (j := 6) (dj := 51) (b := false) rfl rfl rfl (ev_hit hN6 rfl) rfl rfl (op_pick_t (ev_hit hN6 rfl) rfl ?_)
        refine reg_nil (hK104 _ _ (wp_cond_true (ev_hit hN6 rfl) (one_reg (op_assign rfl (reg_nil (hK103 _ _ ?_))))))
        exact hJ101 _ _ _ hN6 hd6 ⟨11, (sl_base hN6 rfl s6_8), (sl_hit hN6 rfl), (sl_hit hN6 rfl), (by unfold wantA; rw [if_pos (.inl ⟨by omega, c49⟩)]), hb, (by omega), hB20, hB96, hB24⟩
       ·
        refine op_pick_t (ev_hit hN6 rfl) (ev_hit hN6 rfl) ?_
        refine op_move (ev_hit hN6 rfl) (g_true (j := 6) (dj := 51) (b := false) rfl rfl rfl (ev_hit hN6 rfl) (op_move (ev_base hN6 rfl s6_10) (g_true (j := 6) (dj := 51) (b := false) rfl rfl rfl (ev_hit hN6 rfl) (op_neq (ev_hit hN6 rfl) rfl (fun c53 => ?_) (fun c53 => ?_)))))
        ·
         refine g_true (j := 6) (dj := 51) (b := false) rfl rfl rfl (ev_hit hN6 rfl) (op_move (ev_hit hN6 rfl) (g_true (j := 9) (dj := 54) (b := true) rfl rfl rfl (ev_hit hN6 rfl) (op_move (ev_base hN6 rfl s6_2) (g_true (j := 9) (dj := 54) (b := true) rfl rfl rfl (ev_hit hN6 rfl) (op_move (ev_hit hN6 rfl) ?_)))))
         rcases Bool.eq_false_or_eq_true (more) with g56 | g56
         ·
          exact absurd (g56.symm.trans c34) (by decide)
         ·
          rw [g56]
          refine g_true (j := 11) (dj := 56) (b := false) rfl rfl rfl (ev_hit hN6 rfl) (op_move (ev_base hN6 rfl s6_3) (g_true (j := 9) (dj := 54) (b := true) rfl rfl rfl (ev_hit hN6 rfl) (op_pick_f (ev_hit hN6 rfl) (ev_hit hN6 rfl) ?_)))
          refine g_true (j := 6) (dj := 51) (b := false) rfl rfl rfl (ev_hit hN6 rfl) (op_pick_t (ev_hit hN6 rfl) (ev_hit hN6 rfl) ?_)
          refine op_pick_f (ev_hit hN6 rfl) (ev_hit hN6 rfl) ?_
          refine reg_nil (hK104 _ _ (wp_cond_split (ev_hit hN6 rfl) (fun c60 => ?_) (fun c60 => ?_)))
          ·
           refine one_reg (op_assign rfl (reg_nil (hK103 _ _ ?_)))
           exact hJ101 _ _ _ hN6 hd6 ⟨11, (sl_base hN6 rfl s6_8), (sl_hit hN6 rfl), (sl_hit hN6 rfl), (by unfold wantA; rw [if_pos (.inr ⟨by omega, .inr c41⟩)]), hb, (by omega), hB20, hB96, hB24⟩
          ·
           exact absurd (c60.symm.trans c41) (by decide)
        ·
         refine g_true (j := 6) (dj := 51) (b := false) rfl rfl rfl (ev_hit hN6 rfl) (op_move (ev_hit hN6 rfl) (g_false (j := 9) (dj := 54) (b := true) rfl rfl rfl (ev_hit hN6 rfl) rfl rfl (g_false (j := 9) (dj := 54) (b := true) rfl rfl rfl (ev_hit hN6 rfl) rfl rfl (g_undef (j := 11) (dj := 56) (b := false) rfl rfl rfl (ev_hit hN6 rfl) rfl ?_))))
         refine g_false (j := 9) (dj := 54) (b := true) rfl rfl rfl (ev_hit hN6 rfl) rfl rfl (g_true (j := 6) (dj := 51) (b := false) rfl rfl rfl (ev_hit hN6 rfl) (op_pick_f (ev_hit hN6 rfl) rfl ?_))
         refine op_pick_f (ev_hit hN6 rfl) (ev_hit hN6 rfl) ?_
         refine reg_nil (hK104 _ _ (wp_cond_false (ev_hit hN6 rfl) (wp_skip (hK103 _ _ ?_))))
         exact hJ101 _ _ _ hN6 hd6 ⟨0, (sl_base hN6 rfl s6_8), (sl_hit hN6 rfl), (sl_hit hN6 rfl), (by unfold wantA; rw [if_neg (fun g => g.elim (fun g => c49 g.2) (fun g => (by have := g.1; omega)))]), hb, (by omega), hB20, hB96, hB24⟩
      ·
       refine op_move (ev_hit hN6 rfl) (g_false (j := 2) (dj := 47) (b := true) rfl rfl rfl (ev_hit hN6 rfl) rfl rfl (g_false (j := 2) (dj := 47) (b := true) rfl rfl rfl (ev_hit hN6 rfl) rfl rfl (op_pick_f (ev_hit hN6 rfl) rfl ?_)))
       refine op_move (ev_hit hN6 rfl) (g_true (j := 6) (dj := 51) (b := false) rfl rfl rfl (ev_hit hN6 rfl) (op_move (ev_base hN6 rfl s6_10) (g_true (j := 6) (dj := 51) (b := false) rfl rfl rfl (ev_hit hN6 rfl) (op_neq (ev_hit hN6 rfl) rfl (fun c53 => ?_) (fun c53 => ?_)))))
       ·
        refine g_true (j := 6) (dj := 51) (b := false) rfl rfl rfl (ev_hit hN6 rfl) (op_move (ev_hit hN6 rfl) (g_true (j := 9) (dj := 54) (b := true) rfl rfl rfl (ev_hit hN6 rfl) (op_move (ev_base hN6 rfl s6_2) (g_true (j := 9) (dj := 54) (b := true) rfl rfl rfl (ev_hit hN6 rfl) (op_move (ev_hit hN6 rfl) ?_)))))
        rcases Bool.eq_false_or_eq_true (more) with g56 | g56
        ·
         exact absurd (g56.symm.trans c34) (by decide)
        ·
         rw [g56]
         refine g_true (j := 11) (dj := 56) (b := false) rfl rfl rfl (ev_hit hN6 rfl) (op_move (ev_base hN6 rfl s6_3) (g_true (j := 9) (dj := 54) (b := true) rfl rfl rfl (ev_hit hN6 rfl) (op_pick_f (ev_hit hN6 rfl) (ev_hit hN6 rfl) ?_)))
         refine g_true (j := 6) (dj := 51) (b := false) rfl rfl rfl (ev_hit hN6 rfl) (op_pick_t (ev_hit hN6 rfl) (ev_hit hN6 rfl) ?_)
         refine op_pick_f (ev_hit hN6 rfl) (ev_hit hN6 rfl) ?_
         refine reg_nil (hK104 _ _ (wp_cond_split (ev_hit hN6 rfl) (fun c60 => ?_) (fun c60 => ?_)))
         ·
          refine one_reg (op_assign rfl (reg_nil (hK103 _ _ ?_)))
          exact hJ101 _ _ _ hN6 hd6 ⟨11, (sl_base hN6 rfl s6_8), (sl_hit hN6 rfl), (sl_hit hN6 rfl), (by unfold wantA; rw [if_pos (.inr ⟨by omega, .inr c41⟩)]), hb, (by omega), hB20, hB96, hB24⟩
         ·
          exact absurd (c60.symm.trans c41) (by decide)
       ·
        refine g_true (j := 6) (dj := 51) (b := false) rfl rfl rfl (ev_hit hN6 rfl) (op_move (ev_hit hN6 rfl) (g_false (j := 9) (dj := 54) (b := true) rfl rfl rfl (ev_hit hN6 rfl) rfl rfl (g_false (j := 9) (dj := 54) (b := true) rfl rfl rfl (ev_hit hN6 rfl) rfl rfl (g_undef (j := 11) (dj := 56) (b := false) rfl rfl rfl (ev_hit hN6 rfl) rfl ?_))))
        refine g_false (j := 9) (dj := 54) (b := true) rfl rfl rfl (ev_hit hN6 rfl) rfl rfl (g_true (j := 6) (dj := 51) (b := false) rfl rfl rfl (ev_hit hN6 rfl) (op_pick_f (ev_hit hN6 rfl) rfl ?_))
        refine op_pick_f (ev_hit hN6 rfl) (ev_hit hN6 rfl) ?_
        refine reg_nil (hK104 _ _ (wp_cond_false (ev_hit hN6 rfl) (wp_skip (hK103 _ _ ?_))))
        exact hJ101 _ _ _ hN6 hd6 ⟨0, (sl_base hN6 rfl s6_8), (sl_hit hN6 rfl), (sl_hit hN6 rfl), (by unfold wantA; rw [if_neg (fun g => g.elim (fun g => (by have := g.1; omega)) (fun g => (by have := g.1; omega)))]), hb, (by omega), hB20, hB96, hB24⟩
     ·
      rintro a101 w101 hN101 hd101 ⟨wt, s101_8, s101_11, s101_12, hwt, hb, zl_w101, hB20, hB96, hB24⟩
      have z_w101 := hb.size
      refine seq_any fun K105 hK105 => reg_split (hd := [_, _, _, _]) (tl := _) 4 mixed (by kernel_rfl) rfl rfl ?_
      refine any_env (φ := phiV [(fun _ => True), (fun uz => uz = (Value.agg #[(Value.int .i64 6), (Value.string (bs [116])), (Value.string (bs [])), (Value.slice none 0 0), (Value.slice none 0 0), (Value.slice none 0 0), (Value.slice (some ⟨b18, 0, none⟩) 1 1), (Value.string (bs [])), (Value.slice none 0 0), (Value.slice none 0 0), (Value.slice (some ⟨b94, 0, none⟩) 1 1), (Value.bool false), (Value.slice none 0 0)])), (fun _ => True), (fun uz => uz = (Value.int .i64 wt))]) (G := fun w' => Bx w' b22 45 [(Value.int .i64 6), (Value.string (bs [116])), (Value.string (bs [])), (Value.slice none 0 0), (Value.slice none 0 0), (Value.slice none 0 0), (Value.slice (some ⟨b18, 0, none⟩) 1 1), (Value.string (bs [])), (Value.slice none 0 0), (Value.slice none 0 0), (Value.slice (some ⟨b94, 0, none⟩) 1 1), (Value.bool false), (Value.slice none 0 0)]) [0, 2] (by kernel_rfl) (by kernel_rfl) (by kernel_rfl) (by kernel_rfl) hN101 (fun w1 w2 E h => h.keep0 E) hB24 (ObEs.pass rfl (ObEs.cons ?_ (ObEs.pass rfl (ObEs.cons ?_ (ObEs.nil))))) (by simp only [putsL_defers]) ?_
      ·
       intro eA aA wA hNA hGA hbsA hdpA
       have qA_11 := (hbsA 11 rfl).trans (sl_base hN101 rfl s101_11)
       refine op_loadA (cs := [(Value.int .i64 6), (Value.string (bs [116])), (Value.string (bs [])), (Value.slice none 0 0), (Value.slice none 0 0), (Value.slice none 0 0), (Value.slice (some ⟨b18, 0, none⟩) 1 1), (Value.string (bs [])), (Value.slice none 0 0), (Value.slice none 0 0), (Value.slice (some ⟨b94, 0, none⟩) 1 1), (Value.bool false), (Value.slice none 0 0)]) agg45 rfl (ev_base hNA rfl qA_11) (fun j u hu => by rw [Nat.zero_add]; exact hGA.cell hu) ?_
       exact obE_end rfl rfl rfl
      ·
       intro eA aA wA hNA hGA hbsA hdpA
       have qA_12 := (hbsA 12 rfl).trans (sl_base hN101 rfl s101_12)
       refine op_move (ev_base hNA rfl qA_12) ?_
       exact obE_end rfl rfl rfl
      ·
       intro w106 E106 _ a106 hN106 hbs106 hdp106 o_ ho_; obtain rfl := Option.some.inj ho_
       have z_w106 := E106.size
       have hB20 := hB20.keep0 E106
       have hB96 := hB96.keep0 E106
       have hB24 := hB24.keep0 E106
       have hb := below_step0 hb E106 hb.size
       refine op_fn (vs := []) ok16 trivial (Schema_ret _) ?_
       rintro _ w108 ⟨E109, tv107, D107, rfl, hM107, hT107⟩
       have E109 := grown_of_below E109
       have z_w108 := E109.size
       have hB20 := hB20.keep0 E109
       have hB96 := hB96.keep0 E109
       have hB24 := hB24.keep0 E109
       have hb := below_step0 hb E109 hb.size
       have hR107 := hT107.1
       have hz107 := sch_sz hM107
       refine ke_end rfl (by decide) rfl hB24 ?_
       intro w110 E110 _ a110 hN110 hbs110 hdp110 o_ ho_; obtain rfl := Option.some.inj ho_
       have z_w110 := E110.size
       have hB20 := hB20.keep0 E110
       have hB96 := hB96.keep0 E110
       have hB24 := hB24.keep0 E110
       have hT107 := hT107.keep0 E110
       have hb := below_step0 hb E110 hb.size
       have q110_61 : Sl a110 61 (Value.agg #[tv107, (Value.slice none 0 0)]) := (Option.some.inj ((hdp110 0 _ 61 (by kernel_rfl) rfl rfl).1 0 rfl)).symm
       have q110_62 : Sl a110 62 (Value.agg #[(Value.int .i64 6), (Value.string (bs [116])), (Value.string (bs [])), (Value.slice none 0 0), (Value.slice none 0 0), (Value.slice none 0 0), (Value.slice (some ⟨b18, 0, none⟩) 1 1), (Value.string (bs [])), (Value.slice none 0 0), (Value.slice none 0 0), (Value.slice (some ⟨b94, 0, none⟩) 1 1), (Value.bool false), (Value.slice none 0 0)]) := (hdp110 1 _ 62 (by kernel_rfl) rfl rfl).2 rfl
       refine op_fn (vs := [(Value.agg #[tv107, (Value.slice none 0 0)]), (Value.agg #[(Value.int .i64 6), (Value.string (bs [116])), (Value.string (bs [])), (Value.slice none 0 0), (Value.slice none 0 0), (Value.slice none 0 0), (Value.slice (some ⟨b18, 0, none⟩) 1 1), (Value.string (bs [])), (Value.slice none 0 0), (Value.slice none 0 0), (Value.slice (some ⟨b94, 0, none⟩) 1 1), (Value.bool false), (Value.slice none 0 0)])]) ok19 ⟨(ev_base hN110 rfl q110_61), ⟨(ev_base hN110 rfl q110_62), trivial⟩⟩ (checkM hM107 (XS.mk (StF.mk 6 ([116]) [] (Value.slice none 0 0) [] (Value.slice none 0 0) [] (Value.slice none 0 0) [] (Value.slice (some ⟨b18, 0, none⟩) 1 1) ([(PItm.mk ((a9 : Nat) : Int) [] [])]) [] (Value.slice none 0 0) [] (Value.slice none 0 0) [] (Value.slice (some ⟨b94, 0, none⟩) 1 1) ([(XE.mk 2 0 0 [] [] ([107]) (Value.slice none 0 0) [])]) false) (Value.slice none 0 0) []) (hT107.mono (by omega)) hz107.1 hz107.2 (SRd.mk (s := (XS.mk (StF.mk 6 ([116]) [] (Value.slice none 0 0) [] (Value.slice none 0 0) [] (Value.slice none 0 0) [] (Value.slice (some ⟨b18, 0, none⟩) 1 1) ([(PItm.mk ((a9 : Nat) : Int) [] [])]) [] (Value.slice none 0 0) [] (Value.slice none 0 0) [] (Value.slice (some ⟨b94, 0, none⟩) 1 1) ([(XE.mk 2 0 0 [] [] ([107]) (Value.slice none 0 0) [])]) false) (Value.slice none 0 0) [])) ⟨(RdC.nil _ _ _ _), (RdC.nil _ _ _ _), (XsRd.nil _ _), (rd_items (x := (PItm.mk ((a9 : Nat) : Int) [] [])) hB20 (by omega)), (XsRd.nil _ _), (XsRd.nil _ _), (XsRd.lit1 (e := (XE.mk 2 0 0 [] [] ([107]) (Value.slice none 0 0) [])) hB96 (by omega) (XRd.bare rfl rfl))⟩ (RdC.nil _ _ _ _) (fun _ h => (by cases h)))) ?_
       rintro _ w111 ⟨E112, rfl⟩
       have E112 := grown_of_below E112
       have z_w111 := E112.size
       have hB24 := hB24.keep0 E112
       have hb := below_step0 hb E112 hb.size
       refine ke_end rfl (by decide) rfl hB24 ?_
       intro w113 E113 a113 hN113 hd113 hbs113 hph113
       have hd113 := hd113.trans ((by simp only [putsL_defers] : _ = _).trans hd101)
       have z_w113 := E113.size
       have hb := below_step0 hb E113 hb.size
       have s113_63 : Sl a113 63 (Value.int .i64 (checkE schT [] (XS.mk (StF.mk 6 ([116]) [] (Value.slice none 0 0) [] (Value.slice none 0 0) [] (Value.slice none 0 0) [] (Value.slice (some ⟨b18, 0, none⟩) 1 1) ([(PItm.mk ((a9 : Nat) : Int) [] [])]) [] (Value.slice none 0 0) [] (Value.slice none 0 0) [] (Value.slice (some ⟨b94, 0, none⟩) 1 1) ([(XE.mk 2 0 0 [] [] ([107]) (Value.slice none 0 0) [])]) false) (Value.slice none 0 0) []))) := (Option.some.inj ((hph113 2 _ 63 rfl rfl).1 1 rfl)).symm
       have s113_64 : Sl a113 64 (Value.int .i64 wt) := (hph113 3 _ 64 rfl rfl).2 rfl
       refine split_end ?_
       refine from_seq (tl := [_, _]) (by decide) (by kernel_rfl) rfl ?_
       have hit : itemsA a9 n9 false = [(PItm.mk (a9 : Int) [] [])] := by unfold itemsA; rw [if_pos (show a9 = 1 by omega)]; rfl
       have hck : checkE schT [] (XS.mk (StF.mk 6 ([116]) [] (Value.slice none 0 0) [] (Value.slice none 0 0) [] (Value.slice none 0 0) [] (Value.slice (some ⟨b18, 0, none⟩) 1 1) ([(PItm.mk ((a9 : Nat) : Int) [] [])]) [] (Value.slice none 0 0) [] (Value.slice none 0 0) [] (Value.slice (some ⟨b94, 0, none⟩) 1 1) ([(XE.mk 2 0 0 [] [] ([107]) (Value.slice none 0 0) [])]) false) (Value.slice none 0 0) []) = wantA a9 n9 false true := by have h9 := @aggs_all (Value.slice (some ⟨b18, 0, none⟩) 1 1) (Value.slice (some ⟨b94, 0, none⟩) 1 1) (Value.slice none 0 0) (.slice none 0 0) n9 a9 hn9 ha9 false true; rw [hit] at h9; exact h9
       refine op_eql (ev_base hN113 rfl s113_63) (ev_base hN113 rfl s113_64) (fun c65 => ?_) (fun c65 => ?_)
       ·
        refine op_assign (ev_hit hN113 rfl) (reg_nil (hK105 _ _ (wp_ret ?_)))
        refine ret1 rfl hd113 (ev_hit hN113 rfl) ⟨_, rfl, ?_⟩
        exact ⟨hb, rfl⟩
       ·
        rw [hwt, c34, c41] at c65; exact absurd hck c65
    ·
     refine wp_skip (hK89 _ _ (seq_join2 (N := 66) (fun az_ w' => ∃ (wt : Int), (az_.tmps.getD 8 undef = (Value.bool false)) ∧ (az_.tmps.getD 11 undef = (ptr b22 0)) ∧ (az_.tmps.getD 12 undef = (Value.int .i64 wt)) ∧ (wt = wantA a9 n9 more order) ∧ (Below w.heap.size w w') ∧ (w33.heap.size ≤ w'.heap.size) ∧ (Bx w' b22 45 [(Value.int .i64 6), (Value.string (bs [116])), (Value.string (bs [])), (Value.slice none 0 0), (Value.slice none 0 0), (Value.slice none 0 0), (Value.slice (some ⟨b18, 0, none⟩) 1 1), (Value.string (bs [])), (Value.slice none 0 0), (Value.slice none 0 0), (Value.slice none 0 0), (Value.bool false), (Value.slice none 0 0)]) ∧ (Bx w' b18 63 [(Value.int .i64 ((a9 : Nat) : Int)), (Value.string (bs [])), (Value.string (bs []))])) (fun hJ114 => ?_) ?_))
     ·
      refine seq_any fun K115 hK115 => ?_
      refine one_reg (op_assign rfl (reg_nil (hK115 _ _ (seq_any fun K116 hK116 => seq_any fun K117 hK117 => ?_))))
      refine one_reg (op_move (ev_base hN6 rfl s6_10) (op_eql (ev_hit hN6 rfl) rfl (fun c46 => ?_) (fun c46 => ?_)))
      ·
       refine op_move (ev_hit hN6 rfl) (g_true (j := 2) (dj := 47) (b := true) rfl rfl rfl (ev_hit hN6 rfl) (op_move (ev_base hN6 rfl s6_9) (g_true (j := 2) (dj := 47) (b := true) rfl rfl rfl (ev_hit hN6 rfl) (op_seql (ev_hit hN6 rfl) rfl (fun c49 => ?_) (fun c49 => ?_)))))
       ·
        refine op_pick_t (ev_hit hN6 rfl) (ev_hit hN6 rfl) ?_
        refine op_move (ev_hit hN6 rfl) (g_false (j := 6) (dj := 51) (b := false) rfl rfl rfl (ev_hit hN6 rfl) rfl rfl (g_false (j := 6) (dj := 51) (b := false) rfl rfl rfl (ev_hit hN6 rfl) rfl rfl (g_false (j := 6) (dj := 51) (b := false) rfl rfl rfl (ev_hit hN6 rfl) rfl rfl (g_undef (j := 9) (dj := 54) (b := true) rfl rfl rfl (ev_hit hN6 rfl) rfl ?_))))
        refine g_undef (j := 9) (dj := 54) (b := true) rfl rfl rfl (ev_hit hN6 rfl) rfl ?_
        refine g_undef (j := 11) (dj := 56) (b := false) rfl rfl rfl (ev_hit hN6 rfl) rfl ?_
        refine g_undef (j := 9) (dj := 54) (b := true) rfl rfl rfl (ev_hit hN6 rfl) rfl ?_
        refine g_false (j := 6) (dj := 51) (b := false) rfl rfl rfl (ev_hit hN6 rfl) rfl rfl (op_pick_t (ev_hit hN6 rfl) rfl ?_)
        refine reg_nil (hK117 _ _ (wp_cond_true (ev_hit hN6 rfl) (one_reg (op_assign rfl (reg_nil (hK116 _ _ ?_))))))
        exact hJ114 _ _ _ hN6 hd6 ⟨11, (sl_base hN6 rfl s6_8), (sl_hit hN6 rfl), (sl_hit hN6 rfl), (by unfold wantA; rw [if_pos (.inl ⟨by omega, c49⟩)]), hb, (by omega), hB24, hB20⟩
       ·
        refine op_pick_t (ev_hit hN6 rfl) (ev_hit hN6 rfl) ?_
        refine op_move (ev_hit hN6 rfl) (g_true (j := 6) (dj := 51) (b := false) rfl rfl rfl (ev_hit hN6 rfl) (op_move (ev_base hN6 rfl s6_10) (g_true (j := 6) (dj := 51) (b := false) rfl rfl rfl (ev_hit hN6 rfl) (op_neq (ev_hit hN6 rfl) rfl (fun c53 => ?_) (fun c53 => ?_)))))
        ·
         refine g_true (j := 6) (dj := 51) (b := false) rfl rfl rfl (ev_hit hN6 rfl) (op_move (ev_hit hN6 rfl) (g_true (j := 9) (dj := 54) (b := true) rfl rfl rfl (ev_hit hN6 rfl) (op_move (ev_base hN6 rfl s6_2) (g_true (j := 9) (dj := 54) (b := true) rfl rfl rfl (ev_hit hN6 rfl) (op_move (ev_hit hN6 rfl) ?_)))))
         rcases Bool.eq_false_or_eq_true (more) with g56 | g56
         ·
          exact absurd (g56.symm.trans c34) (by decide)
         ·
          rw [g56]
          refine g_true (j := 11) (dj := 56) (b := false) rfl rfl rfl (ev_hit hN6 rfl) (op_move (ev_base hN6 rfl s6_3) (g_true (j := 9) (dj := 54) (b := true) rfl rfl rfl (ev_hit hN6 rfl) (op_pick_f (ev_hit hN6 rfl) (ev_hit hN6 rfl) ?_)))
          refine g_true (j := 6) (dj := 51) (b := false) rfl rfl rfl (ev_hit hN6 rfl) (op_pick_t (ev_hit hN6 rfl) (ev_hit hN6 rfl) ?_)
          refine op_pick_f (ev_hit hN6 rfl) (ev_hit hN6 rfl) ?_
          refine reg_nil (hK117 _ _ (wp_cond_split (ev_hit hN6 rfl) (fun c60 => ?_) (fun c60 => ?_)))
          ·
           exact absurd (c60.symm.trans c41) (by decide)
          ·
           refine wp_skip (hK116 _ _ ?_)
           exact hJ114 _ _ _ hN6 hd6 ⟨0, (sl_base hN6 rfl s6_8), (sl_hit hN6 rfl), (sl_hit hN6 rfl), (by unfold wantA; rw [if_neg (fun g => g.elim (fun g => c49 g.2) (fun g => g.2.elim (fun q => by rw [c34] at q; cases q) (fun q => by rw [c41] at q; cases q)))]), hb, (by omega), hB24, hB20⟩
        ·
         refine g_true (j := 6) (dj := 51) (b := false) rfl rfl rfl (ev_hit hN6 rfl) (op_move (ev_hit hN6 rfl) (g_false (j := 9) (dj := 54) (b := true) rfl rfl rfl (ev_hit hN6 rfl) rfl rfl (g_false (j := 9) (dj := 54) (b := true) rfl rfl rfl (ev_hit hN6 rfl) rfl rfl (g_undef (j := 11) (dj := 56) (b := false) rfl rfl rfl (ev_hit hN6 rfl) rfl ?_))))
         refine g_false (j := 9) (dj := 54) (b := true) rfl rfl rfl (ev_hit hN6 rfl) rfl rfl (g_true (j := 6) (dj := 51) (b := false) rfl rfl rfl (ev_hit hN6 rfl) (op_pick_f (ev_hit hN6 rfl) rfl ?_))
         refine op_pick_f (ev_hit hN6 rfl) (ev_hit hN6 rfl) ?_
         refine reg_nil (hK117 _ _ (wp_cond_false (ev_hit hN6 rfl) (wp_skip (hK116 _ _ ?_))))
         exact hJ114 _ _ _ hN6 hd6 ⟨0, (sl_base hN6 rfl s6_8), (sl_hit hN6 rfl), (sl_hit hN6 rfl), (by unfold wantA; rw [if_neg (fun g => g.elim (fun g => c49 g.2) (fun g => (by have := g.1; omega)))]), hb, (by omega), hB24, hB20⟩
      ·
       refine op_move (ev_hit hN6 rfl) (g_false (j := 2) (dj := 47) (b := true) rfl rfl rfl (ev_hit hN6 rfl) rfl rfl (g_false (j := 2) (dj := 47) (b := true) rfl rfl rfl (ev_hit hN6 rfl) rfl rfl (op_pick_f (ev_hit hN6 rfl) rfl ?_)))
       refine op_move (ev_hit hN6 rfl) (g_true (j := 6) (dj := 51) (b := false) rfl rfl rfl (ev_hit hN6 rfl) (op_move (ev_base hN6 rfl s6_10) (g_true (j := 6) (dj := 51) (b := false) rfl rfl rfl (ev_hit hN6 rfl) (op_neq (ev_hit hN6 rfl) rfl (fun c53 => ?_) (fun c53 => ?_)))))
       ·
        refine g_true (j := 6) (dj := 51) (b := false) rfl rfl rfl (ev_hit hN6 rfl) (op_move (ev_hit hN6 rfl) (g_true (j := 9) (dj := 54) (b := true) rfl rfl rfl (ev_hit hN6 rfl) (op_move (ev_base hN6 rfl s6_2) (g_true (j := 9) (dj := 54) (b := true) rfl rfl rfl (ev_hit hN6 rfl) (op_move (ev_hit hN6 rfl) ?_)))))
        rcases Bool.eq_false_or_eq_true (more) with g56 | g56
        ·
         exact absurd (g56.symm.trans c34) (by decide)
        ·
         rw [g56]
         refine g_true (j := 11) (dj := 56) (b := false) rfl rfl rfl (ev_hit hN6 rfl) (op_move (ev_base hN6 rfl s6_3) (g_true (j := 9) (dj := 54) (b := true) rfl rfl rfl (ev_hit hN6 rfl) (op_pick_f (ev_hit hN6 rfl) (ev_hit hN6 rfl) ?_)))
         refine g_true (j := 6) (dj := 51) (b := false) rfl rfl rfl (ev_hit hN6 rfl) (op_pick_t (ev_hit hN6 rfl) (ev_hit hN6 rfl) ?_)
         refine op_pick_f (ev_hit hN6 rfl) (ev_hit hN6 rfl) ?_
         refine reg_nil (hK117 _ _ (wp_cond_split (ev_hit hN6 rfl) (fun c60 => ?_) (fun c60 => ?_)))
         ·
          exact absurd (c60.symm.trans c41) (by decide)
         ·
          refine wp_skip (hK116 _ _ ?_)
          exact hJ114 _ _ _ hN6 hd6 ⟨0, (sl_base hN6 rfl s6_8), (sl_hit hN6 rfl), (sl_hit hN6 rfl), (by unfold wantA; rw [if_neg (fun g => g.elim (fun g => (by have := g.1; omega)) (fun g => g.2.elim (fun q => by rw [c34] at q; cases q) (fun q => by rw [c41] at q; cases q)))]), hb, (by omega), hB24, hB20⟩
       ·
        refine g_true (j := 6) (dj := 51) (b := false) rfl rfl rfl (ev_hit hN6 rfl) (op_move (ev_hit hN6 rfl) (g_false (j := 9) (dj := 54) (b := true) rfl rfl rfl (ev_hit hN6 rfl) rfl rfl (g_false (j := 9) (dj := 54) (b := true) rfl rfl rfl (ev_hit hN6 rfl) rfl rfl (g_undef (j := 11) (dj := 56) (b := false) rfl rfl rfl (ev_hit hN6 rfl) rfl ?_))))
        refine g_false (j := 9) (dj := 54) (b := true) rfl rfl rfl (ev_hit hN6 rfl) rfl rfl (g_true (j := 6) (dj := 51) (b := false) rfl rfl rfl (ev_hit hN6 rfl) (op_pick_f (ev_hit hN6 rfl) rfl ?_))
        refine op_pick_f (ev_hit hN6 rfl) (ev_hit hN6 rfl) ?_
        refine reg_nil (hK117 _ _ (wp_cond_false (ev_hit hN6 rfl) (wp_skip (hK116 _ _ ?_))))
        exact hJ114 _ _ _ hN6 hd6 ⟨0, (sl_base hN6 rfl s6_8), (sl_hit hN6 rfl), (sl_hit hN6 rfl), (by unfold wantA; rw [if_neg (fun g => g.elim (fun g => (by have := g.1; omega)) (fun g => (by have := g.1; omega)))]), hb, (by omega), hB24, hB20⟩
     ·
      rintro a114 w114 hN114 hd114 ⟨wt, s114_8, s114_11, s114_12, hwt, hb, zl_w114, hB24, hB20⟩
      have z_w114 := hb.size
      refine seq_any fun K118 hK118 => reg_split (hd := [_, _, _, _]) (tl := _) 4 mixed (by kernel_rfl) rfl rfl ?_
      refine any_env (φ := phiV [(fun _ => True), (fun uz => uz = (Value.agg #[(Value.int .i64 6), (Value.string (bs [116])), (Value.string (bs [])), (Value.slice none 0 0), (Value.slice none 0 0), (Value.slice none 0 0), (Value.slice (some ⟨b18, 0, none⟩) 1 1), (Value.string (bs [])), (Value.slice none 0 0), (Value.slice none 0 0), (Value.slice none 0 0), (Value.bool false), (Value.slice none 0 0)])), (fun _ => True), (fun uz => uz = (Value.int .i64 wt))]) (G := fun w' => Bx w' b22 45 [(Value.int .i64 6), (Value.string (bs [116])), (Value.string (bs [])), (Value.slice none 0 0), (Value.slice none 0 0), (Value.slice none 0 0), (Value.slice (some ⟨b18, 0, none⟩) 1 1), (Value.string (bs [])), (Value.slice none 0 0), (Value.slice none 0 0), (Value.slice none 0 0), (Value.bool false), (Value.slice none 0 0)]) [0, 2] (by kernel_rfl) (by kernel_rfl) (by kernel_rfl) (by kernel_rfl) hN114 (fun w1 w2 E h => h.keep0 E) hB24 (ObEs.pass rfl (ObEs.cons ?_ (ObEs.pass rfl (ObEs.cons ?_ (ObEs.nil))))) (by simp only [putsL_defers]) ?_
      ·
       intro eA aA wA hNA hGA hbsA hdpA
       have qA_11 := (hbsA 11 rfl).trans (sl_base hN114 rfl s114_11)
       refine op_loadA (cs := [(Value.int .i64 6), (Value.string (bs [116])), (Value.string (bs [])), (Value.slice none 0 0), (Value.slice none 0 0), (Value.slice none 0 0), (Value.slice (some ⟨b18, 0, none⟩) 1 1), (Value.string (bs [])), (Value.slice none 0 0), (Value.slice none 0 0), (Value.slice none 0 0), (Value.bool false), (Value.slice none 0 0)]) agg45 rfl (ev_base hNA rfl qA_11) (fun j u hu => by rw [Nat.zero_add]; exact hGA.cell hu) ?_
       exact obE_end rfl rfl rfl
      ·
       intro eA aA wA hNA hGA hbsA hdpA
       have qA_12 := (hbsA 12 rfl).trans (sl_base hN114 rfl s114_12)
       refine op_move (ev_base hNA rfl qA_12) ?_
       exact obE_end rfl rfl rfl
      ·
       intro w119 E119 _ a119 hN119 hbs119 hdp119 o_ ho_; obtain rfl := Option.some.inj ho_
       have z_w119 := E119.size
       have hB24 := hB24.keep0 E119
       have hB20 := hB20.keep0 E119
       have hb := below_step0 hb E119 hb.size
       refine op_fn (vs := []) ok16 trivial (Schema_ret _) ?_
       rintro _ w121 ⟨E122, tv120, D120, rfl, hM120, hT120⟩
       have E122 := grown_of_below E122
       have z_w121 := E122.size
       have hB24 := hB24.keep0 E122
       have hB20 := hB20.keep0 E122
       have hb := below_step0 hb E122 hb.size
       have hR120 := hT120.1
       have hz120 := sch_sz hM120
       refine ke_end rfl (by decide) rfl hB24 ?_
       intro w123 E123 _ a123 hN123 hbs123 hdp123 o_ ho_; obtain rfl := Option.some.inj ho_
       have z_w123 := E123.size
       have hB24 := hB24.keep0 E123
       have hB20 := hB20.keep0 E123
       have hT120 := hT120.keep0 E123
       have hb := below_step0 hb E123 hb.size
       have q123_61 : Sl a123 61 (Value.agg #[tv120, (Value.slice none 0 0)]) := (Option.some.inj ((hdp123 0 _ 61 (by kernel_rfl) rfl rfl).1 0 rfl)).symm
       have q123_62 : Sl a123 62 (Value.agg #[(Value.int .i64 6), (Value.string (bs [116])), (Value.string (bs [])), (Value.slice none 0 0), (Value.slice none 0 0), (Value.slice none 0 0), (Value.slice (some ⟨b18, 0, none⟩) 1 1), (Value.string (bs [])), (Value.slice none 0 0), (Value.slice none 0 0), (Value.slice none 0 0), (Value.bool false), (Value.slice none 0 0)]) := (hdp123 1 _ 62 (by kernel_rfl) rfl rfl).2 rfl
       refine op_fn (vs := [(Value.agg #[tv120, (Value.slice none 0 0)]), (Value.agg #[(Value.int .i64 6), (Value.string (bs [116])), (Value.string (bs [])), (Value.slice none 0 0), (Value.slice none 0 0), (Value.slice none 0 0), (Value.slice (some ⟨b18, 0, none⟩) 1 1), (Value.string (bs [])), (Value.slice none 0 0), (Value.slice none 0 0), (Value.slice none 0 0), (Value.bool false), (Value.slice none 0 0)])]) ok19 ⟨(ev_base hN123 rfl q123_61), ⟨(ev_base hN123 rfl q123_62), trivial⟩⟩ (checkM hM120 (XS.mk (StF.mk 6 ([116]) [] (Value.slice none 0 0) [] (Value.slice none 0 0) [] (Value.slice none 0 0) [] (Value.slice (some ⟨b18, 0, none⟩) 1 1) ([(PItm.mk ((a9 : Nat) : Int) [] [])]) [] (Value.slice none 0 0) [] (Value.slice none 0 0) [] (Value.slice none 0 0) [] false) (Value.slice none 0 0) []) (hT120.mono (by omega)) hz120.1 hz120.2 (SRd.mk (s := (XS.mk (StF.mk 6 ([116]) [] (Value.slice none 0 0) [] (Value.slice none 0 0) [] (Value.slice none 0 0) [] (Value.slice (some ⟨b18, 0, none⟩) 1 1) ([(PItm.mk ((a9 : Nat) : Int) [] [])]) [] (Value.slice none 0 0) [] (Value.slice none 0 0) [] (Value.slice none 0 0) [] false) (Value.slice none 0 0) [])) ⟨(RdC.nil _ _ _ _), (RdC.nil _ _ _ _), (XsRd.nil _ _), (rd_items (x := (PItm.mk ((a9 : Nat) : Int) [] [])) hB20 (by omega)), (XsRd.nil _ _), (XsRd.nil _ _), (XsRd.nil _ _)⟩ (RdC.nil _ _ _ _) (fun _ h => (by cases h)))) ?_
       rintro _ w124 ⟨E125, rfl⟩
       have E125 := grown_of_below E125
       have z_w124 := E125.size
       have hB24 := hB24.keep0 E125
       have hb := below_step0 hb E125 hb.size
       refine ke_end rfl (by decide) rfl hB24 ?_
       intro w126 E126 a126 hN126 hd126 hbs126 hph126
       have hd126 := hd126.trans ((by simp only [putsL_defers] : _ = _).trans hd114)
       have z_w126 := E126.size
       have hb := below_step0 hb E126 hb.size
       have s126_63 : Sl a126 63 (Value.int .i64 (checkE schT [] (XS.mk (StF.mk 6 ([116]) [] (Value.slice none 0 0) [] (Value.slice none 0 0) [] (Value.slice none 0 0) [] (Value.slice (some ⟨b18, 0, none⟩) 1 1) ([(PItm.mk ((a9 : Nat) : Int) [] [])]) [] (Value.slice none 0 0) [] (Value.slice none 0 0) [] (Value.slice none 0 0) [] false) (Value.slice none 0 0) []))) := (Option.some.inj ((hph126 2 _ 63 rfl rfl).1 1 rfl)).symm
       have s126_64 : Sl a126 64 (Value.int .i64 wt) := (hph126 3 _ 64 rfl rfl).2 rfl
       refine split_end ?_
       refine from_seq (tl := [_, _]) (by decide) (by kernel_rfl) rfl ?_
       have hit : itemsA a9 n9 false = [(PItm.mk (a9 : Int) [] [])] := by unfold itemsA; rw [if_pos (show a9 = 1 by omega)]; rfl
       have hck : checkE schT [] (XS.mk (StF.mk 6 ([116]) [] (Value.slice none 0 0) [] (Value.slice none 0 0) [] (Value.slice none 0 0) [] (Value.slice (some ⟨b18, 0, none⟩) 1 1) ([(PItm.mk ((a9 : Nat) : Int) [] [])]) [] (Value.slice none 0 0) [] (Value.slice none 0 0) [] (Value.slice none 0 0) [] false) (Value.slice none 0 0) []) = wantA a9 n9 false false := by have h9 := @aggs_all (Value.slice (some ⟨b18, 0, none⟩) 1 1) (Value.slice none 0 0) (Value.slice none 0 0) (.slice none 0 0) n9 a9 hn9 ha9 false false; rw [hit] at h9; exact h9
       refine op_eql (ev_base hN126 rfl s126_63) (ev_base hN126 rfl s126_64) (fun c65 => ?_) (fun c65 => ?_)
       ·
        refine op_assign (ev_hit hN126 rfl) (reg_nil (hK118 _ _ (wp_ret ?_)))
        refine ret1 rfl hd126 (ev_hit hN126 rfl) ⟨_, rfl, ?_⟩
        exact ⟨hb, rfl⟩
       ·
        rw [hwt, c34, c41] at c65; exact absurd hck c65
  ·
   refine reg_nil (hK30 _ _ (wp_cond_false (ev_hit hN6 rfl) (wp_skip (hK29 _ _ (seq_any fun K127 hK127 => seq_any fun K128 hK128 => ?_)))))
   refine one_reg (op_move (ev_base hN6 rfl s6_2) (reg_nil (hK128 _ _ (wp_cond_split (ev_hit hN6 rfl) (fun c34 => ?_) (fun c34 => ?_)))))
   ·
    refine one_reg (op_field fld45_6 (ev_hit hN6 rfl) (op_load1 (v := (Value.slice (some ⟨b18, 0, none⟩) 1 1)) one22 (ev_hit hN6 rfl) (hB24.cell rfl) (op_build (pv := [(2, (Value.string (bs [107])))]) (v := (Value.agg #[(Value.int .i64 0), (Value.string (bs [])), (Value.string (bs [107]))])) ⟨rfl, rfl, trivial⟩ (by kernel_rfl) ?_)))
    refine op_bslice (e := 63) (pv := [(0, (Value.agg #[(Value.int .i64 0), (Value.string (bs [])), (Value.string (bs [107]))]))]) (cs := [(Value.int .i64 0), (Value.string (bs [])), (Value.string (bs [107]))]) ⟨rfl, (ev_hit hN6 rfl), trivial⟩ (by kernel_rfl) ?_
    intro w129 b130 lo_b130 hi_b130 hB132 E131
    have z_w129 := E131.size
    have hB20 := hB20.keep0 E131
    have hB24 := hB24.keep0 E131
    have hb := below_step0 hb E131 hb.size
    have hP138 := (Own.ofBx (base := w.heap.size) (sz := 3) (n := 1) hB20 rfl (by decide) (by omega))
    refine op_append slt22 (ev_hit hN6 rfl) hP138 (ev_hit hN6 rfl) (Src.ofRd Try.underlying22 (by decide) (RdC.ofBx (sz := 3) (n := 1) hB132 rfl (by decide)) rfl) (by unfold maxLen; omega) (by omega) hb.size ?_
    intro v133 w134 hO136 E135 hm137
    have z_w134 := E135.size
    have hB24 := hB24.keep E135 (by simp [Value.ownBlock]; try omega)
    have hb := below_stepO hb hP138 E135 hb.size (by omega)
    have hO136 : Own w134 w.heap.size 63 3 v133 (1 + 1) ((([(PItm.mk ((a9 : Nat) : Int) [] n9)] ++ [(PItm.mk 0 [] ([107]))])).flatMap cellsI) := by exact hO136.cast (by simp) (by simp [cellsI])
    refine op_field fld45_6 (ev_hit hN6 rfl) ?_
    have hB24_old := hB24
    refine op_store (vs := [v133]) (cs' := [(Value.int .i64 6), (Value.string (bs [116])), (Value.string (bs [])), (Value.slice none 0 0), (Value.slice none 0 0), (Value.slice none 0 0), v133, (Value.string (bs [])), (Value.slice none 0 0), (Value.slice none 0 0), (Value.slice none 0 0), (Value.bool false), (Value.slice none 0 0)]) size22 (ev_hit hN6 rfl) (ev_hit hN6 rfl) hO136.cl rfl (by simp only [List.all_cons, List.all_nil, Bool.true_and, Bool.and_true, hO136.one]; try rfl) hB24 (Nat.le_of_ble_eq_true rfl) rfl ?_
    intro w141 hB24 E142
    have z_w141 := E142.size
    have hO136 := hO136.keepX hB24_old E142 (by decide)
    have hb := below_step1 hb E142 hb.size (by omega)
    refine reg_nil (hK127 _ _ (seq_any fun K143 hK143 => seq_any fun K144 hK144 => ?_))
    refine one_reg (op_move (ev_base hN6 rfl s6_3) (reg_nil (hK144 _ _ (wp_cond_split (ev_hit hN6 rfl) (fun c41 => ?_) (fun c41 => ?_)))))
    ·
     refine one_reg (op_fn (vs := [(Value.string (bs [])), (Value.string (bs [107]))]) ok25 ⟨rfl, ⟨rfl, trivial⟩⟩ (col_ret [] ([107]) _) ?_)
     rintro _ w145 ⟨E146, rfl⟩
     have E146 := grown_of_below E146
     have z_w145 := E146.size
     have hO136 := hO136.keep0 E146
     have hB24 := hB24.keep0 E146
     have hb := below_step0 hb E146 hb.size
     refine op_bslice (e := 28) (pv := [(0, (Value.agg #[(Value.int .i64 2), (Value.int .i64 0), (Value.int .i64 0), (Value.string (bs [])), (Value.string (bs [])), (Value.string (bs [107])), (Value.slice none 0 0)]))]) (cs := [(Value.int .i64 2), (Value.int .i64 0), (Value.int .i64 0), (Value.string (bs [])), (Value.string (bs [])), (Value.string (bs [107])), (Value.slice none 0 0)]) ⟨rfl, (ev_hit hN6 rfl), trivial⟩ (by kernel_rfl) ?_
     intro w147 b148 lo_b148 hi_b148 hB150 E149
     have z_w147 := E149.size
     have hO136 := hO136.keep0 E149
     have hB24 := hB24.keep0 E149
     have hb := below_step0 hb E149 hb.size
     refine op_field fld45_10 (ev_hit hN6 rfl) ?_
     have hB24_old := hB24
     refine op_store (vs := [(Value.slice (some ⟨b148, 0, none⟩) 1 1)]) (cs' := [(Value.int .i64 6), (Value.string (bs [116])), (Value.string (bs [])), (Value.slice none 0 0), (Value.slice none 0 0), (Value.slice none 0 0), v133, (Value.string (bs [])), (Value.slice none 0 0), (Value.slice none 0 0), (Value.slice (some ⟨b148, 0, none⟩) 1 1), (Value.bool false), (Value.slice none 0 0)]) size26 (ev_hit hN6 rfl) (ev_hit hN6 rfl) rfl rfl rfl hB24 (Nat.le_of_ble_eq_true rfl) rfl ?_
     intro w153 hB24 E154
     have z_w153 := E154.size
     have hO136 := hO136.keepX hB24_old E154 (by decide)
     have hB150 := hB150.keep E154 (fun hh => hB150.ne hB24_old (by decide) (Option.some.inj hh))
     have hb := below_step1 hb E154 hb.size (by omega)
     refine reg_nil (hK143 _ _ (seq_join2 (N := 66) (fun az_ w' => ∃ (wt : Int), (az_.tmps.getD 8 undef = (Value.bool false)) ∧ (az_.tmps.getD 11 undef = (ptr b22 0)) ∧ (az_.tmps.getD 12 undef = (Value.int .i64 wt)) ∧ (wt = wantA a9 n9 more order) ∧ (Below w.heap.size w w') ∧ (w153.heap.size ≤ w'.heap.size) ∧ (Own w' w.heap.size 63 3 v133 (1 + 1) ((([(PItm.mk ((a9 : Nat) : Int) [] n9)] ++ [(PItm.mk 0 [] ([107]))])).flatMap cellsI)) ∧ (Bx w' b148 28 [(Value.int .i64 2), (Value.int .i64 0), (Value.int .i64 0), (Value.string (bs [])), (Value.string (bs [])), (Value.string (bs [107])), (Value.slice none 0 0)]) ∧ (Bx w' b22 45 [(Value.int .i64 6), (Value.string (bs [116])), (Value.string (bs [])), (Value.slice none 0 0), (Value.slice none 0 0), (Value.slice none 0 0), v133, (Value.string (bs [])), (Value.slice none 0 0), (Value.slice none 0 0), (Value.slice (some ⟨b148, 0, none⟩) 1 1), (Value.bool false), (Value.slice none 0 0)])) (fun hJ155 => ?_) ?_))
     ·
      refine seq_any fun K156 hK156 => ?_
      refine one_reg (op_assign rfl (reg_nil (hK156 _ _ (seq_any fun K157 hK157 => seq_any fun K158 hK158 => ?_))))
      refine one_reg (op_move (ev_base hN6 rfl s6_10) (op_eql (ev_hit hN6 rfl) rfl (fun c46 => ?_) (fun c46 => ?_)))
      ·
       refine op_move (ev_hit hN6 rfl) (g_true (j := 2) (dj := 47) (b := true) rfl rfl rfl (ev_hit hN6 rfl) (op_move (ev_base hN6 rfl s6_9) (g_true (j := 2) (dj := 47) (b := true) rfl rfl rfl (ev_hit hN6 rfl) (op_seql (ev_hit hN6 rfl) rfl (fun c49 => ?_) (fun c49 => ?_)))))
       ·
        refine op_pick_t (ev_hit hN6 rfl) (ev_hit hN6 rfl) ?_
        refine op_move (ev_hit hN6 rfl) (g_false (j := 6) (dj := 51) (b := false) rfl rfl rfl (ev_hit hN6 rfl) rfl rfl (g_false (j := 6) (dj := 51) (b := false) rfl rfl rfl (ev_hit hN6 rfl) rfl rfl (g_false (j := 6) (dj := 51) (b := false) rfl rfl rfl (ev_hit hN6 rfl) rfl rfl (g_undef (j := 9) (dj := 54) (b := true) rfl rfl rfl (ev_hit hN6 rfl) rfl ?_))))
        refine g_undef (j := 9) (dj := 54) (b := true) rfl rfl rfl (ev_hit hN6 rfl) rfl ?_
        refine g_undef (j := 11) (dj := 56) (b := false) rfl rfl rfl (ev_hit hN6 rfl) rfl ?_
        refine g_undef (j := 9) (dj := 54) (b := true) rfl rfl rfl (ev_hit hN6 rfl) rfl ?_
        refine g_false (j := 6) (dj := 51) (b := false) rfl rfl rfl (ev_hit hN6 rfl) rfl rfl (op_pick_t (ev_hit hN6 rfl) rfl ?_)
        refine reg_nil (hK158 _ _ (wp_cond_true (ev_hit hN6 rfl) (one_reg (op_assign rfl (reg_nil (hK157 _ _ ?_))))))
        exact hJ155 _ _ _ hN6 hd6 ⟨11, (sl_base hN6 rfl s6_8), (sl_hit hN6 rfl), (sl_hit hN6 rfl), (by unfold wantA; rw [if_pos (.inl ⟨by omega, c49⟩)]), hb, (by omega), hO136, hB150, hB24⟩
       ·
        refine op_pick_t (ev_hit hN6 rfl) (ev_hit hN6 rfl) ?_
        refine op_move (ev_hit hN6 rfl) (g_true (j := 6) (dj := 51) (b := false) rfl rfl rfl (ev_hit hN6 rfl) (op_move (ev_base hN6 rfl s6_10) (g_true (j := 6) (dj := 51) (b := false) rfl rfl rfl (ev_hit hN6 rfl) (op_neq (ev_hit hN6 rfl) rfl (fun c53 => ?_) (fun c53 => ?_)))))
        ·
         refine g_true (j := 6) (dj := 51) (b := false) rfl rfl rfl (ev_hit hN6 rfl) (op_move (ev_hit hN6 rfl) (g_true (j := 9) (dj := 54) (b := true) rfl rfl rfl (ev_hit hN6 rfl) (op_move (ev_base hN6 rfl s6_2) (g_true (j := 9) (dj := 54) (b := true) rfl rfl rfl (ev_hit hN6 rfl) (op_move (ev_hit hN6 rfl) ?_)))))
         rcases Bool.eq_false_or_eq_true (more) with g56 | g56
         ·
          rw [g56]
          refine g_false (j := 11) (dj := 56) (b := false) rfl rfl rfl (ev_hit hN6 rfl) rfl rfl (g_true (j := 9) (dj := 54) (b := true) rfl rfl rfl (ev_hit hN6 rfl) (op_pick_t (ev_hit hN6 rfl) rfl ?_))
          refine g_true (j := 6) (dj := 51) (b := false) rfl rfl rfl (ev_hit hN6 rfl) (op_pick_t (ev_hit hN6 rfl) (ev_hit hN6 rfl) ?_)
          refine op_pick_f (ev_hit hN6 rfl) (ev_hit hN6 rfl) ?_
          refine reg_nil (hK158 _ _ (wp_cond_true (ev_hit hN6 rfl) (one_reg (op_assign rfl (reg_nil (hK157 _ _ ?_))))))
          exact hJ155 _ _ _ hN6 hd6 ⟨11, (sl_base hN6 rfl s6_8), (sl_hit hN6 rfl), (sl_hit hN6 rfl), (by unfold wantA; rw [if_pos (.inr ⟨by omega, .inl c34⟩)]), hb, (by omega), hO136, hB150, hB24⟩
         ·
          exact absurd (g56.symm.trans c34) (by decide)
        ·
         refine g_true (j := 6) (dj := 51) (b := false) rfl rfl rfl (ev_hit hN6 rfl) (op_move (ev_hit hN6 rfl) (g_false (j := 9) (dj := 54) (b := true) rfl rfl rfl (ev_hit hN6 rfl) rfl rfl (g_false (j := 9) (dj := 54) (b := true) rfl rfl rfl (ev_hit hN6 rfl) rfl rfl (g_undef (j := 11) (dj := 56) (b := false) rfl rfl rfl (ev_hit hN6 rfl) rfl ?_))))
         refine g_false (j := 9) (dj := 54) (b := true) rfl rfl rfl (ev_hit hN6 rfl) rfl rfl (g_true (j := 6) (dj := 51) (b := false) rfl rfl rfl (ev_hit hN6 rfl) (op_pick_f (ev_hit hN6 rfl) rfl ?_))
         refine op_pick_f (ev_hit hN6 rfl) (ev_hit hN6 rfl) ?_
         refine reg_nil (hK158 _ _ (wp_cond_false (ev_hit hN6 rfl) (wp_skip (hK157 _ _ ?_))))
         exact hJ155 _ _ _ hN6 hd6 ⟨0, (sl_base hN6 rfl s6_8), (sl_hit hN6 rfl), (sl_hit hN6 rfl), (by unfold wantA; rw [if_neg (fun g => g.elim (fun g => c49 g.2) (fun g => (by have := g.1; omega)))]), hb, (by omega), hO136, hB150, hB24⟩
      ·
       refine op_move (ev_hit hN6 rfl) (g_false (j := 2) (dj := 47) (b := true) rfl rfl rfl (ev_hit hN6 rfl) rfl rfl (g_false (j := 2) (dj := 47) (b := true) rfl rfl rfl (ev_hit hN6 rfl) rfl rfl (op_pick_f (ev_hit hN6 rfl) rfl ?_)))
       refine op_move (ev_hit hN6 rfl) (g_true (j := 6) (dj := 51) (b := false) rfl rfl rfl (ev_hit hN6 rfl) (op_move (ev_base hN6 rfl s6_10) (g_true (j := 6) (dj := 51) (b := false) rfl rfl rfl (ev_hit hN6 rfl) (op_neq (ev_hit hN6 rfl) rfl (fun c53 => ?_) (fun c53 => ?_)))))
       ·
        refine g_true (j := 6) (dj := 51) (b := false) rfl rfl rfl (ev_hit hN6 rfl) (op_move (ev_hit hN6 rfl) (g_true (j := 9) (dj := 54) (b := true) rfl rfl rfl (ev_hit hN6 rfl) (op_move (ev_base hN6 rfl s6_2) (g_true (j := 9) (dj := 54) (b := true) rfl rfl rfl (ev_hit hN6 rfl) (op_move (ev_hit hN6 rfl) ?_)))))
        rcases Bool.eq_false_or_eq_true (more) with g56 | g56
        ·
         rw [g56]
         refine g_false (j := 11) (dj := 56) (b := false) rfl rfl rfl (ev_hit hN6 rfl) rfl rfl (g_true (j := 9) (dj := 54) (b := true) rfl rfl rfl (ev_hit hN6 rfl) (op_pick_t (ev_hit hN6 rfl) rfl ?_))
         refine g_true (j := 6) (dj := 51) (b := false) rfl rfl rfl (ev_hit hN6 rfl) (op_pick_t (ev_hit hN6 rfl) (ev_hit hN6 rfl) ?_)
         refine op_pick_f (ev_hit hN6 rfl) (ev_hit hN6 rfl) ?_
         refine reg_nil (hK158 _ _ (wp_cond_true (ev_hit hN6 rfl) (one_reg (op_assign rfl (reg_nil (hK157 _ _ ?_))))))
         exact hJ155 _ _ _ hN6 hd6 ⟨11, (sl_base hN6 rfl s6_8), (sl_hit hN6 rfl), (sl_hit hN6 rfl), (by unfold wantA; rw [if_pos (.inr ⟨by omega, .inl c34⟩)]), hb, (by omega), hO136, hB150, hB24⟩
        ·
         exact absurd (g56.symm.trans c34) (by decide)
       ·
        refine g_true (j := 6) (dj := 51) (b := false) rfl rfl rfl (ev_hit hN6 rfl) (op_move (ev_hit hN6 rfl) (g_false (j := 9) (dj := 54) (b := true) rfl rfl rfl (ev_hit hN6 rfl) rfl rfl (g_false (j := 9) (dj := 54) (b := true) rfl rfl rfl (ev_hit hN6 rfl) rfl rfl (g_undef (j := 11) (dj := 56) (b := false) rfl rfl rfl (ev_hit hN6 rfl) rfl ?_))))
        refine g_false (j := 9) (dj := 54) (b := true) rfl rfl rfl (ev_hit hN6 rfl) rfl rfl (g_true (j := 6) (dj := 51) (b := false) rfl rfl rfl (ev_hit hN6 rfl) (op_pick_f (ev_hit hN6 rfl) rfl ?_))
        refine op_pick_f (ev_hit hN6 rfl) (ev_hit hN6 rfl) ?_
        refine reg_nil (hK158 _ _ (wp_cond_false (ev_hit hN6 rfl) (wp_skip (hK157 _ _ ?_))))
        exact hJ155 _ _ _ hN6 hd6 ⟨0, (sl_base hN6 rfl s6_8), (sl_hit hN6 rfl), (sl_hit hN6 rfl), (by unfold wantA; rw [if_neg (fun g => g.elim (fun g => (by have := g.1; omega)) (fun g => (by have := g.1; omega)))]), hb, (by omega), hO136, hB150, hB24⟩
     ·
      rintro a155 w155 hN155 hd155 ⟨wt, s155_8, s155_11, s155_12, hwt, hb, zl_w155, hO136, hB150, hB24⟩
      have z_w155 := hb.size
      refine seq_any fun K159 hK159 => reg_split (hd := [_, _, _, _]) (tl := _) 4 mixed (by kernel_rfl) rfl rfl ?_
      refine any_env (φ := phiV [(fun _ => True), (fun uz => uz = (Value.agg #[(Value.int .i64 6), (Value.string (bs [116])), (Value.string (bs [])), (Value.slice none 0 0), (Value.slice none 0 0), (Value.slice none 0 0), v133, (Value.string (bs [])), (Value.slice none 0 0), (Value.slice none 0 0), (Value.slice (some ⟨b148, 0, none⟩) 1 1), (Value.bool false), (Value.slice none 0 0)])), (fun _ => True), (fun uz => uz = (Value.int .i64 wt))]) (G := fun w' => Bx w' b22 45 [(Value.int .i64 6), (Value.string (bs [116])), (Value.string (bs [])), (Value.slice none 0 0), (Value.slice none 0 0), (Value.slice none 0 0), v133, (Value.string (bs [])), (Value.slice none 0 0), (Value.slice none 0 0), (Value.slice (some ⟨b148, 0, none⟩) 1 1), (Value.bool false), (Value.slice none 0 0)]) [0, 2] (by kernel_rfl) (by kernel_rfl) (by kernel_rfl) (by kernel_rfl) hN155 (fun w1 w2 E h => h.keep0 E) hB24 (ObEs.pass rfl (ObEs.cons ?_ (ObEs.pass rfl (ObEs.cons ?_ (ObEs.nil))))) (by simp only [putsL_defers]) ?_
      ·
       intro eA aA wA hNA hGA hbsA hdpA
       have qA_11 := (hbsA 11 rfl).trans (sl_base hN155 rfl s155_11)
       refine op_loadA (cs := [(Value.int .i64 6), (Value.string (bs [116])), (Value.string (bs [])), (Value.slice none 0 0), (Value.slice none 0 0), (Value.slice none 0 0), v133, (Value.string (bs [])), (Value.slice none 0 0), (Value.slice none 0 0), (Value.slice (some ⟨b148, 0, none⟩) 1 1), (Value.bool false), (Value.slice none 0 0)]) agg45 rfl (ev_base hNA rfl qA_11) (fun j u hu => by rw [Nat.zero_add]; exact hGA.cell hu) ?_
       exact obE_end rfl rfl rfl
      ·
       intro eA aA wA hNA hGA hbsA hdpA
       have qA_12 := (hbsA 12 rfl).trans (sl_base hN155 rfl s155_12)
       refine op_move (ev_base hNA rfl qA_12) ?_
       exact obE_end rfl rfl rfl
      ·
       intro w160 E160 _ a160 hN160 hbs160 hdp160 o_ ho_; obtain rfl := Option.some.inj ho_
       have z_w160 := E160.size
       have hO136 := hO136.keep0 E160
       have hB150 := hB150.keep0 E160
       have hB24 := hB24.keep0 E160
       have hb := below_step0 hb E160 hb.size
       refine op_fn (vs := []) ok16 trivial (Schema_ret _) ?_
       rintro _ w162 ⟨E163, tv161, D161, rfl, hM161, hT161⟩
       have E163 := grown_of_below E163
       have z_w162 := E163.size
       have hO136 := hO136.keep0 E163
       have hB150 := hB150.keep0 E163
       have hB24 := hB24.keep0 E163
       have hb := below_step0 hb E163 hb.size
       have hR161 := hT161.1
       have hz161 := sch_sz hM161
       refine ke_end rfl (by decide) rfl hB24 ?_
       intro w164 E164 _ a164 hN164 hbs164 hdp164 o_ ho_; obtain rfl := Option.some.inj ho_
       have z_w164 := E164.size
       have hO136 := hO136.keep0 E164
       have hB150 := hB150.keep0 E164
       have hB24 := hB24.keep0 E164
       have hT161 := hT161.keep0 E164
       have hb := below_step0 hb E164 hb.size
       have q164_61 : Sl a164 61 (Value.agg #[tv161, (Value.slice none 0 0)]) := (Option.some.inj ((hdp164 0 _ 61 (by kernel_rfl) rfl rfl).1 0 rfl)).symm
       have q164_62 : Sl a164 62 (Value.agg #[(Value.int .i64 6), (Value.string (bs [116])), (Value.string (bs [])), (Value.slice none 0 0), (Value.slice none 0 0), (Value.slice none 0 0), v133, (Value.string (bs [])), (Value.slice none 0 0), (Value.slice none 0 0), (Value.slice (some ⟨b148, 0, none⟩) 1 1), (Value.bool false), (Value.slice none 0 0)]) := (hdp164 1 _ 62 (by kernel_rfl) rfl rfl).2 rfl
       refine op_fn (vs := [(Value.agg #[tv161, (Value.slice none 0 0)]), (Value.agg #[(Value.int .i64 6), (Value.string (bs [116])), (Value.string (bs [])), (Value.slice none 0 0), (Value.slice none 0 0), (Value.slice none 0 0), v133, (Value.string (bs [])), (Value.slice none 0 0), (Value.slice none 0 0), (Value.slice (some ⟨b148, 0, none⟩) 1 1), (Value.bool false), (Value.slice none 0 0)])]) ok19 ⟨(ev_base hN164 rfl q164_61), ⟨(ev_base hN164 rfl q164_62), trivial⟩⟩ (checkM hM161 (XS.mk (StF.mk 6 ([116]) [] (Value.slice none 0 0) [] (Value.slice none 0 0) [] (Value.slice none 0 0) [] v133 ([(PItm.mk ((a9 : Nat) : Int) [] n9)] ++ [(PItm.mk 0 [] ([107]))]) [] (Value.slice none 0 0) [] (Value.slice none 0 0) [] (Value.slice (some ⟨b148, 0, none⟩) 1 1) ([(XE.mk 2 0 0 [] [] ([107]) (Value.slice none 0 0) [])]) false) (Value.slice none 0 0) []) (hT161.mono (by omega)) hz161.1 hz161.2 (SRd.mk (s := (XS.mk (StF.mk 6 ([116]) [] (Value.slice none 0 0) [] (Value.slice none 0 0) [] (Value.slice none 0 0) [] v133 ([(PItm.mk ((a9 : Nat) : Int) [] n9)] ++ [(PItm.mk 0 [] ([107]))]) [] (Value.slice none 0 0) [] (Value.slice none 0 0) [] (Value.slice (some ⟨b148, 0, none⟩) 1 1) ([(XE.mk 2 0 0 [] [] ([107]) (Value.slice none 0 0) [])]) false) (Value.slice none 0 0) [])) ⟨(RdC.nil _ _ _ _), (RdC.nil _ _ _ _), (XsRd.nil _ _), (hO136.rdw.mono (Nat.zero_le _) (by omega)), (XsRd.nil _ _), (XsRd.nil _ _), (XsRd.lit1 (e := (XE.mk 2 0 0 [] [] ([107]) (Value.slice none 0 0) [])) hB150 (by omega) (XRd.bare rfl rfl))⟩ (RdC.nil _ _ _ _) (fun _ h => (by cases h)))) ?_
       rintro _ w165 ⟨E166, rfl⟩
       have E166 := grown_of_below E166
       have z_w165 := E166.size
       have hB24 := hB24.keep0 E166
       have hb := below_step0 hb E166 hb.size
       refine ke_end rfl (by decide) rfl hB24 ?_
       intro w167 E167 a167 hN167 hd167 hbs167 hph167
       have hd167 := hd167.trans ((by simp only [putsL_defers] : _ = _).trans hd155)
       have z_w167 := E167.size
       have hb := below_step0 hb E167 hb.size
       have s167_63 : Sl a167 63 (Value.int .i64 (checkE schT [] (XS.mk (StF.mk 6 ([116]) [] (Value.slice none 0 0) [] (Value.slice none 0 0) [] (Value.slice none 0 0) [] v133 ([(PItm.mk ((a9 : Nat) : Int) [] n9)] ++ [(PItm.mk 0 [] ([107]))]) [] (Value.slice none 0 0) [] (Value.slice none 0 0) [] (Value.slice (some ⟨b148, 0, none⟩) 1 1) ([(XE.mk 2 0 0 [] [] ([107]) (Value.slice none 0 0) [])]) false) (Value.slice none 0 0) []))) := (Option.some.inj ((hph167 2 _ 63 rfl rfl).1 1 rfl)).symm
       have s167_64 : Sl a167 64 (Value.int .i64 wt) := (hph167 3 _ 64 rfl rfl).2 rfl
       refine split_end ?_
       refine from_seq (tl := [_, _]) (by decide) (by kernel_rfl) rfl ?_
       have hit : itemsA a9 n9 true = ([(PItm.mk (a9 : Int) [] n9)] ++ [(PItm.mk 0 [] [107])]) := by unfold itemsA; rw [if_neg (show ¬ a9 = 1 by omega)]; rfl
       have hck : checkE schT [] (XS.mk (StF.mk 6 ([116]) [] (Value.slice none 0 0) [] (Value.slice none 0 0) [] (Value.slice none 0 0) [] v133 ([(PItm.mk ((a9 : Nat) : Int) [] n9)] ++ [(PItm.mk 0 [] ([107]))]) [] (Value.slice none 0 0) [] (Value.slice none 0 0) [] (Value.slice (some ⟨b148, 0, none⟩) 1 1) ([(XE.mk 2 0 0 [] [] ([107]) (Value.slice none 0 0) [])]) false) (Value.slice none 0 0) []) = wantA a9 n9 true true := by have h9 := @aggs_all v133 (Value.slice (some ⟨b148, 0, none⟩) 1 1) (Value.slice none 0 0) (.slice none 0 0) n9 a9 hn9 ha9 true true; rw [hit] at h9; exact h9
       refine op_eql (ev_base hN167 rfl s167_63) (ev_base hN167 rfl s167_64) (fun c65 => ?_) (fun c65 => ?_)
       ·
        refine op_assign (ev_hit hN167 rfl) (reg_nil (hK159 _ _ (wp_ret ?_)))
        refine ret1 rfl hd167 (ev_hit hN167 rfl) ⟨_, rfl, ?_⟩
        exact ⟨hb, rfl⟩
       ·
        rw [hwt, c34, c41] at c65; exact absurd hck c65
    ·
     refine wp_skip (hK143 _ _ (seq_join2 (N := 66) (fun az_ w' => ∃ (wt : Int), (az_.tmps.getD 8 undef = (Value.bool false)) ∧ (az_.tmps.getD 11 undef = (ptr b22 0)) ∧ (az_.tmps.getD 12 undef = (Value.int .i64 wt)) ∧ (wt = wantA a9 n9 more order) ∧ (Below w.heap.size w w') ∧ (w141.heap.size ≤ w'.heap.size) ∧ (Own w' w.heap.size 63 3 v133 (1 + 1) ((([(PItm.mk ((a9 : Nat) : Int) [] n9)] ++ [(PItm.mk 0 [] ([107]))])).flatMap cellsI)) ∧ (Bx w' b22 45 [(Value.int .i64 6), (Value.string (bs [116])), (Value.string (bs [])), (Value.slice none 0 0), (Value.slice none 0 0), (Value.slice none 0 0), v133, (Value.string (bs [])), (Value.slice none 0 0), (Value.slice none 0 0), (Value.slice none 0 0), (Value.bool false), (Value.slice none 0 0)])) (fun hJ168 => ?_) ?_))
     ·
      refine seq_any fun K169 hK169 => ?_
      refine one_reg (op_assign rfl (reg_nil (hK169 _ _ (seq_any fun K170 hK170 => seq_any fun K171 hK171 => ?_))))
      refine one_reg (op_move (ev_base hN6 rfl s6_10) (op_eql (ev_hit hN6 rfl) rfl (fun c46 => ?_) (fun c46 => ?_)))
      ·
       refine op_move (ev_hit hN6 rfl) (g_true (j := 2) (dj := 47) (b := true) rfl rfl rfl (ev_hit hN6 rfl) (op_move (ev_base hN6 rfl s6_9) (g_true (j := 2) (dj := 47) (b := true) rfl rfl rfl (ev_hit hN6 rfl) (op_seql (ev_hit hN6 rfl) rfl (fun c49 => ?_) (fun c49 => ?_)))))
       ·
        refine op_pick_t (ev_hit hN6 rfl) (ev_hit hN6 rfl) ?_
        refine op_move (ev_hit hN6 rfl) (g_false (j := 6) (dj := 51) (b := false) rfl rfl rfl (ev_hit hN6 rfl) rfl rfl (g_false (j := 6) (dj := 51) (b := false) rfl rfl rfl (ev_hit hN6 rfl) rfl rfl (g_false (j := 6) (dj := 51) (b := false) rfl rfl rfl (ev_hit hN6 rfl) rfl rfl (g_undef (j := 9) (dj := 54) (b := true) rfl rfl rfl (ev_hit hN6 rfl) rfl ?_))))
        refine g_undef (j := 9) (dj := 54) (b := true) rfl rfl rfl (ev_hit hN6 rfl) rfl ?_
        refine g_undef (j := 11) (dj := 56) (b := false) rfl rfl rfl (ev_hit hN6 rfl) rfl ?_
        refine g_undef (j := 9) (dj := 54) (b := true) rfl rfl rfl (ev_hit hN6 rfl) rfl ?_
        refine g_false (j := 6) (dj := 51) (b := false) rfl rfl rfl (ev_hit hN6 rfl) rfl rfl (op_pick_t (ev_hit hN6 rfl) rfl ?_)
        refine reg_nil (hK171 _ _ (wp_cond_true (ev_hit hN6 rfl) (one_reg (op_assign rfl (reg_nil (hK170 _ _ ?_))))))
        exact hJ168 _ _ _ hN6 hd6 ⟨11, (sl_base hN6 rfl s6_8), (sl_hit hN6 rfl), (sl_hit hN6 rfl), (by unfold wantA; rw [if_pos (.inl ⟨by omega, c49⟩)]), hb, (by omega), hO136, hB24⟩
       ·
        refine op_pick_t (ev_hit hN6 rfl) (ev_hit hN6 rfl) ?_
        refine op_move (ev_hit hN6 rfl) (g_true (j := 6) (dj := 51) (b := false) rfl rfl rfl (ev_hit hN6 rfl) (op_move (ev_base hN6 rfl s6_10) (g_true (j := 6) (dj := 51) (b := false) rfl rfl rfl (ev_hit hN6 rfl) (op_neq (ev_hit hN6 rfl) rfl (fun c53 => ?_) (fun c53 => ?_)))))
        ·
         refine g_true (j := 6) (dj := 51) (b := false) rfl rfl rfl (ev_hit hN6 rfl) (op_move (ev_hit hN6 rfl) (g_true (j := 9) (dj := 54) (b := true) rfl rfl rfl (ev_hit hN6 rfl) (op_move (ev_base hN6 rfl s6_2) (g_true (j := 9) (dj := 54) (b := true) rfl rfl rfl (ev_hit hN6 rfl) (op_move (ev_hit hN6 rfl) ?_)))))
         rcases Bool.eq_false_or_eq_true (more) with g56 | g56
         ·
          rw [g56]
          refine g_false (j := 11) (dj := 56) (b := false) rfl rfl rfl (ev_hit hN6 rfl) rfl rfl (g_true (j := 9) (dj := 54) (b := true) rfl rfl rfl (ev_hit hN6 rfl) (op_pick_t (ev_hit hN6 rfl) rfl ?_))
          refine g_true (j := 6) (dj := 51) (b := false) rfl rfl rfl (ev_hit hN6 rfl) (op_pick_t (ev_hit hN6 rfl) (ev_hit hN6 rfl) ?_)
          refine op_pick_f (ev_hit hN6 rfl) (ev_hit hN6 rfl) ?_
          refine reg_nil (hK171 _ _ (wp_cond_true (ev_hit hN6 rfl) (one_reg (op_assign rfl (reg_nil (hK170 _ _ ?_))))))
          exact hJ168 _ _ _ hN6 hd6 ⟨11, (sl_base hN6 rfl s6_8), (sl_hit hN6 rfl), (sl_hit hN6 rfl), (by unfold wantA; rw [if_pos (.inr ⟨by omega, .inl c34⟩)]), hb, (by omega), hO136, hB24⟩
         ·
          exact absurd (g56.symm.trans c34) (by decide)
        ·
         refine g_true (j := 6) (dj := 51) (b := false) rfl rfl rfl (ev_hit hN6 rfl) (op_move (ev_hit hN6 rfl) (g_false (j := 9) (dj := 54) (b := true) rfl rfl rfl (ev_hit hN6 rfl) rfl rfl (g_false (j := 9) (dj := 54) (b := true) rfl rfl rfl (ev_hit hN6 rfl) rfl rfl (g_undef (j := 11) (dj := 56) (b := false) rfl rfl rfl (ev_hit hN6 rfl) rfl ?_))))
         refine g_false (j := 9) (dj := 54) (b := true) rfl rfl rfl (ev_hit hN6 rfl) rfl rfl (g_true (j := 6) (dj := 51) (b := false) rfl rfl rfl (ev_hit hN6 rfl) (op_pick_f (ev_hit hN6 rfl) rfl ?_))
         refine op_pick_f (ev_hit hN6 rfl) (ev_hit hN6 rfl) ?_
         refine reg_nil (hK171 _ _ (wp_cond_false (ev_hit hN6 rfl) (wp_skip (hK170 _ _ ?_))))
         exact hJ168 _ _ _ hN6 hd6 ⟨0, (sl_base hN6 rfl s6_8), (sl_hit hN6 rfl), (sl_hit hN6 rfl), (by unfold wantA; rw [if_neg (fun g => g.elim (fun g => c49 g.2) (fun g => (by have := g.1; omega)))]), hb, (by omega), hO136, hB24⟩
      ·
       refine op_move (ev_hit hN6 rfl) (g_false (j := 2) (dj := 47) (b := true) rfl rfl rfl (ev_hit hN6 rfl) rfl rfl (g_false (j := 2) (dj := 47) (b := true) rfl rfl rfl (ev_hit hN6 rfl) rfl rfl (op_pick_f (ev_hit hN6 rfl) rfl ?_)))
       refine op_move (ev_hit hN6 rfl) (g_true (j := 6) (dj := 51) (b := false) rfl rfl rfl (ev_hit hN6 rfl) (op_move (ev_base hN6 rfl s6_10) (g_true (j := 6) (dj := 51) (b := false) rfl rfl rfl (ev_hit hN6 rfl) (op_neq (ev_hit hN6 rfl) rfl (fun c53 => ?_) (fun c53 => ?_)))))
       ·
        refine g_true (j := 6) (dj := 51) (b := false) rfl rfl rfl (ev_hit hN6 rfl) (op_move (ev_hit hN6 rfl) (g_true (j := 9) (dj := 54) (b := true) rfl rfl rfl (ev_hit hN6 rfl) (op_move (ev_base hN6 rfl s6_2) (g_true (j := 9) (dj := 54) (b := true) rfl rfl rfl (ev_hit hN6 rfl) (op_move (ev_hit hN6 rfl) ?_)))))
        rcases Bool.eq_false_or_eq_true (more) with g56 | g56
        ·
         rw [g56]
         refine g_false (j := 11) (dj := 56) (b := false) rfl rfl rfl (ev_hit hN6 rfl) rfl rfl (g_true (j := 9) (dj := 54) (b := true) rfl rfl rfl (ev_hit hN6 rfl) (op_pick_t (ev_hit hN6 rfl) rfl ?_))
         refine g_true (j := 6) (dj := 51) (b := false) rfl rfl rfl (ev_hit hN6 rfl) (op_pick_t (ev_hit hN6 rfl) (ev_hit hN6 rfl) ?_)
         refine op_pick_f (ev_hit hN6 rfl) (ev_hit hN6 rfl) ?_
         refine reg_nil (hK171 _ _ (wp_cond_true (ev_hit hN6 rfl) (one_reg (op_assign rfl (reg_nil (hK170 _ _ ?_))))))
         exact hJ168 _ _ _ hN6 hd6 ⟨11, (sl_base hN6 rfl s6_8), (sl_hit hN6 rfl), (sl_hit hN6 rfl), (by unfold wantA; rw [if_pos (.inr ⟨by omega, .inl c34⟩)]), hb, (by omega), hO136, hB24⟩
        ·
         exact absurd (g56.symm.trans c34) (by decide)
       ·
        refine g_true (j := 6) (dj := 51) (b := false) rfl rfl rfl (ev_hit hN6 rfl) (op_move (ev_hit hN6 rfl) (g_false (j := 9) (dj := 54) (b := true) rfl rfl rfl (ev_hit hN6 rfl) rfl rfl (g_false (j := 9) (dj := 54) (b := true) rfl rfl rfl (ev_hit hN6 rfl) rfl rfl (g_undef (j := 11) (dj := 56) (b := false) rfl rfl rfl (ev_hit hN6 rfl) rfl ?_))))
        refine g_false (j := 9) (dj := 54) (b := true) rfl rfl rfl (ev_hit hN6 rfl) rfl rfl (g_true (j := 6) (dj := 51) (b := false) rfl rfl rfl (ev_hit hN6 rfl) (op_pick_f (ev_hit hN6 rfl) rfl ?_))
        refine op_pick_f (ev_hit hN6 rfl) (ev_hit hN6 rfl) ?_
        refine reg_nil (hK171 _ _ (wp_cond_false (ev_hit hN6 rfl) (wp_skip (hK170 _ _ ?_))))
        exact hJ168 _ _ _ hN6 hd6 ⟨0, (sl_base hN6 rfl s6_8), (sl_hit hN6 rfl), (sl_hit hN6 rfl), (by unfold wantA; rw [if_neg (fun g => g.elim (fun g => (by have := g.1; omega)) (fun g => (by have := g.1; omega)))]), hb, (by omega), hO136, hB24⟩
     ·
      rintro a168 w168 hN168 hd168 ⟨wt, s168_8, s168_11, s168_12, hwt, hb, zl_w168, hO136, hB24⟩
      have z_w168 := hb.size
      refine seq_any fun K172 hK172 => reg_split (hd := [_, _, _, _]) (tl := _) 4 mixed (by kernel_rfl) rfl rfl ?_
      refine any_env (φ := phiV [(fun _ => True), (fun uz => uz = (Value.agg #[(Value.int .i64 6), (Value.string (bs [116])), (Value.string (bs [])), (Value.slice none 0 0), (Value.slice none 0 0), (Value.slice none 0 0), v133, (Value.string (bs [])), (Value.slice none 0 0), (Value.slice none 0 0), (Value.slice none 0 0), (Value.bool false), (Value.slice none 0 0)])), (fun _ => True), (fun uz => uz = (Value.int .i64 wt))]) (G := fun w' => Bx w' b22 45 [(Value.int .i64 6), (Value.string (bs [116])), (Value.string (bs [])), (Value.slice none 0 0), (Value.slice none 0 0), (Value.slice none 0 0), v133, (Value.string (bs [])), (Value.slice none 0 0), (Value.slice none 0 0), (Value.slice none 0 0), (Value.bool false), (Value.slice none 0 0)]) [0, 2] (by kernel_rfl) (by kernel_rfl) (by kernel_rfl) (by kernel_rfl) hN168 (fun w1 w2 E h => h.keep0 E) hB24 (ObEs.pass rfl (ObEs.cons ?_ (ObEs.pass rfl (ObEs.cons ?_ (ObEs.nil))))) (by simp only [putsL_defers]) ?_
      ·
       intro eA aA wA hNA hGA hbsA hdpA
       have qA_11 := (hbsA 11 rfl).trans (sl_base hN168 rfl s168_11)
       refine op_loadA (cs := [(Value.int .i64 6), (Value.string (bs [116])), (Value.string (bs [])), (Value.slice none 0 0), (Value.slice none 0 0), (Value.slice none 0 0), v133, (Value.string (bs [])), (Value.slice none 0 0), (Value.slice none 0 0), (Value.slice none 0 0), (Value.bool false), (Value.slice none 0 0)]) agg45 rfl (ev_base hNA rfl qA_11) (fun j u hu => by rw [Nat.zero_add]; exact hGA.cell hu) ?_
       exact obE_end rfl rfl rfl
      ·
       intro eA aA wA hNA hGA hbsA hdpA
       have qA_12 := (hbsA 12 rfl).trans (sl_base hN168 rfl s168_12)
       refine op_move (ev_base hNA rfl qA_12) ?_
       exact obE_end rfl rfl rfl
      ·
       intro w173 E173 _ a173 hN173 hbs173 hdp173 o_ ho_; obtain rfl := Option.some.inj ho_
       have z_w173 := E173.size
       have hO136 := hO136.keep0 E173
       have hB24 := hB24.keep0 E173
       have hb := below_step0 hb E173 hb.size
       refine op_fn (vs := []) ok16 trivial (Schema_ret _) ?_
       rintro _ w175 ⟨E176, tv174, D174, rfl, hM174, hT174⟩
       have E176 := grown_of_below E176
       have z_w175 := E176.size
       have hO136 := hO136.keep0 E176
       have hB24 := hB24.keep0 E176
       have hb := below_step0 hb E176 hb.size
       have hR174 := hT174.1
       have hz174 := sch_sz hM174
       refine ke_end rfl (by decide) rfl hB24 ?_
       intro w177 E177 _ a177 hN177 hbs177 hdp177 o_ ho_; obtain rfl := Option.some.inj ho_
       have z_w177 := E177.size
       have hO136 := hO136.keep0 E177
       have hB24 := hB24.keep0 E177
       have hT174 := hT174.keep0 E177
       have hb := below_step0 hb E177 hb.size
       have q177_61 : Sl a177 61 (Value.agg #[tv174, (Value.slice none 0 0)]) := (Option.some.inj ((hdp177 0 _ 61 (by kernel_rfl) rfl rfl).1 0 rfl)).symm
       have q177_62 : Sl a177 62 (Value.agg #[(Value.int .i64 6), (Value.string (bs [116])), (Value.string (bs [])), (Value.slice none 0 0), (Value.slice none 0 0), (Value.slice none 0 0), v133, (Value.string (bs [])), (Value.slice none 0 0), (Value.slice none 0 0), (Value.slice none 0 0), (Value.bool false), (Value.slice none 0 0)]) := (hdp177 1 _ 62 (by kernel_rfl) rfl rfl).2 rfl
       refine op_fn (vs := [(Value.agg #[tv174, (Value.slice none 0 0)]), (Value.agg #[(Value.int .i64 6), (Value.string (bs [116])), (Value.string (bs [])), (Value.slice none 0 0), (Value.slice none 0 0), (Value.slice none 0 0), v133, (Value.string (bs [])), (Value.slice none 0 0), (Value.slice none 0 0), (Value.slice none 0 0), (Value.bool false), (Value.slice none 0 0)])]) ok19 ⟨(ev_base hN177 rfl q177_61), ⟨(ev_base hN177 rfl q177_62), trivial⟩⟩ (checkM hM174 (XS.mk (StF.mk 6 ([116]) [] (Value.slice none 0 0) [] (Value.slice none 0 0) [] (Value.slice none 0 0) [] v133 ([(PItm.mk ((a9 : Nat) : Int) [] n9)] ++ [(PItm.mk 0 [] ([107]))]) [] (Value.slice none 0 0) [] (Value.slice none 0 0) [] (Value.slice none 0 0) [] false) (Value.slice none 0 0) []) (hT174.mono (by omega)) hz174.1 hz174.2 (SRd.mk (s := (XS.mk (StF.mk 6 ([116]) [] (Value.slice none 0 0) [] (Value.slice none 0 0) [] (Value.slice none 0 0) [] v133 ([(PItm.mk ((a9 : Nat) : Int) [] n9)] ++ [(PItm.mk 0 [] ([107]))]) [] (Value.slice none 0 0) [] (Value.slice none 0 0) [] (Value.slice none 0 0) [] false) (Value.slice none 0 0) [])) ⟨(RdC.nil _ _ _ _), (RdC.nil _ _ _ _), (XsRd.nil _ _), (hO136.rdw.mono (Nat.zero_le _) (by omega)), (XsRd.nil _ _), (XsRd.nil _ _), (XsRd.nil _ _)⟩ (RdC.nil _ _ _ _) (fun _ h => (by cases h)))) ?_
       rintro _ w178 ⟨E179, rfl⟩
       have E179 := grown_of_below E179
       have z_w178 := E179.size
       have hB24 := hB24.keep0 E179
       have hb := below_step0 hb E179 hb.size
       refine ke_end rfl (by decide) rfl hB24 ?_
       intro w180 E180 a180 hN180 hd180 hbs180 hph180
       have hd180 := hd180.trans ((by simp only [putsL_defers] : _ = _).trans hd168)
       have z_w180 := E180.size
       have hb := below_step0 hb E180 hb.size
       have s180_63 : Sl a180 63 (Value.int .i64 (checkE schT [] (XS.mk (StF.mk 6 ([116]) [] (Value.slice none 0 0) [] (Value.slice none 0 0) [] (Value.slice none 0 0) [] v133 ([(PItm.mk ((a9 : Nat) : Int) [] n9)] ++ [(PItm.mk 0 [] ([107]))]) [] (Value.slice none 0 0) [] (Value.slice none 0 0) [] (Value.slice none 0 0) [] false) (Value.slice none 0 0) []))) := (Option.some.inj ((hph180 2 _ 63 rfl rfl).1 1 rfl)).symm
       have s180_64 : Sl a180 64 (Value.int .i64 wt) := (hph180 3 _ 64 rfl rfl).2 rfl
       refine split_end ?_
       refine from_seq (tl := [_, _]) (by decide) (by kernel_rfl) rfl ?_
       have hit : itemsA a9 n9 true = ([(PItm.mk (a9 : Int) [] n9)] ++ [(PItm.mk 0 [] [107])]) := by unfold itemsA; rw [if_neg (show ¬ a9 = 1 by omega)]; rfl
       have hck : checkE schT [] (XS.mk (StF.mk 6 ([116]) [] (Value.slice none 0 0) [] (Value.slice none 0 0) [] (Value.slice none 0 0) [] v133 ([(PItm.mk ((a9 : Nat) : Int) [] n9)] ++ [(PItm.mk 0 [] ([107]))]) [] (Value.slice none 0 0) [] (Value.slice none 0 0) [] (Value.slice none 0 0) [] false) (Value.slice none 0 0) []) = wantA a9 n9 true false := by have h9 := @aggs_all v133 (Value.slice none 0 0) (Value.slice none 0 0) (.slice none 0 0) n9 a9 hn9 ha9 true false; rw [hit] at h9; exact h9
       refine op_eql (ev_base hN180 rfl s180_63) (ev_base hN180 rfl s180_64) (fun c65 => ?_) (fun c65 => ?_)
       ·
        refine op_assign (ev_hit hN180 rfl) (reg_nil (hK172 _ _ (wp_ret ?_)))
        refine ret1 rfl hd180 (ev_hit hN180 rfl) ⟨_, rfl, ?_⟩
        exact ⟨hb, rfl⟩
       ·
        rw [hwt, c34, c41] at c65; exact absurd hck c65
   ·
    refine wp_skip (hK127 _ _ (seq_any fun K181 hK181 => seq_any fun K182 hK182 => ?_))
    refine one_reg (op_move (ev_base hN6 rfl s6_3) (reg_nil (hK182 _ _ (wp_cond_split (ev_hit hN6 rfl) (fun c41 => ?_) (fun c41 => ?_)))))
    ·
     refine one_reg (op_fn (vs := [(Value.string (bs [])), (Value.string (bs [107]))]) ok25 ⟨rfl, ⟨rfl, trivial⟩⟩ (col_ret [] ([107]) _) ?_)
     rintro _ w183 ⟨E184, rfl⟩
     have E184 := grown_of_below E184
     have z_w183 := E184.size
     have hB20 := hB20.keep0 E184
     have hB24 := hB24.keep0 E184
     have hb := below_step0 hb E184 hb.size
     refine op_bslice (e := 28) (pv := [(0, (Value.agg #[(Value.int .i64 2), (Value.int .i64 0), (Value.int .i64 0), (Value.string (bs [])), (Value.string (bs [])), (Value.string (bs [107])), (Value.slice none 0 0)]))]) (cs := [(Value.int .i64 2), (Value.int .i64 0), (Value.int .i64 0), (Value.string (bs [])), (Value.string (bs [])), (Value.string (bs [107])), (Value.slice none 0 0)]) ⟨rfl, (ev_hit hN6 rfl), trivial⟩ (by kernel_rfl) ?_
     intro w185 b186 lo_b186 hi_b186 hB188 E187
     have z_w185 := E187.size
     have hB20 := hB20.keep0 E187
     have hB24 := hB24.keep0 E187
     have hb := below_step0 hb E187 hb.size
     refine op_field fld45_10 (ev_hit hN6 rfl) ?_
     have hB24_old := hB24
     refine op_store (vs := [(Value.slice (some ⟨b186, 0, none⟩) 1 1)]) (cs' := [(Value.int .i64 6), (Value.string (bs [116])), (Value.string (bs [])), (Value.slice none 0 0), (Value.slice none 0 0), (Value.slice none 0 0), (Value.slice (some ⟨b18, 0, none⟩) 1 1), (Value.string (bs [])), (Value.slice none 0 0), (Value.slice none 0 0), (Value.slice (some ⟨b186, 0, none⟩) 1 1), (Value.bool false), (Value.slice none 0 0)]) size26 (ev_hit hN6 rfl) (ev_hit hN6 rfl) rfl rfl rfl hB24 (Nat.le_of_ble_eq_true rfl) rfl ?_
     intro w191 hB24 E192
     have z_w191 := E192.size
     have hB20 := hB20.keep E192 (fun hh => hB20.ne hB24_old (by decide) (Option.some.inj hh))
     have hB188 := hB188.keep E192 (fun hh => hB188.ne hB24_old (by decide) (Option.some.inj hh))
     have hb := below_step1 hb E192 hb.size (by omega)
     refine reg_nil (hK181 _ _ (seq_join2 (N := 66) (fun az_ w' => ∃ (wt : Int), (az_.tmps.getD 8 undef = (Value.bool false)) ∧ (az_.tmps.getD 11 undef = (ptr b22 0)) ∧ (az_.tmps.getD 12 undef = (Value.int .i64 wt)) ∧ (wt = wantA a9 n9 more order) ∧ (Below w.heap.size w w') ∧ (w191.heap.size ≤ w'.heap.size) ∧ (Bx w' b18 63 [(Value.int .i64 ((a9 : Nat) : Int)), (Value.string (bs [])), (Value.string (bs n9))]) ∧ (Bx w' b186 28 [(Value.int .i64 2), (Value.int .i64 0), (Value.int .i64 0), (Value.string (bs [])), (Value.string (bs [])), (Value.string (bs [107])), (Value.slice none 0 0)]) ∧ (Bx w' b22 45 [(Value.int .i64 6), (Value.string (bs [116])), (Value.string (bs [])), (Value.slice none 0 0), (Value.slice none 0 0), (Value.slice none 0 0), (Value.slice (some ⟨b18, 0, none⟩) 1 1), (Value.string (bs [])), (Value.slice none 0 0), (Value.slice none 0 0), (Value.slice (some ⟨b186, 0, none⟩) 1 1), (Value.bool false), (Value.slice none 0 0)])) (fun hJ193 => ?_) ?_))
     ·
      refine seq_any fun K194 hK194 => ?_
      refine one_reg (op_assign rfl (reg_nil (hK194 _ _ (seq_any fun K195 hK195 => seq_any fun K196 hK196 => ?_))))
      refine one_reg (op_move (ev_base hN6 rfl s6_10) (op_eql (ev_hit hN6 rfl) rfl (fun c46 => ?_) (fun c46 => ?_)))
      ·
       refine op_move (ev_hit hN6 rfl) (g_true (j := 2) (dj := 47) (b := true) rfl rfl rfl (ev_hit hN6 rfl) (op_move (ev_base hN6 rfl s6_9) (g_true (j := 2) (dj := 47) (b := true) rfl rfl rfl (ev_hit hN6 rfl) (op_seql (ev_hit hN6 rfl) rfl (fun c49 => ?_) (fun c49 => ?_)))))
       ·
        refine op_pick_t (ev_hit hN6 rfl) (ev_hit hN6 rfl) ?_
        refine op_move (ev_hit hN6 rfl) (g_false (j := 6) (dj := 51) (b := false) rfl rfl rfl (ev_hit hN6 rfl) rfl rfl (g_false (j := 6) (dj := 51) (b := false) rfl rfl rfl (ev_hit hN6 rfl) rfl rfl (g_false (j := 6) (dj := 51) (b := false) rfl rfl rfl (ev_hit hN6 rfl) rfl rfl (g_undef (j := 9) (dj := 54) (b := true) rfl rfl rfl (ev_hit hN6 rfl) rfl ?_))))
        refine g_undef (j := 9) (dj := 54) (b := true) rfl rfl rfl (ev_hit hN6 rfl) rfl ?_
        refine g_undef (j := 11) (dj := 56) (b := false) rfl rfl rfl (ev_hit hN6 rfl) rfl ?_
        refine g_undef (j := 9) (dj := 54) (b := true) rfl rfl rfl (ev_hit hN6 rfl) rfl ?_
        refine g_false (j := 6) (dj := 51) (b := false) rfl rfl rfl (ev_hit hN6 rfl) rfl rfl (op_pick_t (ev_hit hN6 rfl) rfl ?_)
        refine reg_nil (hK196 _ _ (wp_cond_true (ev_hit hN6 rfl) (one_reg (op_assign rfl (reg_nil (hK195 _ _ ?_))))))
        exact hJ193 _ _ _ hN6 hd6 ⟨11, (sl_base hN6 rfl s6_8), (sl_hit hN6 rfl), (sl_hit hN6 rfl), (by unfold wantA; rw [if_pos (.inl ⟨by omega, c49⟩)]), hb, (by omega), hB20, hB188, hB24⟩
       ·
        refine op_pick_t (ev_hit hN6 rfl) (ev_hit hN6 rfl) ?_
        refine op_move (ev_hit hN6 rfl) (g_true (j := 6) (dj := 51) (b := false) rfl rfl rfl (ev_hit hN6 rfl) (op_move (ev_base hN6 rfl s6_10) (g_true (j := 6) (dj := 51) (b := false) rfl rfl rfl (ev_hit hN6 rfl) (op_neq (ev_hit hN6 rfl) rfl (fun c53 => ?_) (fun c53 => ?_)))))
        ·
         refine g_true (j := 6) (dj := 51) (b := false) rfl rfl rfl (ev_hit hN6 rfl) (op_move (ev_hit hN6 rfl) (g_true (j := 9) (dj := 54) (b := true) rfl rfl rfl (ev_hit hN6 rfl) (op_move (ev_base hN6 rfl s6_2) (g_true (j := 9) (dj := 54) (b := true) rfl rfl rfl (ev_hit hN6 rfl) (op_move (ev_hit hN6 rfl) ?_)))))
         rcases Bool.eq_false_or_eq_true (more) with g56 | g56
         ·
          exact absurd (g56.symm.trans c34) (by decide)
         ·
          rw [g56]
          refine g_true (j := 11) (dj := 56) (b := false) rfl rfl rfl (ev_hit hN6 rfl) (op_move (ev_base hN6 rfl s6_3) (g_true (j := 9) (dj := 54) (b := true) rfl rfl rfl (ev_hit hN6 rfl) (op_pick_f (ev_hit hN6 rfl) (ev_hit hN6 rfl) ?_)))
          refine g_true (j := 6) (dj := 51) (b := false) rfl rfl rfl (ev_hit hN6 rfl) (op_pick_t (ev_hit hN6 rfl) (ev_hit hN6 rfl) ?_)
          refine op_pick_f (ev_hit hN6 rfl) (ev_hit hN6 rfl) ?_
          refine reg_nil (hK196 _ _ (wp_cond_split (ev_hit hN6 rfl) (fun c60 => ?_) (fun c60 => ?_)))
          ·
           refine one_reg (op_assign rfl (reg_nil (hK195 _ _ ?_)))
           exact hJ193 _ _ _ hN6 hd6 ⟨11, (sl_base hN6 rfl s6_8), (sl_hit hN6 rfl), (sl_hit hN6 rfl), (by unfold wantA; rw [if_pos (.inr ⟨by omega, .inr c41⟩)]), hb, (by omega), hB20, hB188, hB24⟩
          ·
           exact absurd (c60.symm.trans c41) (by decide)
        ·
         refine g_true (j := 6) (dj := 51) (b := false) rfl rfl rfl (ev_hit hN6 rfl) (op_move (ev_hit hN6 rfl) (g_false (j := 9) (dj := 54) (b := true) rfl rfl rfl (ev_hit hN6 rfl) rfl rfl (g_false (j := 9) (dj := 54) (b := true) rfl rfl rfl (ev_hit hN6 rfl) rfl rfl (g_undef (j := 11) (dj := 56) (b := false) rfl rfl rfl (ev_hit hN6 rfl) rfl ?_))))
         refine g_false (j := 9) (dj := 54) (b := true) rfl rfl rfl (ev_hit hN6 rfl) rfl rfl (g_true (j := 6) (dj := 51) (b := false) rfl rfl rfl (ev_hit hN6 rfl) (op_pick_f (ev_hit hN6 rfl) rfl ?_))
         refine op_pick_f (ev_hit hN6 rfl) (ev_hit hN6 rfl) ?_
         refine reg_nil (hK196 _ _ (wp_cond_false (ev_hit hN6 rfl) (wp_skip (hK195 _ _ ?_))))
         exact hJ193 _ _ _ hN6 hd6 ⟨0, (sl_base hN6 rfl s6_8), (sl_hit hN6 rfl), (sl_hit hN6 rfl), (by unfold wantA; rw [if_neg (fun g => g.elim (fun g => c49 g.2) (fun g => (by have := g.1; omega)))]), hb, (by omega), hB20, hB188, hB24⟩
      ·
       refine op_move (ev_hit hN6 rfl) (g_false (j := 2) (dj := 47) (b := true) rfl rfl rfl (ev_hit hN6 rfl) rfl rfl (g_false (j := 2) (dj := 47) (b := true) rfl rfl rfl (ev_hit hN6 rfl) rfl rfl (op_pick_f (ev_hit hN6 rfl) rfl ?_)))
       refine op_move (ev_hit hN6 rfl) (g_true (j := 6) (dj := 51) (b := false) rfl rfl rfl (ev_hit hN6 rfl) (op_move (ev_base hN6 rfl s6_10) (g_true (j := 6) (dj := 51) (b := false) rfl rfl rfl (ev_hit hN6 rfl) (op_neq (ev_hit hN6 rfl) rfl (fun c53 => ?_) (fun c53 => ?_)))))
       ·
        refine g_true (j := 6) (dj := 51) (b := false) rfl rfl rfl (ev_hit hN6 rfl) (op_move (ev_hit hN6 rfl) (g_true (j := 9) (dj := 54) (b := true) rfl rfl rfl (ev_hit hN6 rfl) (op_move (ev_base hN6 rfl s6_2) (g_true (j := 9) (dj := 54) (b := true) rfl rfl rfl (ev_hit hN6 rfl) (op_move (ev_hit hN6 rfl) ?_)))))
        rcases Bool.eq_false_or_eq_true (more) with g56 | g56
        ·
         exact absurd (g56.symm.trans c34) (by decide)
        ·
         rw [g56]
         refine g_true (j := 11) (dj := 56) (b := false) rfl rfl rfl (ev_hit hN6 rfl) (op_move (ev_base hN6 rfl s6_3) (g_true (j := 9) (dj := 54) (b := true) rfl rfl rfl (ev_hit hN6 rfl) (op_pick_f (ev_hit hN6 rfl) (ev_hit hN6 rfl) ?_)))
         refine g_true (j := 6) (dj := 51) (b := false) rfl rfl rfl (ev_hit hN6 rfl) (op_pick_t (ev_hit hN6 rfl) (ev_hit hN6 rfl) ?_)
         refine op_pick_f (ev_hit hN6 rfl) (ev_hit hN6 rfl) ?_
         refine reg_nil (hK196 _ _ (wp_cond_split (ev_hit hN6 rfl) (fun c60 => ?_) (fun c60 => ?_)))
         ·
          refine one_reg (op_assign rfl (reg_nil (hK195 _ _ ?_)))
          exact hJ193 _ _ _ hN6 hd6 ⟨11, (sl_base hN6 rfl s6_8), (sl_hit hN6 rfl), (sl_hit hN6 rfl), (by unfold wantA; rw [if_pos (.inr ⟨by omega, .inr c41⟩)]), hb, (by omega), hB20, hB188, hB24⟩
         ·
          exact absurd (c60.symm.trans c41) (by decide)
       ·
        refine g_true (j := 6) (dj := 51) (b := false) rfl rfl rfl (ev_hit hN6 rfl) (op_move (ev_hit hN6 rfl) (g_false (j := 9) (dj := 54) (b := true) rfl rfl rfl (ev_hit hN6 rfl) rfl rfl (g_false (j := 9) (dj := 54) (b := true) rfl rfl rfl (ev_hit hN6 rfl) rfl rfl (g_undef (j := 11) (dj := 56) (b := false) rfl rfl rfl (ev_hit hN6 rfl) rfl ?_))))
        refine g_false (j := 9) (dj := 54) (b := true) rfl rfl rfl (ev_hit hN6 rfl) rfl rfl (g_true (j := 6) (dj := 51) (b := false) rfl rfl rfl (ev_hit hN6 rfl) (op_pick_f (ev_hit hN6 rfl) rfl ?_))
        refine op_pick_f (ev_hit hN6 rfl) (ev_hit hN6 rfl) ?_
        refine reg_nil (hK196 _ _ (wp_cond_false (ev_hit hN6 rfl) (wp_skip (hK195 _ _ ?_))))
        exact hJ193 _ _ _ hN6 hd6 ⟨0, (sl_base hN6 rfl s6_8), (sl_hit hN6 rfl), (sl_hit hN6 rfl), (by unfold wantA; rw [if_neg (fun g => g.elim (fun g => (by have := g.1; omega)) (fun g => (by have := g.1; omega)))]), hb, (by omega), hB20, hB188, hB24⟩
     ·
      rintro a193 w193 hN193 hd193 ⟨wt, s193_8, s193_11, s193_12, hwt, hb, zl_w193, hB20, hB188, hB24⟩
      have z_w193 := hb.size
      refine seq_any fun K197 hK197 => reg_split (hd := [_, _, _, _]) (tl := _) 4 mixed (by kernel_rfl) rfl rfl ?_
      refine any_env (φ := phiV [(fun _ => True), (fun uz => uz = (Value.agg #[(Value.int .i64 6), (Value.string (bs [116])), (Value.string (bs [])), (Value.slice none 0 0), (Value.slice none 0 0), (Value.slice none 0 0), (Value.slice (some ⟨b18, 0, none⟩) 1 1), (Value.string (bs [])), (Value.slice none 0 0), (Value.slice none 0 0), (Value.slice (some ⟨b186, 0, none⟩) 1 1), (Value.bool false), (Value.slice none 0 0)])), (fun _ => True), (fun uz => uz = (Value.int .i64 wt))]) (G := fun w' => Bx w' b22 45 [(Value.int .i64 6), (Value.string (bs [116])), (Value.string (bs [])), (Value.slice none 0 0), (Value.slice none 0 0), (Value.slice none 0 0), (Value.slice (some ⟨b18, 0, none⟩) 1 1), (Value.string (bs [])), (Value.slice none 0 0), (Value.slice none 0 0), (Value.slice (some ⟨b186, 0, none⟩) 1 1), (Value.bool false), (Value.slice none 0 0)]) [0, 2] (by kernel_rfl) (by kernel_rfl) (by kernel_rfl) (by kernel_rfl) hN193 (fun w1 w2 E h => h.keep0 E) hB24 (ObEs.pass rfl (ObEs.cons ?_ (ObEs.pass rfl (ObEs.cons ?_ (ObEs.nil))))) (by simp only [putsL_defers]) ?_
      ·
       intro eA aA wA hNA hGA hbsA hdpA
       have qA_11 := (hbsA 11 rfl).trans (sl_base hN193 rfl s193_11)
       refine op_loadA (cs := [(Value.int .i64 6), (Value.string (bs [116])), (Value.string (bs [])), (Value.slice none 0 0), (Value.slice none 0 0), (Value.slice none 0 0), (Value.slice (some ⟨b18, 0, none⟩) 1 1), (Value.string (bs [])), (Value.slice none 0 0), (Value.slice none 0 0), (Value.slice (some ⟨b186, 0, none⟩) 1 1), (Value.bool false), (Value.slice none 0 0)]) agg45 rfl (ev_base hNA rfl qA_11) (fun j u hu => by rw [Nat.zero_add]; exact hGA.cell hu) ?_
       exact obE_end rfl rfl rfl
      ·
       intro eA aA wA hNA hGA hbsA hdpA
       have qA_12 := (hbsA 12 rfl).trans (sl_base hN193 rfl s193_12)
       refine op_move (ev_base hNA rfl qA_12) ?_
       exact obE_end rfl rfl rfl
      ·
       intro w198 E198 _ a198 hN198 hbs198 hdp198 o_ ho_; obtain rfl := Option.some.inj ho_
       have z_w198 := E198.size
       have hB20 := hB20.keep0 E198
       have hB188 := hB188.keep0 E198
       have hB24 := hB24.keep0 E198
       have hb := below_step0 hb E198 hb.size
       refine op_fn (vs := []) ok16 trivial (Schema_ret _) ?_
       rintro _ w200 ⟨E201, tv199, D199, rfl, hM199, hT199⟩
       have E201 := grown_of_below E201
       have z_w200 := E201.size
       have hB20 := hB20.keep0 E201
       have hB188 := hB188.keep0 E201
       have hB24 := hB24.keep0 E201
       have hb := below_step0 hb E201 hb.size
       have hR199 := hT199.1
       have hz199 := sch_sz hM199
       refine ke_end rfl (by decide) rfl hB24 ?_
       intro w202 E202 _ a202 hN202 hbs202 hdp202 o_ ho_; obtain rfl := Option.some.inj ho_
       have z_w202 := E202.size
       have hB20 := hB20.keep0 E202
       have hB188 := hB188.keep0 E202
       have hB24 := hB24.keep0 E202
       have hT199 := hT199.keep0 E202
       have hb := below_step0 hb E202 hb.size
       have q202_61 : Sl a202 61 (Value.agg #[tv199, (Value.slice none 0 0)]) := (Option.some.inj ((hdp202 0 _ 61 (by kernel_rfl) rfl rfl).1 0 rfl)).symm
       have q202_62 : Sl a202 62 (Value.agg #[(Value.int .i64 6), (Value.string (bs [116])), (Value.string (bs [])), (Value.slice none 0 0), (Value.slice none 0 0), (Value.slice none 0 0), (Value.slice (some ⟨b18, 0, none⟩) 1 1), (Value.string (bs [])), (Value.slice none 0 0), (Value.slice none 0 0), (Value.slice (some ⟨b186, 0, none⟩) 1 1), (Value.bool false), (Value.slice none 0 0)]) := (hdp202 1 _ 62 (by kernel_rfl) rfl rfl).2 rfl
       refine op_fn (vs := [(Value.agg #[tv199, (Value.slice none 0 0)]), (Value.agg #[(Value.int .i64 6), (Value.string (bs [116])), (Value.string (bs [])), (Value.slice none 0 0), (Value.slice none 0 0), (Value.slice none 0 0), (Value.slice (some ⟨b18, 0, none⟩) 1 1), (Value.string (bs [])), (Value.slice none 0 0), (Value.slice none 0 0), (Value.slice (some ⟨b186, 0, none⟩) 1 1), (Value.bool false), (Value.slice none 0 0)])]) ok19 ⟨(ev_base hN202 rfl q202_61), ⟨(ev_base hN202 rfl q202_62), trivial⟩⟩ (checkM hM199 (XS.mk (StF.mk 6 ([116]) [] (Value.slice none 0 0) [] (Value.slice none 0 0) [] (Value.slice none 0 0) [] (Value.slice (some ⟨b18, 0, none⟩) 1 1) ([(PItm.mk ((a9 : Nat) : Int) [] n9)]) [] (Value.slice none 0 0) [] (Value.slice none 0 0) [] (Value.slice (some ⟨b186, 0, none⟩) 1 1) ([(XE.mk 2 0 0 [] [] ([107]) (Value.slice none 0 0) [])]) false) (Value.slice none 0 0) []) (hT199.mono (by omega)) hz199.1 hz199.2 (SRd.mk (s := (XS.mk (StF.mk 6 ([116]) [] (Value.slice none 0 0) [] (Value.slice none 0 0) [] (Value.slice none 0 0) [] (Value.slice (some ⟨b18, 0, none⟩) 1 1) ([(PItm.mk ((a9 : Nat) : Int) [] n9)]) [] (Value.slice none 0 0) [] (Value.slice none 0 0) [] (Value.slice (some ⟨b186, 0, none⟩) 1 1) ([(XE.mk 2 0 0 [] [] ([107]) (Value.slice none 0 0) [])]) false) (Value.slice none 0 0) [])) ⟨(RdC.nil _ _ _ _), (RdC.nil _ _ _ _), (XsRd.nil _ _), (rd_items (x := (PItm.mk ((a9 : Nat) : Int) [] n9)) hB20 (by omega)), (XsRd.nil _ _), (XsRd.nil _ _), (XsRd.lit1 (e := (XE.mk 2 0 0 [] [] ([107]) (Value.slice none 0 0) [])) hB188 (by omega) (XRd.bare rfl rfl))⟩ (RdC.nil _ _ _ _) (fun _ h => (by cases h)))) ?_
       rintro _ w203 ⟨E204, rfl⟩
       have E204 := grown_of_below E204
       have z_w203 := E204.size
       have hB24 := hB24.keep0 E204
       have hb := below_step0 hb E204 hb.size
       refine ke_end rfl (by decide) rfl hB24 ?_
       intro w205 E205 a205 hN205 hd205 hbs205 hph205
       have hd205 := hd205.trans ((by simp only [putsL_defers] : _ = _).trans hd193)
       have z_w205 := E205.size
       have hb := below_step0 hb E205 hb.size
       have s205_63 : Sl a205 63 (Value.int .i64 (checkE schT [] (XS.mk (StF.mk 6 ([116]) [] (Value.slice none 0 0) [] (Value.slice none 0 0) [] (Value.slice none 0 0) [] (Value.slice (some ⟨b18, 0, none⟩) 1 1) ([(PItm.mk ((a9 : Nat) : Int) [] n9)]) [] (Value.slice none 0 0) [] (Value.slice none 0 0) [] (Value.slice (some ⟨b186, 0, none⟩) 1 1) ([(XE.mk 2 0 0 [] [] ([107]) (Value.slice none 0 0) [])]) false) (Value.slice none 0 0) []))) := (Option.some.inj ((hph205 2 _ 63 rfl rfl).1 1 rfl)).symm
       have s205_64 : Sl a205 64 (Value.int .i64 wt) := (hph205 3 _ 64 rfl rfl).2 rfl
       refine split_end ?_
       refine from_seq (tl := [_, _]) (by decide) (by kernel_rfl) rfl ?_
       have hit : itemsA a9 n9 false = [(PItm.mk (a9 : Int) [] n9)] := by unfold itemsA; rw [if_neg (show ¬ a9 = 1 by omega)]; rfl
       have hck : checkE schT [] (XS.mk (StF.mk 6 ([116]) [] (Value.slice none 0 0) [] (Value.slice none 0 0) [] (Value.slice none 0 0) [] (Value.slice (some ⟨b18, 0, none⟩) 1 1) ([(PItm.mk ((a9 : Nat) : Int) [] n9)]) [] (Value.slice none 0 0) [] (Value.slice none 0 0) [] (Value.slice (some ⟨b186, 0, none⟩) 1 1) ([(XE.mk 2 0 0 [] [] ([107]) (Value.slice none 0 0) [])]) false) (Value.slice none 0 0) []) = wantA a9 n9 false true := by have h9 := @aggs_all (Value.slice (some ⟨b18, 0, none⟩) 1 1) (Value.slice (some ⟨b186, 0, none⟩) 1 1) (Value.slice none 0 0) (.slice none 0 0) n9 a9 hn9 ha9 false true; rw [hit] at h9; exact h9
       refine op_eql (ev_base hN205 rfl s205_63) (ev_base hN205 rfl s205_64) (fun c65 => ?_) (fun c65 => ?_)
       ·
        refine op_assign (ev_hit hN205 rfl) (reg_nil (hK197 _ _ (wp_ret ?_)))
        refine ret1 rfl hd205 (ev_hit hN205 rfl) ⟨_, rfl, ?_⟩
        exact ⟨hb, rfl⟩
       ·
        rw [hwt, c34, c41] at c65; exact absurd hck c65
    ·
     refine wp_skip (hK181 _ _ (seq_join2 (N := 66) (fun az_ w' => ∃ (wt : Int), (az_.tmps.getD 8 undef = (Value.bool false)) ∧ (az_.tmps.getD 11 undef = (ptr b22 0)) ∧ (az_.tmps.getD 12 undef = (Value.int .i64 wt)) ∧ (wt = wantA a9 n9 more order) ∧ (Below w.heap.size w w') ∧ (w27.heap.size ≤ w'.heap.size) ∧ (Bx w' b18 63 [(Value.int .i64 ((a9 : Nat) : Int)), (Value.string (bs [])), (Value.string (bs n9))]) ∧ (Bx w' b22 45 [(Value.int .i64 6), (Value.string (bs [116])), (Value.string (bs [])), (Value.slice none 0 0), (Value.slice none 0 0), (Value.slice none 0 0), (Value.slice (some ⟨b18, 0, none⟩) 1 1), (Value.string (bs [])), (Value.slice none 0 0), (Value.slice none 0 0), (Value.slice none 0 0), (Value.bool false), (Value.slice none 0 0)])) (fun hJ206 => ?_) ?_))
     ·
      refine seq_any fun K207 hK207 => ?_
      refine one_reg (op_assign rfl (reg_nil (hK207 _ _ (seq_any fun K208 hK208 => seq_any fun K209 hK209 => ?_))))
      refine one_reg (op_move (ev_base hN6 rfl s6_10) (op_eql (ev_hit hN6 rfl) rfl (fun c46 => ?_) (fun c46 => ?_)))
      ·
       refine op_move (ev_hit hN6 rfl) (g_true (j := 2) (dj := 47) (b := true) rfl rfl rfl (ev_hit hN6 rfl) (op_move (ev_base hN6 rfl s6_9) (g_true (j := 2) (dj := 47) (b := true) rfl rfl rfl (ev_hit hN6 rfl) (op_seql (ev_hit hN6 rfl) rfl (fun c49 => ?_) (fun c49 => ?_)))))
       ·
        refine op_pick_t (ev_hit hN6 rfl) (ev_hit hN6 rfl) ?_
        refine op_move (ev_hit hN6 rfl) (g_false (j := 6) (dj := 51) (b := false) rfl rfl rfl (ev_hit hN6 rfl) rfl rfl (g_false (j := 6) (dj := 51) (b := false) rfl rfl rfl (ev_hit hN6 rfl) rfl rfl (g_false (j := 6) (dj := 51) (b := false) rfl rfl rfl (ev_hit hN6 rfl) rfl rfl (g_undef (j := 9) (dj := 54) (b := true) rfl rfl rfl (ev_hit hN6 rfl) rfl ?_))))
        refine g_undef (j := 9) (dj := 54) (b := true) rfl rfl rfl (ev_hit hN6 rfl) rfl ?_
        refine g_undef (j := 11) (dj := 56) (b := false) rfl rfl rfl (ev_hit hN6 rfl) rfl ?_
        refine g_undef (j := 9) (dj := 54) (b := true) rfl rfl rfl (ev_hit hN6 rfl) rfl ?_
        refine g_false (j := 6) (dj := 51) (b := false) rfl rfl rfl (ev_hit hN6 rfl) rfl rfl (op_pick_t (ev_hit hN6 rfl) rfl ?_)
        refine reg_nil (hK209 _ _ (wp_cond_true (ev_hit hN6 rfl) (one_reg (op_assign rfl (reg_nil (hK208 _ _ ?_))))))
        exact hJ206 _ _ _ hN6 hd6 ⟨11, (sl_base hN6 rfl s6_8), (sl_hit hN6 rfl), (sl_hit hN6 rfl), (by unfold wantA; rw [if_pos (.inl ⟨by omega, c49⟩)]), hb, (by omega), hB20, hB24⟩
       ·
        refine op_pick_t (ev_hit hN6 rfl) (ev_hit hN6 rfl) ?_
        refine op_move (ev_hit hN6 rfl) (g_true (j := 6) (dj := 51) (b := false) rfl rfl rfl (ev_hit hN6 rfl) (op_move (ev_base hN6 rfl s6_10) (g_true (j := 6) (dj := 51) (b := false) rfl rfl rfl (ev_hit hN6 rfl) (op_neq (ev_hit hN6 rfl) rfl (fun c53 => ?_) (fun c53 => ?_)))))
        ·
         refine g_true (j := 6) (dj := 51) (b := false) rfl rfl rfl (ev_hit hN6 rfl) (op_move (ev_hit hN6 rfl) (g_true (j := 9) (dj := 54) (b := true) rfl rfl rfl (ev_hit hN6 rfl) (op_move (ev_base hN6 rfl s6_2) (g_true (j := 9) (dj := 54) (b := true) rfl rfl rfl (ev_hit hN6 rfl) (op_move (ev_hit hN6 rfl) ?_)))))
         rcases Bool.eq_false_or_eq_true (more) with g56 | g56
         ·
          exact absurd (g56.symm.trans c34) (by decide)
         ·
          rw [g56]
          refine g_true (j := 11) (dj := 56) (b := false) rfl rfl rfl (ev_hit hN6 rfl) (op_move (ev_base hN6 rfl s6_3) (g_true (j := 9) (dj := 54) (b := true) rfl rfl rfl (ev_hit hN6 rfl) (op_pick_f (ev_hit hN6 rfl) (ev_hit hN6 rfl) ?_)))
          refine g_true (j := 6) (dj := 51) (b := false) rfl rfl rfl (ev_hit hN6 rfl) (op_pick_t (ev_hit hN6 rfl) (ev_hit hN6 rfl) ?_)
          refine op_pick_f (ev_hit hN6 rfl) (ev_hit hN6 rfl) ?_
          refine reg_nil (hK209 _ _ (wp_cond_split (ev_hit hN6 rfl) (fun c60 => ?_) (fun c60 => ?_)))
          ·
           exact absurd (c60.symm.trans c41) (by decide)
          ·
           refine wp_skip (hK208 _ _ ?_)
           exact hJ206 _ _ _ hN6 hd6 ⟨0, (sl_base hN6 rfl s6_8), (sl_hit hN6 rfl), (sl_hit hN6 rfl), (by unfold wantA; rw [if_neg (fun g => g.elim (fun g => c49 g.2) (fun g => g.2.elim (fun q => by rw [c34] at q; cases q) (fun q => by rw [c41] at q; cases q)))]), hb, (by omega), hB20, hB24⟩
        ·
         refine g_true (j := 6) (dj := 51) (b := false) rfl rfl rfl (ev_hit hN6 rfl) (op_move (ev_hit hN6 rfl) (g_false (j := 9) (dj := 54) (b := true) rfl rfl rfl (ev_hit hN6 rfl) rfl rfl (g_false (j := 9) (dj := 54) (b := true) rfl rfl rfl (ev_hit hN6 rfl) rfl rfl (g_undef (j := 11) (dj := 56) (b := false) rfl rfl rfl (ev_hit hN6 rfl) rfl ?_))))
         refine g_false (j := 9) (dj := 54) (b := true) rfl rfl rfl (ev_hit hN6 rfl) rfl rfl (g_true (j := 6) (dj := 51) (b := false) rfl rfl rfl (ev_hit hN6 rfl) (op_pick_f (ev_hit hN6 rfl) rfl ?_))
         refine op_pick_f (ev_hit hN6 rfl) (ev_hit hN6 rfl) ?_
         refine reg_nil (hK209 _ _ (wp_cond_false (ev_hit hN6 rfl) (wp_skip (hK208 _ _ ?_))))
         exact hJ206 _ _ _ hN6 hd6 ⟨0, (sl_base hN6 rfl s6_8), (sl_hit hN6 rfl), (sl_hit hN6 rfl), (by unfold wantA; rw [if_neg (fun g => g.elim (fun g => c49 g.2) (fun g => (by have := g.1; omega)))]), hb, (by omega), hB20, hB24⟩
      ·
       refine op_move (ev_hit hN6 rfl) (g_false (j := 2) (dj := 47) (b := true) rfl rfl rfl (ev_hit hN6 rfl) rfl rfl (g_false (j := 2) (dj := 47) (b := true) rfl rfl rfl (ev_hit hN6 rfl) rfl rfl (op_pick_f (ev_hit hN6 rfl) rfl ?_)))
       refine op_move (ev_hit hN6 rfl) (g_true (j := 6) (dj := 51) (b := false) rfl rfl rfl (ev_hit hN6 rfl) (op_move (ev_base hN6 rfl s6_10) (g_true (j := 6) (dj := 51) (b := false) rfl rfl rfl (ev_hit hN6 rfl) (op_neq (ev_hit hN6 rfl) rfl (fun c53 => ?_) (fun c53 => ?_)))))
       ·
        refine g_true (j := 6) (dj := 51) (b := false) rfl rfl rfl (ev_hit hN6 rfl) (op_move (ev_hit hN6 rfl) (g_true (j := 9) (dj := 54) (b := true) rfl rfl rfl (ev_hit hN6 rfl) (op_move (ev_base hN6 rfl s6_2) (g_true (j := 9) (dj := 54) (b := true) rfl rfl rfl (ev_hit hN6 rfl) (op_move (ev_hit hN6 rfl) ?_)))))
        rcases Bool.eq_false_or_eq_true (more) with g56 | g56
        ·
         exact absurd (g56.symm.trans c34) (by decide)
        ·
         rw [g56]
         refine g_true (j := 11) (dj := 56) (b := false) rfl rfl rfl (ev_hit hN6 rfl) (op_move (ev_base hN6 rfl s6_3) (g_true (j := 9) (dj := 54) (b := true) rfl rfl rfl (ev_hit hN6 rfl) (op_pick_f (ev_hit hN6 rfl) (ev_hit hN6 rfl) ?_)))
         refine g_true (j := 6) (dj := 51) (b := false) rfl rfl rfl (ev_hit hN6 rfl) (op_pick_t (ev_hit hN6 rfl) (ev_hit hN6 rfl) ?_)
         refine op_pick_f (ev_hit hN6 rfl) (ev_hit hN6 rfl) ?_
         refine reg_nil (hK209 _ _ (wp_cond_split (ev_hit hN6 rfl) (fun c60 => ?_) (fun c60 => ?_)))
         ·
          exact absurd (c60.symm.trans c41) (by decide)
         ·
          refine wp_skip (hK208 _ _ ?_)
          exact hJ206 _ _ _ hN6 hd6 ⟨0, (sl_base hN6 rfl s6_8), (sl_hit hN6 rfl), (sl_hit hN6 rfl), (by unfold wantA; rw [if_neg (fun g => g.elim (fun g => (by have := g.1; omega)) (fun g => g.2.elim (fun q => by rw [c34] at q; cases q) (fun q => by rw [c41] at q; cases q)))]), hb, (by omega), hB20, hB24⟩
       ·
        refine g_true (j := 6) (dj := 51) (b := false) rfl rfl rfl (ev_hit hN6 rfl) (op_move (ev_hit hN6 rfl) (g_false (j := 9) (dj := 54) (b := true) rfl rfl rfl (ev_hit hN6 rfl) rfl rfl (g_false (j := 9) (dj := 54) (b := true) rfl rfl rfl (ev_hit hN6 rfl) rfl rfl (g_undef (j := 11) (dj := 56) (b := false) rfl rfl rfl (ev_hit hN6 rfl) rfl ?_))))
        refine g_false (j := 9) (dj := 54) (b := true) rfl rfl rfl (ev_hit hN6 rfl) rfl rfl (g_true (j := 6) (dj := 51) (b := false) rfl rfl rfl (ev_hit hN6 rfl) (op_pick_f (ev_hit hN6 rfl) rfl ?_))
        refine op_pick_f (ev_hit hN6 rfl) (ev_hit hN6 rfl) ?_
        refine reg_nil (hK209 _ _ (wp_cond_false (ev_hit hN6 rfl) (wp_skip (hK208 _ _ ?_))))
        exact hJ206 _ _ _ hN6 hd6 ⟨0, (sl_base hN6 rfl s6_8), (sl_hit hN6 rfl), (sl_hit hN6 rfl), (by unfold wantA; rw [if_neg (fun g => g.elim (fun g => (by have := g.1; omega)) (fun g => (by have := g.1; omega)))]), hb, (by omega), hB20, hB24⟩
     ·
      rintro a206 w206 hN206 hd206 ⟨wt, s206_8, s206_11, s206_12, hwt, hb, zl_w206, hB20, hB24⟩
      have z_w206 := hb.size
      refine seq_any fun K210 hK210 => reg_split (hd := [_, _, _, _]) (tl := _) 4 mixed (by kernel_rfl) rfl rfl ?_
      refine any_env (φ := phiV [(fun _ => True), (fun uz => uz = (Value.agg #[(Value.int .i64 6), (Value.string (bs [116])), (Value.string (bs [])), (Value.slice none 0 0), (Value.slice none 0 0), (Value.slice none 0 0), (Value.slice (some ⟨b18, 0, none⟩) 1 1), (Value.string (bs [])), (Value.slice none 0 0), (Value.slice none 0 0), (Value.slice none 0 0), (Value.bool false), (Value.slice none 0 0)])), (fun _ => True), (fun uz => uz = (Value.int .i64 wt))]) (G := fun w' => Bx w' b22 45 [(Value.int .i64 6), (Value.string (bs [116])), (Value.string (bs [])), (Value.slice none 0 0), (Value.slice none 0 0), (Value.slice none 0 0), (Value.slice (some ⟨b18, 0, none⟩) 1 1), (Value.string (bs [])), (Value.slice none 0 0), (Value.slice none 0 0), (Value.slice none 0 0), (Value.bool false), (Value.slice none 0 0)]) [0, 2] (by kernel_rfl) (by kernel_rfl) (by kernel_rfl) (by kernel_rfl) hN206 (fun w1 w2 E h => h.keep0 E) hB24 (ObEs.pass rfl (ObEs.cons ?_ (ObEs.pass rfl (ObEs.cons ?_ (ObEs.nil))))) (by simp only [putsL_defers]) ?_
      ·
       intro eA aA wA hNA hGA hbsA hdpA
       have qA_11 := (hbsA 11 rfl).trans (sl_base hN206 rfl s206_11)
       refine op_loadA (cs := [(Value.int .i64 6), (Value.string (bs [116])), (Value.string (bs [])), (Value.slice none 0 0), (Value.slice none 0 0), (Value.slice none 0 0), (Value.slice (some ⟨b18, 0, none⟩) 1 1), (Value.string (bs [])), (Value.slice none 0 0), (Value.slice none 0 0), (Value.slice none 0 0), (Value.bool false), (Value.slice none 0 0)]) agg45 rfl (ev_base hNA rfl qA_11) (fun j u hu => by rw [Nat.zero_add]; exact hGA.cell hu) ?_
       exact obE_end rfl rfl rfl
      ·
       intro eA aA wA hNA hGA hbsA hdpA
       have qA_12 := (hbsA 12 rfl).trans (sl_base hN206 rfl s206_12)
       refine op_move (ev_base hNA rfl qA_12) ?_
       exact obE_end rfl rfl rfl
      ·
       intro w211 E211 _ a211 hN211 hbs211 hdp211 o_ ho_; obtain rfl := Option.some.inj ho_
       have z_w211 := E211.size
       have hB20 := hB20.keep0 E211
       have hB24 := hB24.keep0 E211
       have hb := below_step0 hb E211 hb.size
       refine op_fn (vs := []) ok16 trivial (Schema_ret _) ?_
       rintro _ w213 ⟨E214, tv212, D212, rfl, hM212, hT212⟩
       have E214 := grown_of_below E214
       have z_w213 := E214.size
       have hB20 := hB20.keep0 E214
       have hB24 := hB24.keep0 E214
       have hb := below_step0 hb E214 hb.size
       have hR212 := hT212.1
       have hz212 := sch_sz hM212
       refine ke_end rfl (by decide) rfl hB24 ?_
       intro w215 E215 _ a215 hN215 hbs215 hdp215 o_ ho_; obtain rfl := Option.some.inj ho_
       have z_w215 := E215.size
       have hB20 := hB20.keep0 E215
       have hB24 := hB24.keep0 E215
       have hT212 := hT212.keep0 E215
       have hb := below_step0 hb E215 hb.size
       have q215_61 : Sl a215 61 (Value.agg #[tv212, (Value.slice none 0 0)]) := (Option.some.inj ((hdp215 0 _ 61 (by kernel_rfl) rfl rfl).1 0 rfl)).symm
       have q215_62 : Sl a215 62 (Value.agg #[(Value.int .i64 6), (Value.string (bs [116])), (Value.string (bs [])), (Value.slice none 0 0), (Value.slice none 0 0), (Value.slice none 0 0), (Value.slice (some ⟨b18, 0, none⟩) 1 1), (Value.string (bs [])), (Value.slice none 0 0), (Value.slice none 0 0), (Value.slice none 0 0), (Value.bool false), (Value.slice none 0 0)]) := (hdp215 1 _ 62 (by kernel_rfl) rfl rfl).2 rfl
       refine op_fn (vs := [(Value.agg #[tv212, (Value.slice none 0 0)]), (Value.agg #[(Value.int .i64 6), (Value.string (bs [116])), (Value.string (bs [])), (Value.slice none 0 0), (Value.slice none 0 0), (Value.slice none 0 0), (Value.slice (some ⟨b18, 0, none⟩) 1 1), (Value.string (bs [])), (Value.slice none 0 0), (Value.slice none 0 0), (Value.slice none 0 0), (Value.bool false), (Value.slice none 0 0)])]) ok19 ⟨(ev_base hN215 rfl q215_61), ⟨(ev_base hN215 rfl q215_62), trivial⟩⟩ (checkM hM212 (XS.mk (StF.mk 6 ([116]) [] (Value.slice none 0 0) [] (Value.slice none 0 0) [] (Value.slice none 0 0) [] (Value.slice (some ⟨b18, 0, none⟩) 1 1) ([(PItm.mk ((a9 : Nat) : Int) [] n9)]) [] (Value.slice none 0 0) [] (Value.slice none 0 0) [] (Value.slice none 0 0) [] false) (Value.slice none 0 0) []) (hT212.mono (by omega)) hz212.1 hz212.2 (SRd.mk (s := (XS.mk (StF.mk 6 ([116]) [] (Value.slice none 0 0) [] (Value.slice none 0 0) [] (Value.slice none 0 0) [] (Value.slice (some ⟨b18, 0, none⟩) 1 1) ([(PItm.mk ((a9 : Nat) : Int) [] n9)]) [] (Value.slice none 0 0) [] (Value.slice none 0 0) [] (Value.slice none 0 0) [] false) (Value.slice none 0 0) [])) ⟨(RdC.nil _ _ _ _), (RdC.nil _ _ _ _), (XsRd.nil _ _), (rd_items (x := (PItm.mk ((a9 : Nat) : Int) [] n9)) hB20 (by omega)), (XsRd.nil _ _), (XsRd.nil _ _), (XsRd.nil _ _)⟩ (RdC.nil _ _ _ _) (fun _ h => (by cases h)))) ?_
       rintro _ w216 ⟨E217, rfl⟩
       have E217 := grown_of_below E217
       have z_w216 := E217.size
       have hB24 := hB24.keep0 E217
       have hb := below_step0 hb E217 hb.size
       refine ke_end rfl (by decide) rfl hB24 ?_
       intro w218 E218 a218 hN218 hd218 hbs218 hph218
       have hd218 := hd218.trans ((by simp only [putsL_defers] : _ = _).trans hd206)
       have z_w218 := E218.size
       have hb := below_step0 hb E218 hb.size
       have s218_63 : Sl a218 63 (Value.int .i64 (checkE schT [] (XS.mk (StF.mk 6 ([116]) [] (Value.slice none 0 0) [] (Value.slice none 0 0) [] (Value.slice none 0 0) [] (Value.slice (some ⟨b18, 0, none⟩) 1 1) ([(PItm.mk ((a9 : Nat) : Int) [] n9)]) [] (Value.slice none 0 0) [] (Value.slice none 0 0) [] (Value.slice none 0 0) [] false) (Value.slice none 0 0) []))) := (Option.some.inj ((hph218 2 _ 63 rfl rfl).1 1 rfl)).symm
       have s218_64 : Sl a218 64 (Value.int .i64 wt) := (hph218 3 _ 64 rfl rfl).2 rfl
       refine split_end ?_
       refine from_seq (tl := [_, _]) (by decide) (by kernel_rfl) rfl ?_
       have hit : itemsA a9 n9 false = [(PItm.mk (a9 : Int) [] n9)] := by unfold itemsA; rw [if_neg (show ¬ a9 = 1 by omega)]; rfl
       have hck : checkE schT [] (XS.mk (StF.mk 6 ([116]) [] (Value.slice none 0 0) [] (Value.slice none 0 0) [] (Value.slice none 0 0) [] (Value.slice (some ⟨b18, 0, none⟩) 1 1) ([(PItm.mk ((a9 : Nat) : Int) [] n9)]) [] (Value.slice none 0 0) [] (Value.slice none 0 0) [] (Value.slice none 0 0) [] false) (Value.slice none 0 0) []) = wantA a9 n9 false false := by have h9 := @aggs_all (Value.slice (some ⟨b18, 0, none⟩) 1 1) (Value.slice none 0 0) (Value.slice none 0 0) (.slice none 0 0) n9 a9 hn9 ha9 false false; rw [hit] at h9; exact h9
       refine op_eql (ev_base hN218 rfl s218_63) (ev_base hN218 rfl s218_64) (fun c65 => ?_) (fun c65 => ?_)
       ·
        refine op_assign (ev_hit hN218 rfl) (reg_nil (hK210 _ _ (wp_ret ?_)))
        refine ret1 rfl hd218 (ev_hit hN218 rfl) ⟨_, rfl, ?_⟩
        exact ⟨hb, rfl⟩
       ·
        rw [hwt, c34, c41] at c65; exact absurd hck c65

end Go.Proofs.Ythflnkfghogaoaa

namespace Go.Gx
open Go.RowKit Go.WideShapes
section
variable {H : Type} {enc : TypeId × Value → H} {P : Program} {w : World} {base : Nat} {spare : Nat → Bool} {held : Bool} {t e : TypeId}
end
end Go.Gx

namespace Go.Proofs.Ythflnkfghogaoaa
open Go.Gx Go.RowKit
end Go.Proofs.Ythflnkfghogaoaa
