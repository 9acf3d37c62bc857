/- Walks, written by a program: what each function of the translation hands back. -/
import Derived.Test.YtmhdbphpmgjpcaaB4
namespace Go.Proofs.Ytmhdbphpmgjpcaa
open Go.Gx Go.RowKit
attribute [local irreducible] wpList wpStill Code.wp Calls

theorem raboveW_ret (l m : Lb) (v u : Value) (w : World) (hz : l.length ≤ 1000000000000) (hzm : m.length ≤ 1000000000000) (hl : RdC w 0 w.heap.size 1 v l.length (l.map u16v)) (hm : RdC w 0 w.heap.size 1 u m.length (m.map u16v)) : Ret Try.prog 61 #[v, u] w (fun v' w' => Below w.heap.size w w' ∧ v' = .bool (flowsL l m && !decide (l = m))) := by
 have hb := Below.refl w.heap.size w
 refine enter (N := 14) Try.func61 rfl rfl (by simp) fun a0 hN hd hA => ?_
 have s0 : a0.tmps.getD 0 undef = v := hA 0 (by simp)
 have s1 : a0.tmps.getD 1 undef = u := hA 1 (by simp)
 clear hA
 refine seq_any fun K1 hK1 => ?_
 refine one_reg ?_
 refine op_assign rfl ?_
 refine reg_nil ?_
 refine hK1 _ _ ?_
 refine seq_any fun K2 hK2 => ?_
 refine one_reg ?_
 refine op_move (ev_base hN rfl s0) ?_
 refine op_move (ev_base hN rfl s1) ?_
 refine op_fn (vs := [v, u]) ok50 ⟨(ev_hit hN rfl), ⟨(ev_hit hN rfl), trivial⟩⟩ (rflowsW_ret l m _ _ _ (by first | assumption | omega | (simp only [List.length_append, List.length_cons, List.length_nil, List.length_drop, List.length_take]; omega) | (dsimp only; omega) | decide | (simp [keyV, be8_len]; done)) (by first | assumption | omega | (simp only [List.length_append, List.length_cons, List.length_nil, List.length_drop, List.length_take]; omega) | (dsimp only; omega) | decide | (simp [keyV, be8_len]; done)) (show RdC w 0 w.heap.size 1 v l.length (l.map u16v) from by have hh : RdC w 0 w.heap.size 1 _ _ _ := (hl.mono (L' := 0) (B' := w.heap.size) (Nat.zero_le _) (by omega)); first | exact hh | exact hh.cast (by first | omega | (simp; try omega)) (by first | rfl | simp [u16v])) (show RdC w 0 w.heap.size 1 u m.length (m.map u16v) from by have hh : RdC w 0 w.heap.size 1 _ _ _ := (hm.mono (L' := 0) (B' := w.heap.size) (Nat.zero_le _) (by omega)); first | exact hh | exact hh.cast (by first | omega | (simp; try omega)) (by first | rfl | simp [u16v]))) ?_
 rintro _ w3 ⟨E4, rfl⟩
 have E4 := grown_of_below E4
 have z_w3 := E4.size
 have hl := hl.keep0 E4
 have hm := hm.keep0 E4
 have hb := below_step0 hb E4 hb.size
 rcases Bool.eq_false_or_eq_true ((flowsL l m)) with c7 | c7
 · -- 7T
  rw [c7]
  refine op_move (ev_hit hN rfl) ?_
  refine g_true (j := 3) (dj := 8) (b := true) rfl rfl rfl (ev_hit hN rfl) ?_
  refine op_move (ev_base hN rfl s0) ?_
  refine g_true (j := 3) (dj := 8) (b := true) rfl rfl rfl (ev_hit hN rfl) ?_
  refine op_move (ev_base hN rfl s1) ?_
  refine g_true (j := 3) (dj := 8) (b := true) rfl rfl rfl (ev_hit hN rfl) ?_
  refine op_fn (vs := [v, u]) ok34 ⟨(ev_hit hN rfl), ⟨(ev_hit hN rfl), trivial⟩⟩ (sameL_ret l m _ _ _ (by first | assumption | omega | (simp only [List.length_append, List.length_cons, List.length_nil, List.length_drop, List.length_take]; omega) | (dsimp only; omega) | decide | (simp [keyV, be8_len]; done)) (by first | assumption | omega | (simp only [List.length_append, List.length_cons, List.length_nil, List.length_drop, List.length_take]; omega) | (dsimp only; omega) | decide | (simp [keyV, be8_len]; done)) (show RdC w3 0 w3.heap.size 1 v l.length (l.map u16v) from by have hh : RdC w3 0 w3.heap.size 1 _ _ _ := (hl.mono (L' := 0) (B' := w3.heap.size) (Nat.zero_le _) (by omega)); first | exact hh | exact hh.cast (by first | omega | (simp; try omega)) (by first | rfl | simp [u16v])) (show RdC w3 0 w3.heap.size 1 u m.length (m.map u16v) from by have hh : RdC w3 0 w3.heap.size 1 _ _ _ := (hm.mono (L' := 0) (B' := w3.heap.size) (Nat.zero_le _) (by omega)); first | exact hh | exact hh.cast (by first | omega | (simp; try omega)) (by first | rfl | simp [u16v]))) ?_
  rintro _ w5 ⟨E6, rfl⟩
  have E6 := grown_of_below E6
  have z_w5 := E6.size
  have hl := hl.keep0 E6
  have hm := hm.keep0 E6
  have hb := below_step0 hb E6 hb.size
  rcases Bool.eq_false_or_eq_true ((decide (l = m))) with c11 | c11
  · -- 11T
   rw [c11]
   refine g_true (j := 3) (dj := 8) (b := true) rfl rfl rfl (ev_hit hN rfl) ?_
   refine op_not (ev_hit hN rfl) ?_
   refine op_pick_t (ev_hit hN rfl) (ev_hit hN rfl) ?_
   refine op_assign (ev_hit hN rfl) ?_
   refine reg_nil ?_
   refine hK2 _ _ ?_
   refine wp_ret ?_
   refine ret1 rfl hd (ev_hit hN rfl) ⟨_, rfl, ?_⟩
   -- path 7T 11T
   exact ⟨hb, congrArg Value.bool (by rw [c7]; simp [c11])⟩
  · -- 11F
   rw [c11]
   refine g_true (j := 3) (dj := 8) (b := true) rfl rfl rfl (ev_hit hN rfl) ?_
   refine op_not (ev_hit hN rfl) ?_
   refine op_pick_t (ev_hit hN rfl) (ev_hit hN rfl) ?_
   refine op_assign (ev_hit hN rfl) ?_
   refine reg_nil ?_
   refine hK2 _ _ ?_
   refine wp_ret ?_
   refine ret1 rfl hd (ev_hit hN rfl) ⟨_, rfl, ?_⟩
   -- path 7T 11F
   exact ⟨hb, congrArg Value.bool (by rw [c7]; simp [c11])⟩
 · -- 7F
  rw [c7]
  refine op_move (ev_hit hN rfl) ?_
  refine g_false (j := 3) (dj := 8) (b := true) rfl rfl rfl (ev_hit hN rfl) rfl rfl ?_
  refine g_false (j := 3) (dj := 8) (b := true) rfl rfl rfl (ev_hit hN rfl) rfl rfl ?_
  refine g_false (j := 3) (dj := 8) (b := true) rfl rfl rfl (ev_hit hN rfl) rfl rfl ?_
  refine g_false (j := 3) (dj := 8) (b := true) rfl rfl rfl (ev_hit hN rfl) rfl rfl ?_
  refine op_pick_f (ev_hit hN rfl) rfl ?_
  refine op_assign (ev_hit hN rfl) ?_
  refine reg_nil ?_
  refine hK2 _ _ ?_
  refine wp_ret ?_
  refine ret1 rfl hd (ev_hit hN rfl) ⟨_, rfl, ?_⟩
  -- path 7F
  exact ⟨hb, congrArg Value.bool (by rw [c7]; rfl)⟩

theorem LockDooms_fff_any (aL bL : List UInt16) (vA vB : Value) (w : World) (hal : aL.length ≤ 9223372036854775807) (hbl : bL.length ≤ 9223372036854775807) (hA : RdC w 0 w.heap.size 1 vA aL.length (aL.map u16v)) (hB : RdC w 0 w.heap.size 1 vB bL.length (bL.map u16v)) : Ret Try.prog 13 #[vA, vB, (Value.bool false), (Value.bool false), (Value.bool false)] w (fun v' w' => Below w.heap.size w w' ∧ v' = .bool true) := by
 have hb := Below.refl w.heap.size w
 refine enter (N := 141) Try.func13 rfl rfl (by simp) fun a0 hN hd hA => ?_
 have s0 : a0.tmps.getD 0 undef = vA := hA 0 (by simp)
 have s1 : a0.tmps.getD 1 undef = vB := hA 1 (by simp)
 have s2 : a0.tmps.getD 2 undef = (Value.bool false) := hA 2 (by simp)
 have s3 : a0.tmps.getD 3 undef = (Value.bool false) := hA 3 (by simp)
 have s4 : a0.tmps.getD 4 undef = (Value.bool false) := hA 4 (by simp)
 clear hA
 refine seq_any fun K7 hK7 => ?_
 refine one_reg ?_
 refine op_assign rfl ?_
 refine reg_nil ?_
 refine hK7 _ _ ?_
 refine seq_any fun K8 hK8 => ?_
 refine seq_any fun K9 hK9 => ?_
 refine one_reg ?_
 refine op_fn (vs := []) ok52 trivial (begun19_ret _) ?_
 rintro _ w10 ⟨E11, rfl⟩
 have E11 := grown_of_below E11
 have z_w10 := E11.size
 have hA := hA.keep0 E11
 have hB := hB.keep0 E11
 have hb := below_step0 hb E11 hb.size
 refine op_not (ev_hit hN rfl) ?_
 refine reg_nil ?_
 refine hK9 _ _ ?_
 refine wp_cond_false (ev_hit hN rfl) ?_
 refine wp_skip ?_
 refine hK8 _ _ ?_
 refine seq_any fun K12 hK12 => ?_
 refine seq_any fun K13 hK13 => ?_
 refine one_reg ?_
 refine op_move (ev_base hN rfl s0) ?_
 refine op_fn (vs := [vA]) ok33 ⟨(ev_hit hN rfl), trivial⟩ (refMay_ret aL _ _ (by first | assumption | omega | (simp only [List.length_append, List.length_cons, List.length_nil, List.length_drop, List.length_take]; omega) | (dsimp only; omega) | decide | (simp [keyV, be8_len]; done)) (show RdC w10 0 w10.heap.size 1 vA aL.length (aL.map u16v) from by have hh : RdC w10 0 w10.heap.size 1 _ _ _ := (hA.mono (L' := 0) (B' := w10.heap.size) (Nat.zero_le _) (by omega)); first | exact hh | exact hh.cast (by first | omega | (simp; try omega)) (by first | rfl | simp [u16v]))) ?_
 rintro _ w14 ⟨E15, rfl⟩
 have E15 := grown_of_below E15
 have z_w14 := E15.size
 have hA := hA.keep0 E15
 have hB := hB.keep0 E15
 have hb := below_step0 hb E15 hb.size
 rcases Bool.eq_false_or_eq_true ((mayL aL)) with c25 | c25
 · -- 25T
  rw [c25]
  refine op_not (ev_hit hN rfl) ?_
  refine op_move (ev_hit hN rfl) ?_
  refine g_true (j := 3) (dj := 27) (b := false) rfl rfl rfl (ev_hit hN rfl) ?_
  refine op_move (ev_base hN rfl s1) ?_
  refine g_true (j := 3) (dj := 27) (b := false) rfl rfl rfl (ev_hit hN rfl) ?_
  refine op_fn (vs := [vB]) ok33 ⟨(ev_hit hN rfl), trivial⟩ (refMay_ret bL _ _ (by first | assumption | omega | (simp only [List.length_append, List.length_cons, List.length_nil, List.length_drop, List.length_take]; omega) | (dsimp only; omega) | decide | (simp [keyV, be8_len]; done)) (show RdC w14 0 w14.heap.size 1 vB bL.length (bL.map u16v) from by have hh : RdC w14 0 w14.heap.size 1 _ _ _ := (hB.mono (L' := 0) (B' := w14.heap.size) (Nat.zero_le _) (by omega)); first | exact hh | exact hh.cast (by first | omega | (simp; try omega)) (by first | rfl | simp [u16v]))) ?_
  rintro _ w16 ⟨E17, rfl⟩
  have E17 := grown_of_below E17
  have z_w16 := E17.size
  have hA := hA.keep0 E17
  have hB := hB.keep0 E17
  have hb := below_step0 hb E17 hb.size
  rcases Bool.eq_false_or_eq_true ((mayL bL)) with c29 | c29
  · -- 29T
   rw [c29]
   refine g_true (j := 3) (dj := 27) (b := false) rfl rfl rfl (ev_hit hN rfl) ?_
   refine op_not (ev_hit hN rfl) ?_
   refine op_pick_f (ev_hit hN rfl) (ev_hit hN rfl) ?_
   refine op_move (ev_hit hN rfl) ?_
   have ha8 := mayL_len c25
   have hb8 := mayL_len c29
   refine g_true (j := 8) (dj := 32) (b := false) rfl rfl rfl (ev_hit hN rfl) ?_
   refine op_move (ev_base hN rfl s0) ?_
   refine g_true (j := 8) (dj := 32) (b := false) rfl rfl rfl (ev_hit hN rfl) ?_
   refine op_move (ev_base hN rfl s1) ?_
   refine g_true (j := 8) (dj := 32) (b := false) rfl rfl rfl (ev_hit hN rfl) ?_
   refine op_fn (vs := [vA, vB]) ok51 ⟨(ev_hit hN rfl), ⟨(ev_hit hN rfl), trivial⟩⟩ (rjoinW_ret aL bL _ _ _ (by first | assumption | omega | (simp only [List.length_append, List.length_cons, List.length_nil, List.length_drop, List.length_take]; omega) | (dsimp only; omega) | decide | (simp [keyV, be8_len]; done)) (by first | assumption | omega | (simp only [List.length_append, List.length_cons, List.length_nil, List.length_drop, List.length_take]; omega) | (dsimp only; omega) | decide | (simp [keyV, be8_len]; done)) (show RdC w16 0 w16.heap.size 1 vA aL.length (aL.map u16v) from by have hh : RdC w16 0 w16.heap.size 1 _ _ _ := (hA.mono (L' := 0) (B' := w16.heap.size) (Nat.zero_le _) (by omega)); first | exact hh | exact hh.cast (by first | omega | (simp; try omega)) (by first | rfl | simp [u16v])) (show RdC w16 0 w16.heap.size 1 vB bL.length (bL.map u16v) from by have hh : RdC w16 0 w16.heap.size 1 _ _ _ := (hB.mono (L' := 0) (B' := w16.heap.size) (Nat.zero_le _) (by omega)); first | exact hh | exact hh.cast (by first | omega | (simp; try omega)) (by first | rfl | simp [u16v]))) ?_
   rintro v18 w19 ⟨E20, hO18⟩
   have E20 := grown_of_below E20
   have z_w19 := E20.size
   have hA := hA.keep0 E20
   have hB := hB.keep0 E20
   have hb := below_step0 hb E20 hb.size
   have hO18 := hO18.mono (base' := w.heap.size) (by omega)
   refine g_true (j := 8) (dj := 32) (b := false) rfl rfl rfl (ev_hit hN rfl) ?_
   refine op_len_rd Try.underlying54 (ev_hit hN rfl) hO18.rdw ?_
   refine g_true (j := 8) (dj := 32) (b := false) rfl rfl rfl (ev_hit hN rfl) ?_
   refine op_gtr (ev_hit hN rfl) rfl (fun c37 => ?_) (fun c37 => ?_)
   · -- 37T
    refine op_pick_f (ev_hit hN rfl) (ev_hit hN rfl) ?_
    refine reg_nil ?_
    refine hK13 _ _ ?_
    refine wp_cond_true (ev_hit hN rfl) ?_
    refine seq_any fun K21 hK21 => ?_
    refine one_reg ?_
    refine op_assign rfl ?_
    refine reg_nil ?_
    refine hK21 _ _ ?_
    refine wp_ret (then_ret ( ?_))
    refine ret1 rfl hd (ev_hit hN rfl) ⟨_, rfl, ?_⟩
    -- path 25T 29T 37T
    exact ⟨hb, rfl⟩
   · -- 37F
    refine op_pick_f (ev_hit hN rfl) (ev_hit hN rfl) ?_
    refine reg_nil ?_
    refine hK13 _ _ ?_
    refine wp_cond_false (ev_hit hN rfl) ?_
    refine wp_skip ?_
    refine hK12 _ _ ?_
    refine seq_any fun K22 hK22 => ?_
    refine one_reg ?_
    have hjl : (joinL aL bL).length ≤ 8 := by omega
    skip
    have hfj : flowsL aL (joinL aL bL) = true := flows_joinl
    have hrf : flowsL aL aL = true := flows_refl
    have hdm : dmB aL bL bL [117] [] = false := by simp [dmB]
    refine op_fn (vs := []) ok53 trivial (lockNewR) ?_
    rintro _ w24 ⟨E25, k23, F23, rfl, hl23⟩
    have lo_F23 : ∀ x, F23 x → w19.heap.size ≤ x := fun x hx => (hl23.lt x hx).1
    have dj26 : Dj (Bl v18) F23 := Dj.fresh (fun k hk => (hO18.lt k hk).2) lo_F23
    have E25 := grown_of_below E25
    have z_w24 := E25.size
    have hA := hA.keep0 E25
    have hB := hB.keep0 E25
    have hO18 := hO18.keep0 E25
    have hb := below_step0 hb E25 hb.size
    have hl23 : LocksR w24 w.heap.size k23 ([] : TM) F23 := hl23.mono (by omega)
    refine op_assign (ev_hit hN rfl) ?_
    refine reg_nil ?_
    refine hK22 _ _ ?_
    refine seq_any fun K27 hK27 => ?_
    refine one_reg ?_
    refine op_move (ev_hit hN rfl) ?_
    refine op_move (ev_base hN rfl s0) ?_
    refine op_fn (vs := [(ptr k23 0), (Value.int .i64 1), vA, (Value.int .u64 1)]) ok54 ⟨(ev_hit hN rfl), ⟨rfl, ⟨(ev_hit hN rfl), ⟨rfl, trivial⟩⟩⟩⟩ (lk_conv (EnterR (n := 1) (s := 1) (l := aL) (by omega) (lo := w.heap.size) hA (Nat.le_refl _) (by first | decide | omega) hl23) (A' := (Value.int .i64 0)) (M2 := ([(1, (⟨aL, 1, [], [], false⟩ : TX))] : TM)) (by rfl) (by rfl)) ?_
    rintro _ w29 ⟨E30, rfl, F28, hl28, hN28⟩
    have bd31 := hO18.lt
    have hl23_old := hl23
    have z_w29 := E30.size
    have hA := hA.keepG E30 (fun k hk => .inr (by have := hl23_old.lt k hk; omega))
    have hB := hB.keepG E30 (fun k hk => .inr (by have := hl23_old.lt k hk; omega))
    have hO18 := hO18.keepG E30 dj26
    have hb := below_stepG hb E30 hb.size (fun k hk => (hl23_old.lt k hk).1)
    have dj32 : Dj (Bl v18) F28 := Dj.stepF hN28 (fun k hk => (bd31 k hk).2) dj26
    refine reg_nil ?_
    refine hK27 _ _ ?_
    refine seq_any fun K33 hK33 => ?_
    refine one_reg ?_
    refine op_move (ev_hit hN rfl) ?_
    refine op_move (ev_base hN rfl s1) ?_
    refine op_fn (vs := [(ptr k23 0), (Value.int .i64 2), vB, (Value.int .u64 2)]) ok54 ⟨(ev_hit hN rfl), ⟨rfl, ⟨(ev_hit hN rfl), ⟨rfl, trivial⟩⟩⟩⟩ (lk_conv (EnterR (n := 2) (s := 2) (l := bL) (by omega) (lo := w.heap.size) hB (Nat.le_refl _) (by first | decide | omega) hl28) (A' := (Value.int .i64 0)) (M2 := (st2 aL bL 2 [] [])) (by rfl) (by rfl)) ?_
    rintro _ w35 ⟨E36, rfl, F34, hl34, hN34⟩
    have bd37 := hO18.lt
    have hl28_old := hl28
    have z_w35 := E36.size
    have hA := hA.keepG E36 (fun k hk => .inr (by have := hl28_old.lt k hk; omega))
    have hB := hB.keepG E36 (fun k hk => .inr (by have := hl28_old.lt k hk; omega))
    have hO18 := hO18.keepG E36 dj32
    have hb := below_stepG hb E36 hb.size (fun k hk => (hl28_old.lt k hk).1)
    have dj38 : Dj (Bl v18) F34 := Dj.stepF hN34 (fun k hk => (bd37 k hk).2) dj32
    refine reg_nil ?_
    refine hK33 _ _ ?_
    refine seq_any fun K39 hK39 => ?_
    refine seq_any fun K40 hK40 => ?_
    refine one_reg ?_
    refine op_move (ev_base hN rfl s4) ?_
    refine reg_nil ?_
    refine hK40 _ _ ?_
    refine wp_cond_false (ev_hit hN rfl) ?_
    refine wp_skip ?_
    refine hK39 _ _ ?_
    refine seq_any fun K41 hK41 => ?_
    refine one_reg ?_
    refine op_assign rfl ?_
    refine reg_nil ?_
    refine hK41 _ _ ?_
    refine seq_any fun K42 hK42 => ?_
    refine seq_any fun K43 hK43 => ?_
    refine one_reg ?_
    refine op_move (ev_base hN rfl s2) ?_
    refine op_not (ev_hit hN rfl) ?_
    refine reg_nil ?_
    refine hK43 _ _ ?_
    refine wp_cond_true (ev_hit hN rfl) ?_
    refine one_reg ?_
    refine op_assign rfl ?_
    refine reg_nil ?_
    refine hK42 _ _ ?_
    refine seq_any fun K44 hK44 => ?_
    refine one_reg ?_
    refine op_move (ev_hit hN rfl) ?_
    refine op_move (ev_hit hN rfl) ?_
    refine op_bslice (e := 9) (pv := [(0, (Value.string (bs [117])))]) (cs := [(Value.string (bs [117]))]) ⟨rfl, (ev_hit hN rfl), trivial⟩ (by kernel_rfl) ?_
    intro w45 b46 lo_b46 hi_b46 hB48 E47
    have dj49 : ¬ F34 b46 := fun hf => by have := (hl34.lt _ hf).2; omega
    have z_w45 := E47.size
    have hA := hA.keep0 E47
    have hB := hB.keep0 E47
    have hO18 := hO18.keep0 E47
    have hl34 := hl34.keepG (Gr.of0 E47 NoB) (fun _ _ h => h)
    have hb := below_step0 hb E47 hb.size
    refine op_fn (vs := [(ptr k23 0), (Value.int .i64 2), (Value.slice (some ⟨b46, 0, none⟩) 1 1), (Value.string (bs []))]) ok55 ⟨(ev_hit hN rfl), ⟨rfl, ⟨(ev_hit hN rfl), ⟨rfl, trivial⟩⟩⟩⟩ (lk_conv (AskR (n := 2) (Rs := [[117]]) (x := []) (by omega) (by unfold MOk TOk; simp [st2, wf_i64, hjl, ha8, hb8]) (by unfold MSm; simp [st2]) (by decide) (Lr := b46) (Br := b46 + 1) (RdC.ofBx (sz := 1) (n := 1) hB48 rfl (by decide)) (by have := hB48.lt; omega) (fun y hy => Nat.lt_or_gt_of_ne (fun e => dj49 (e ▸ hy))) hl34) (A' := (Value.tuple #[(Value.int .i64 1), (Value.int .i64 0)])) (M2 := (st2 aL bL 2 [([117], bL)] [])) (by rw [ask2_v]; rfl) ask2_m) ?_
    rintro _ w51 ⟨E52, rfl, F50, hl50, hN50⟩
    have bd53 := hO18.lt
    have bd54 := hB48.lt
    have hl34_old := hl34
    have z_w51 := E52.size
    have hA := hA.keepG E52 (fun k hk => .inr (by have := hl34_old.lt k hk; omega))
    have hB := hB.keepG E52 (fun k hk => .inr (by have := hl34_old.lt k hk; omega))
    have hO18 := hO18.keepG E52 dj38
    have hB48 := hB48.keepG E52 dj49
    have hb := below_stepG hb E52 hb.size (fun k hk => (hl34_old.lt k hk).1)
    have dj55 : Dj (Bl v18) F50 := Dj.stepF hN50 (fun k hk => (bd53 k hk).2) dj38
    have dj56 : ¬ F50 b46 := ne_stepF hN50 bd54 dj49
    refine op_move (ev_hit hN rfl) ?_
    refine op_extract (ev_hit hN rfl) rfl ?_
    refine op_extract (ev_hit hN rfl) rfl ?_
    refine op_assign (ev_hit hN rfl) ?_
    refine op_assign (ev_hit hN rfl) ?_
    refine reg_nil ?_
    refine hK44 _ _ ?_
    refine seq_any fun K57 hK57 => ?_
    refine seq_any fun K58 hK58 => ?_
    refine one_reg ?_
    refine op_move (ev_base hN rfl s4) ?_
    refine op_move (ev_hit hN rfl) ?_
    refine g_false (j := 1) (dj := 62) (b := true) rfl rfl rfl (ev_hit hN rfl) rfl rfl ?_
    refine g_false (j := 1) (dj := 62) (b := true) rfl rfl rfl (ev_hit hN rfl) rfl rfl ?_
    refine g_false (j := 1) (dj := 62) (b := true) rfl rfl rfl (ev_hit hN rfl) rfl rfl ?_
    refine g_false (j := 1) (dj := 62) (b := true) rfl rfl rfl (ev_hit hN rfl) rfl rfl ?_
    refine g_false (j := 1) (dj := 62) (b := true) rfl rfl rfl (ev_hit hN rfl) rfl rfl ?_
    refine g_false (j := 1) (dj := 62) (b := true) rfl rfl rfl (ev_hit hN rfl) rfl rfl ?_
    refine op_pick_f (ev_hit hN rfl) rfl ?_
    refine reg_nil ?_
    refine hK58 _ _ ?_
    refine wp_cond_false (ev_hit hN rfl) ?_
    refine wp_skip ?_
    refine hK57 _ _ ?_
    refine seq_any fun K59 hK59 => ?_
    refine seq_any fun K60 hK60 => ?_
    refine one_reg ?_
    refine op_move (ev_base hN rfl s3) ?_
    refine reg_nil ?_
    refine hK60 _ _ ?_
    refine wp_cond_false (ev_hit hN rfl) ?_
    refine wp_skip ?_
    refine hK59 _ _ ?_
    refine seq_any fun K61 hK61 => ?_
    refine one_reg ?_
    refine op_move (ev_hit hN rfl) ?_
    refine op_fn (vs := [(ptr k23 0), (Value.int .i64 1)]) ok60 ⟨(ev_hit hN rfl), ⟨rfl, trivial⟩⟩ (CommitR' (n := 1) (L := ([] : List Int)) (M2 := ([(2, ⟨bL, 2, [([117], bL)], [], false⟩)] : TM)) (E2 := 0) (by omega) (by unfold MOk TOk; simp [st2, wf_i64, hjl, ha8, hb8]) hl50 (com1_l.trans (by rw [hdm]; rfl)) (com1_m.trans (by rw [hdm])) rfl) ?_
    rintro _ w63 ⟨E64, v62, rfl, hO62, F62, hl62, hN62, hd62⟩
    have bd65 := hO18.lt
    have bd66 := hB48.lt
    have hl50_old := hl50
    have z_w63 := E64.size
    have hA := hA.keepG E64 (fun k hk => .inr (by have := hl50_old.lt k hk; omega))
    have hB := hB.keepG E64 (fun k hk => .inr (by have := hl50_old.lt k hk; omega))
    have hO18 := hO18.keepG E64 dj55
    have hB48 := hB48.keepG E64 dj56
    have hb := below_stepG hb E64 hb.size (fun k hk => (hl50_old.lt k hk).1)
    have dj67 : Dj (Bl v18) F62 := Dj.stepF hN62 (fun k hk => (bd65 k hk).2) dj55
    have dj68 : ¬ F62 b46 := ne_stepF hN62 bd66 dj56
    have hO62 := hO62.mono (base' := w.heap.size) (by omega)
    have hl62 : LocksR w63 w.heap.size k23 ([(2, ⟨bL, 2, [([117], bL)], [], false⟩)] : TM) F62 := hl62
    refine op_move (ev_hit hN rfl) ?_
    refine op_extract (ev_hit hN rfl) rfl ?_
    refine op_extract (ev_hit hN rfl) rfl ?_
    refine op_assign (ev_hit hN rfl) ?_
    refine op_assign (ev_hit hN rfl) ?_
    refine reg_nil ?_
    refine hK61 _ _ ?_
    refine seq_any fun K69 hK69 => ?_
    refine one_reg ?_
    refine op_move (ev_base hN rfl s1) ?_
    refine op_assign (ev_hit hN rfl) ?_
    refine reg_nil ?_
    refine hK69 _ _ ?_
    refine seq_any fun K70 hK70 => ?_
    refine seq_any fun K71 hK71 => ?_
    refine one_reg ?_
    refine op_move (ev_base hN rfl s4) ?_
    refine reg_nil ?_
    refine hK71 _ _ ?_
    refine wp_cond_false (ev_hit hN rfl) ?_
    refine wp_skip ?_
    refine hK70 _ _ ?_
    refine seq_any fun K72 hK72 => ?_
    refine one_reg ?_
    refine op_move (ev_base hN rfl s2) ?_
    refine op_move (ev_hit hN rfl) ?_
    refine g_false (j := 1) (dj := 114) (b := true) rfl rfl rfl (ev_hit hN rfl) rfl rfl ?_
    refine op_pick_f (ev_hit hN rfl) rfl ?_
    refine op_move (ev_hit hN rfl) ?_
    refine g_false (j := 4) (dj := 117) (b := true) rfl rfl rfl (ev_hit hN rfl) rfl rfl ?_
    refine g_false (j := 4) (dj := 117) (b := true) rfl rfl rfl (ev_hit hN rfl) rfl rfl ?_
    refine g_false (j := 4) (dj := 117) (b := true) rfl rfl rfl (ev_hit hN rfl) rfl rfl ?_
    refine op_pick_f (ev_hit hN rfl) rfl ?_
    refine op_assign (ev_hit hN rfl) ?_
    refine reg_nil ?_
    refine hK72 _ _ ?_
    refine seq_any fun K73 hK73 => ?_
    refine one_reg ?_
    refine op_move (ev_hit hN rfl) ?_
    refine op_bin (v := .bool true) (ev_hit hN rfl) rfl (by rw [binOp_eql]; rfl) ?_
    refine op_move (ev_hit hN rfl) ?_
    refine g_true (j := 2) (dj := 124) (b := true) rfl rfl rfl (ev_hit hN rfl) ?_
    refine op_move (ev_hit hN rfl) ?_
    refine g_true (j := 2) (dj := 124) (b := true) rfl rfl rfl (ev_hit hN rfl) ?_
    refine op_bin (v := .bool true) (ev_hit hN rfl) rfl (by rw [binOp_eql]; rfl) ?_
    refine op_pick_t (ev_hit hN rfl) (ev_hit hN rfl) ?_
    refine op_move (ev_hit hN rfl) ?_
    refine g_true (j := 6) (dj := 128) (b := true) rfl rfl rfl (ev_hit hN rfl) ?_
    refine op_move (ev_hit hN rfl) ?_
    refine g_true (j := 6) (dj := 128) (b := true) rfl rfl rfl (ev_hit hN rfl) ?_
    refine op_fn (vs := [(ptr k23 0), (Value.int .i64 2)]) ok62 ⟨(ev_hit hN rfl), ⟨rfl, trivial⟩⟩ (DoomedR' (n := 2) hl62 rfl) ?_
    rintro _ w74 ⟨E75, rfl⟩
    have E75 := grown_of_below E75
    have z_w74 := E75.size
    have hA := hA.keep0 E75
    have hB := hB.keep0 E75
    have hO18 := hO18.keep0 E75
    have hB48 := hB48.keep0 E75
    have hl62 := hl62.keepG (Gr.of0 E75 NoB) (fun _ _ h => h)
    have hO62 := hO62.keep0 E75
    have hb := below_step0 hb E75 hb.size
    refine g_true (j := 6) (dj := 128) (b := true) rfl rfl rfl (ev_hit hN rfl) ?_
    refine op_move (ev_hit hN rfl) ?_
    refine g_true (j := 6) (dj := 128) (b := true) rfl rfl rfl (ev_hit hN rfl) ?_
    refine op_eqb Try.underlying4 (ev_hit hN rfl) (ev_hit hN rfl) ?_
    refine op_pick_t (ev_hit hN rfl) (ev_hit hN rfl) ?_
    refine op_move (ev_hit hN rfl) ?_
    refine g_true (j := 12) (dj := 134) (b := true) rfl rfl rfl (ev_hit hN rfl) ?_
    refine op_move (ev_hit hN rfl) ?_
    refine g_true (j := 12) (dj := 134) (b := true) rfl rfl rfl (ev_hit hN rfl) ?_
    refine op_len_rd Try.underlying35 (ev_hit hN rfl) hO62.rdw ?_
    refine g_true (j := 12) (dj := 134) (b := true) rfl rfl rfl (ev_hit hN rfl) ?_
    refine op_eql (ev_hit hN rfl) rfl (fun c137 => ?_) (fun c137 => ?_)
    · -- 137T
     exact absurd c137 (by simp)
    · -- 137F
     refine g_true (j := 12) (dj := 134) (b := true) rfl rfl rfl (ev_hit hN rfl) ?_
     refine op_move (ev_hit hN rfl) ?_
     refine g_true (j := 12) (dj := 134) (b := true) rfl rfl rfl (ev_hit hN rfl) ?_
     refine op_eqb Try.underlying4 (ev_hit hN rfl) (ev_hit hN rfl) ?_
     refine op_pick_t (ev_hit hN rfl) (ev_hit hN rfl) ?_
     refine op_assign (ev_hit hN rfl) ?_
     refine reg_nil ?_
     refine hK73 _ _ ?_
     refine wp_ret ?_
     refine ret1 rfl hd (ev_hit hN rfl) ⟨_, rfl, ?_⟩
     -- path 25T 29T 37F 137F
     exact ⟨hb, rfl⟩
  · -- 29F
   rw [c29]
   refine g_true (j := 3) (dj := 27) (b := false) rfl rfl rfl (ev_hit hN rfl) ?_
   refine op_not (ev_hit hN rfl) ?_
   refine op_pick_f (ev_hit hN rfl) (ev_hit hN rfl) ?_
   refine op_move (ev_hit hN rfl) ?_
   skip
   refine g_false (j := 8) (dj := 32) (b := false) rfl rfl rfl (ev_hit hN rfl) rfl rfl ?_
   refine g_false (j := 8) (dj := 32) (b := false) rfl rfl rfl (ev_hit hN rfl) rfl rfl ?_
   refine g_false (j := 8) (dj := 32) (b := false) rfl rfl rfl (ev_hit hN rfl) rfl rfl ?_
   refine g_false (j := 8) (dj := 32) (b := false) rfl rfl rfl (ev_hit hN rfl) rfl rfl ?_
   refine g_false (j := 8) (dj := 32) (b := false) rfl rfl rfl (ev_hit hN rfl) rfl rfl ?_
   refine op_pick_t (ev_hit hN rfl) rfl ?_
   refine reg_nil ?_
   refine hK13 _ _ ?_
   refine wp_cond_true (ev_hit hN rfl) ?_
   refine seq_any fun K76 hK76 => ?_
   refine one_reg ?_
   refine op_assign rfl ?_
   refine reg_nil ?_
   refine hK76 _ _ ?_
   refine wp_ret (then_ret ( ?_))
   refine ret1 rfl hd (ev_hit hN rfl) ⟨_, rfl, ?_⟩
   -- path 25T 29F
   exact ⟨hb, rfl⟩
 · -- 25F
  rw [c25]
  refine op_not (ev_hit hN rfl) ?_
  refine op_move (ev_hit hN rfl) ?_
  refine g_false (j := 3) (dj := 27) (b := false) rfl rfl rfl (ev_hit hN rfl) rfl rfl ?_
  refine g_false (j := 3) (dj := 27) (b := false) rfl rfl rfl (ev_hit hN rfl) rfl rfl ?_
  refine g_false (j := 3) (dj := 27) (b := false) rfl rfl rfl (ev_hit hN rfl) rfl rfl ?_
  refine op_pick_t (ev_hit hN rfl) rfl ?_
  refine op_move (ev_hit hN rfl) ?_
  skip
  refine g_false (j := 8) (dj := 32) (b := false) rfl rfl rfl (ev_hit hN rfl) rfl rfl ?_
  refine g_false (j := 8) (dj := 32) (b := false) rfl rfl rfl (ev_hit hN rfl) rfl rfl ?_
  refine g_false (j := 8) (dj := 32) (b := false) rfl rfl rfl (ev_hit hN rfl) rfl rfl ?_
  refine g_false (j := 8) (dj := 32) (b := false) rfl rfl rfl (ev_hit hN rfl) rfl rfl ?_
  refine g_false (j := 8) (dj := 32) (b := false) rfl rfl rfl (ev_hit hN rfl) rfl rfl ?_
  refine op_pick_t (ev_hit hN rfl) rfl ?_
  refine reg_nil ?_
  refine hK13 _ _ ?_
  refine wp_cond_true (ev_hit hN rfl) ?_
  refine seq_any fun K77 hK77 => ?_
  refine one_reg ?_
  refine op_assign rfl ?_
  refine reg_nil ?_
  refine hK77 _ _ ?_
  refine wp_ret (then_ret ( ?_))
  refine ret1 rfl hd (ev_hit hN rfl) ⟨_, rfl, ?_⟩
  -- path 25F
  exact ⟨hb, rfl⟩

theorem LockDooms_fft_any (aL bL : List UInt16) (vA vB : Value) (w : World) (hal : aL.length ≤ 9223372036854775807) (hbl : bL.length ≤ 9223372036854775807) (hA : RdC w 0 w.heap.size 1 vA aL.length (aL.map u16v)) (hB : RdC w 0 w.heap.size 1 vB bL.length (bL.map u16v)) : Ret Try.prog 13 #[vA, vB, (Value.bool false), (Value.bool true), (Value.bool false)] w (fun v' w' => Below w.heap.size w w' ∧ v' = .bool true) := by
 have hb := Below.refl w.heap.size w
 refine enter (N := 141) Try.func13 rfl rfl (by simp) fun a0 hN hd hA => ?_
 have s0 : a0.tmps.getD 0 undef = vA := hA 0 (by simp)
 have s1 : a0.tmps.getD 1 undef = vB := hA 1 (by simp)
 have s2 : a0.tmps.getD 2 undef = (Value.bool false) := hA 2 (by simp)
 have s3 : a0.tmps.getD 3 undef = (Value.bool true) := hA 3 (by simp)
 have s4 : a0.tmps.getD 4 undef = (Value.bool false) := hA 4 (by simp)
 clear hA
 refine seq_any fun K78 hK78 => ?_
 refine one_reg ?_
 refine op_assign rfl ?_
 refine reg_nil ?_
 refine hK78 _ _ ?_
 refine seq_any fun K79 hK79 => ?_
 refine seq_any fun K80 hK80 => ?_
 refine one_reg ?_
 refine op_fn (vs := []) ok52 trivial (begun19_ret _) ?_
 rintro _ w81 ⟨E82, rfl⟩
 have E82 := grown_of_below E82
 have z_w81 := E82.size
 have hA := hA.keep0 E82
 have hB := hB.keep0 E82
 have hb := below_step0 hb E82 hb.size
 refine op_not (ev_hit hN rfl) ?_
 refine reg_nil ?_
 refine hK80 _ _ ?_
 refine wp_cond_false (ev_hit hN rfl) ?_
 refine wp_skip ?_
 refine hK79 _ _ ?_
 refine seq_any fun K83 hK83 => ?_
 refine seq_any fun K84 hK84 => ?_
 refine one_reg ?_
 refine op_move (ev_base hN rfl s0) ?_
 refine op_fn (vs := [vA]) ok33 ⟨(ev_hit hN rfl), trivial⟩ (refMay_ret aL _ _ (by first | assumption | omega | (simp only [List.length_append, List.length_cons, List.length_nil, List.length_drop, List.length_take]; omega) | (dsimp only; omega) | decide | (simp [keyV, be8_len]; done)) (show RdC w81 0 w81.heap.size 1 vA aL.length (aL.map u16v) from by have hh : RdC w81 0 w81.heap.size 1 _ _ _ := (hA.mono (L' := 0) (B' := w81.heap.size) (Nat.zero_le _) (by omega)); first | exact hh | exact hh.cast (by first | omega | (simp; try omega)) (by first | rfl | simp [u16v]))) ?_
 rintro _ w85 ⟨E86, rfl⟩
 have E86 := grown_of_below E86
 have z_w85 := E86.size
 have hA := hA.keep0 E86
 have hB := hB.keep0 E86
 have hb := below_step0 hb E86 hb.size
 rcases Bool.eq_false_or_eq_true ((mayL aL)) with c25 | c25
 · -- 25T
  rw [c25]
  refine op_not (ev_hit hN rfl) ?_
  refine op_move (ev_hit hN rfl) ?_
  refine g_true (j := 3) (dj := 27) (b := false) rfl rfl rfl (ev_hit hN rfl) ?_
  refine op_move (ev_base hN rfl s1) ?_
  refine g_true (j := 3) (dj := 27) (b := false) rfl rfl rfl (ev_hit hN rfl) ?_
  refine op_fn (vs := [vB]) ok33 ⟨(ev_hit hN rfl), trivial⟩ (refMay_ret bL _ _ (by first | assumption | omega | (simp only [List.length_append, List.length_cons, List.length_nil, List.length_drop, List.length_take]; omega) | (dsimp only; omega) | decide | (simp [keyV, be8_len]; done)) (show RdC w85 0 w85.heap.size 1 vB bL.length (bL.map u16v) from by have hh : RdC w85 0 w85.heap.size 1 _ _ _ := (hB.mono (L' := 0) (B' := w85.heap.size) (Nat.zero_le _) (by omega)); first | exact hh | exact hh.cast (by first | omega | (simp; try omega)) (by first | rfl | simp [u16v]))) ?_
  rintro _ w87 ⟨E88, rfl⟩
  have E88 := grown_of_below E88
  have z_w87 := E88.size
  have hA := hA.keep0 E88
  have hB := hB.keep0 E88
  have hb := below_step0 hb E88 hb.size
  rcases Bool.eq_false_or_eq_true ((mayL bL)) with c29 | c29
  · -- 29T
   rw [c29]
   refine g_true (j := 3) (dj := 27) (b := false) rfl rfl rfl (ev_hit hN rfl) ?_
   refine op_not (ev_hit hN rfl) ?_
   refine op_pick_f (ev_hit hN rfl) (ev_hit hN rfl) ?_
   refine op_move (ev_hit hN rfl) ?_
   have ha8 := mayL_len c25
   have hb8 := mayL_len c29
   refine g_true (j := 8) (dj := 32) (b := false) rfl rfl rfl (ev_hit hN rfl) ?_
   refine op_move (ev_base hN rfl s0) ?_
   refine g_true (j := 8) (dj := 32) (b := false) rfl rfl rfl (ev_hit hN rfl) ?_
   refine op_move (ev_base hN rfl s1) ?_
   refine g_true (j := 8) (dj := 32) (b := false) rfl rfl rfl (ev_hit hN rfl) ?_
   refine op_fn (vs := [vA, vB]) ok51 ⟨(ev_hit hN rfl), ⟨(ev_hit hN rfl), trivial⟩⟩ (rjoinW_ret aL bL _ _ _ (by first | assumption | omega | (simp only [List.length_append, List.length_cons, List.length_nil, List.length_drop, List.length_take]; omega) | (dsimp only; omega) | decide | (simp [keyV, be8_len]; done)) (by first | assumption | omega | (simp only [List.length_append, List.length_cons, List.length_nil, List.length_drop, List.length_take]; omega) | (dsimp only; omega) | decide | (simp [keyV, be8_len]; done)) (show RdC w87 0 w87.heap.size 1 vA aL.length (aL.map u16v) from by have hh : RdC w87 0 w87.heap.size 1 _ _ _ := (hA.mono (L' := 0) (B' := w87.heap.size) (Nat.zero_le _) (by omega)); first | exact hh | exact hh.cast (by first | omega | (simp; try omega)) (by first | rfl | simp [u16v])) (show RdC w87 0 w87.heap.size 1 vB bL.length (bL.map u16v) from by have hh : RdC w87 0 w87.heap.size 1 _ _ _ := (hB.mono (L' := 0) (B' := w87.heap.size) (Nat.zero_le _) (by omega)); first | exact hh | exact hh.cast (by first | omega | (simp; try omega)) (by first | rfl | simp [u16v]))) ?_
   rintro v89 w90 ⟨E91, hO89⟩
   have E91 := grown_of_below E91
   have z_w90 := E91.size
   have hA := hA.keep0 E91
   have hB := hB.keep0 E91
   have hb := below_step0 hb E91 hb.size
   have hO89 := hO89.mono (base' := w.heap.size) (by omega)
   refine g_true (j := 8) (dj := 32) (b := false) rfl rfl rfl (ev_hit hN rfl) ?_
   refine op_len_rd Try.underlying54 (ev_hit hN rfl) hO89.rdw ?_
   refine g_true (j := 8) (dj := 32) (b := false) rfl rfl rfl (ev_hit hN rfl) ?_
   refine op_gtr (ev_hit hN rfl) rfl (fun c37 => ?_) (fun c37 => ?_)
   · -- 37T
    refine op_pick_f (ev_hit hN rfl) (ev_hit hN rfl) ?_
    refine reg_nil ?_
    refine hK84 _ _ ?_
    refine wp_cond_true (ev_hit hN rfl) ?_
    refine seq_any fun K92 hK92 => ?_
    refine one_reg ?_
    refine op_assign rfl ?_
    refine reg_nil ?_
    refine hK92 _ _ ?_
    refine wp_ret (then_ret ( ?_))
    refine ret1 rfl hd (ev_hit hN rfl) ⟨_, rfl, ?_⟩
    -- path 25T 29T 37T
    exact ⟨hb, rfl⟩
   · -- 37F
    refine op_pick_f (ev_hit hN rfl) (ev_hit hN rfl) ?_
    refine reg_nil ?_
    refine hK84 _ _ ?_
    refine wp_cond_false (ev_hit hN rfl) ?_
    refine wp_skip ?_
    refine hK83 _ _ ?_
    refine seq_any fun K93 hK93 => ?_
    refine one_reg ?_
    have hjl : (joinL aL bL).length ≤ 8 := by omega
    skip
    have hok1 : ¬ (bL = aL ∧ ([117] : List UInt8) = [116]) := fun h => by have := h.2; revert this; decide
    have hfj : flowsL aL (joinL aL bL) = true := flows_joinl
    have hrf : flowsL aL aL = true := flows_refl
    have hdm : dmB aL bL bL [117] [[116]] = false := by simp [dmB]
    refine op_fn (vs := []) ok53 trivial (lockNewR) ?_
    rintro _ w95 ⟨E96, k94, F94, rfl, hl94⟩
    have lo_F94 : ∀ x, F94 x → w90.heap.size ≤ x := fun x hx => (hl94.lt x hx).1
    have dj97 : Dj (Bl v89) F94 := Dj.fresh (fun k hk => (hO89.lt k hk).2) lo_F94
    have E96 := grown_of_below E96
    have z_w95 := E96.size
    have hA := hA.keep0 E96
    have hB := hB.keep0 E96
    have hO89 := hO89.keep0 E96
    have hb := below_step0 hb E96 hb.size
    have hl94 : LocksR w95 w.heap.size k94 ([] : TM) F94 := hl94.mono (by omega)
    refine op_assign (ev_hit hN rfl) ?_
    refine reg_nil ?_
    refine hK93 _ _ ?_
    refine seq_any fun K98 hK98 => ?_
    refine one_reg ?_
    refine op_move (ev_hit hN rfl) ?_
    refine op_move (ev_base hN rfl s0) ?_
    refine op_fn (vs := [(ptr k94 0), (Value.int .i64 1), vA, (Value.int .u64 1)]) ok54 ⟨(ev_hit hN rfl), ⟨rfl, ⟨(ev_hit hN rfl), ⟨rfl, trivial⟩⟩⟩⟩ (lk_conv (EnterR (n := 1) (s := 1) (l := aL) (by omega) (lo := w.heap.size) hA (Nat.le_refl _) (by first | decide | omega) hl94) (A' := (Value.int .i64 0)) (M2 := ([(1, (⟨aL, 1, [], [], false⟩ : TX))] : TM)) (by rfl) (by rfl)) ?_
    rintro _ w100 ⟨E101, rfl, F99, hl99, hN99⟩
    have bd102 := hO89.lt
    have hl94_old := hl94
    have z_w100 := E101.size
    have hA := hA.keepG E101 (fun k hk => .inr (by have := hl94_old.lt k hk; omega))
    have hB := hB.keepG E101 (fun k hk => .inr (by have := hl94_old.lt k hk; omega))
    have hO89 := hO89.keepG E101 dj97
    have hb := below_stepG hb E101 hb.size (fun k hk => (hl94_old.lt k hk).1)
    have dj103 : Dj (Bl v89) F99 := Dj.stepF hN99 (fun k hk => (bd102 k hk).2) dj97
    refine reg_nil ?_
    refine hK98 _ _ ?_
    refine seq_any fun K104 hK104 => ?_
    refine one_reg ?_
    refine op_move (ev_hit hN rfl) ?_
    refine op_move (ev_base hN rfl s1) ?_
    refine op_fn (vs := [(ptr k94 0), (Value.int .i64 2), vB, (Value.int .u64 2)]) ok54 ⟨(ev_hit hN rfl), ⟨rfl, ⟨(ev_hit hN rfl), ⟨rfl, trivial⟩⟩⟩⟩ (lk_conv (EnterR (n := 2) (s := 2) (l := bL) (by omega) (lo := w.heap.size) hB (Nat.le_refl _) (by first | decide | omega) hl99) (A' := (Value.int .i64 0)) (M2 := (st2 aL bL 2 [] [])) (by rfl) (by rfl)) ?_
    rintro _ w106 ⟨E107, rfl, F105, hl105, hN105⟩
    have bd108 := hO89.lt
    have hl99_old := hl99
    have z_w106 := E107.size
    have hA := hA.keepG E107 (fun k hk => .inr (by have := hl99_old.lt k hk; omega))
    have hB := hB.keepG E107 (fun k hk => .inr (by have := hl99_old.lt k hk; omega))
    have hO89 := hO89.keepG E107 dj103
    have hb := below_stepG hb E107 hb.size (fun k hk => (hl99_old.lt k hk).1)
    have dj109 : Dj (Bl v89) F105 := Dj.stepF hN105 (fun k hk => (bd108 k hk).2) dj103
    refine reg_nil ?_
    refine hK104 _ _ ?_
    refine seq_any fun K110 hK110 => ?_
    refine seq_any fun K111 hK111 => ?_
    refine one_reg ?_
    refine op_move (ev_base hN rfl s4) ?_
    refine reg_nil ?_
    refine hK111 _ _ ?_
    refine wp_cond_false (ev_hit hN rfl) ?_
    refine wp_skip ?_
    refine hK110 _ _ ?_
    refine seq_any fun K112 hK112 => ?_
    refine one_reg ?_
    refine op_assign rfl ?_
    refine reg_nil ?_
    refine hK112 _ _ ?_
    refine seq_any fun K113 hK113 => ?_
    refine seq_any fun K114 hK114 => ?_
    refine one_reg ?_
    refine op_move (ev_base hN rfl s2) ?_
    refine op_not (ev_hit hN rfl) ?_
    refine reg_nil ?_
    refine hK114 _ _ ?_
    refine wp_cond_true (ev_hit hN rfl) ?_
    refine one_reg ?_
    refine op_assign rfl ?_
    refine reg_nil ?_
    refine hK113 _ _ ?_
    refine seq_any fun K115 hK115 => ?_
    refine one_reg ?_
    refine op_move (ev_hit hN rfl) ?_
    refine op_move (ev_hit hN rfl) ?_
    refine op_bslice (e := 9) (pv := [(0, (Value.string (bs [117])))]) (cs := [(Value.string (bs [117]))]) ⟨rfl, (ev_hit hN rfl), trivial⟩ (by kernel_rfl) ?_
    intro w116 b117 lo_b117 hi_b117 hB119 E118
    have dj120 : ¬ F105 b117 := fun hf => by have := (hl105.lt _ hf).2; omega
    have z_w116 := E118.size
    have hA := hA.keep0 E118
    have hB := hB.keep0 E118
    have hO89 := hO89.keep0 E118
    have hl105 := hl105.keepG (Gr.of0 E118 NoB) (fun _ _ h => h)
    have hb := below_step0 hb E118 hb.size
    refine op_fn (vs := [(ptr k94 0), (Value.int .i64 2), (Value.slice (some ⟨b117, 0, none⟩) 1 1), (Value.string (bs []))]) ok55 ⟨(ev_hit hN rfl), ⟨rfl, ⟨(ev_hit hN rfl), ⟨rfl, trivial⟩⟩⟩⟩ (lk_conv (AskR (n := 2) (Rs := [[117]]) (x := []) (by omega) (by unfold MOk TOk; simp [st2, wf_i64, hjl, ha8, hb8]) (by unfold MSm; simp [st2]) (by decide) (Lr := b117) (Br := b117 + 1) (RdC.ofBx (sz := 1) (n := 1) hB119 rfl (by decide)) (by have := hB119.lt; omega) (fun y hy => Nat.lt_or_gt_of_ne (fun e => dj120 (e ▸ hy))) hl105) (A' := (Value.tuple #[(Value.int .i64 1), (Value.int .i64 0)])) (M2 := (st2 aL bL 2 [([117], bL)] [])) (by rw [ask2_v]; rfl) ask2_m) ?_
    rintro _ w122 ⟨E123, rfl, F121, hl121, hN121⟩
    have bd124 := hO89.lt
    have bd125 := hB119.lt
    have hl105_old := hl105
    have z_w122 := E123.size
    have hA := hA.keepG E123 (fun k hk => .inr (by have := hl105_old.lt k hk; omega))
    have hB := hB.keepG E123 (fun k hk => .inr (by have := hl105_old.lt k hk; omega))
    have hO89 := hO89.keepG E123 dj109
    have hB119 := hB119.keepG E123 dj120
    have hb := below_stepG hb E123 hb.size (fun k hk => (hl105_old.lt k hk).1)
    have dj126 : Dj (Bl v89) F121 := Dj.stepF hN121 (fun k hk => (bd124 k hk).2) dj109
    have dj127 : ¬ F121 b117 := ne_stepF hN121 bd125 dj120
    refine op_move (ev_hit hN rfl) ?_
    refine op_extract (ev_hit hN rfl) rfl ?_
    refine op_extract (ev_hit hN rfl) rfl ?_
    refine op_assign (ev_hit hN rfl) ?_
    refine op_assign (ev_hit hN rfl) ?_
    refine reg_nil ?_
    refine hK115 _ _ ?_
    refine seq_any fun K128 hK128 => ?_
    refine seq_any fun K129 hK129 => ?_
    refine one_reg ?_
    refine op_move (ev_base hN rfl s4) ?_
    refine op_move (ev_hit hN rfl) ?_
    refine g_false (j := 1) (dj := 62) (b := true) rfl rfl rfl (ev_hit hN rfl) rfl rfl ?_
    refine g_false (j := 1) (dj := 62) (b := true) rfl rfl rfl (ev_hit hN rfl) rfl rfl ?_
    refine g_false (j := 1) (dj := 62) (b := true) rfl rfl rfl (ev_hit hN rfl) rfl rfl ?_
    refine g_false (j := 1) (dj := 62) (b := true) rfl rfl rfl (ev_hit hN rfl) rfl rfl ?_
    refine g_false (j := 1) (dj := 62) (b := true) rfl rfl rfl (ev_hit hN rfl) rfl rfl ?_
    refine g_false (j := 1) (dj := 62) (b := true) rfl rfl rfl (ev_hit hN rfl) rfl rfl ?_
    refine op_pick_f (ev_hit hN rfl) rfl ?_
    refine reg_nil ?_
    refine hK129 _ _ ?_
    refine wp_cond_false (ev_hit hN rfl) ?_
    refine wp_skip ?_
    refine hK128 _ _ ?_
    refine seq_any fun K130 hK130 => ?_
    refine seq_any fun K131 hK131 => ?_
    refine one_reg ?_
    refine op_move (ev_base hN rfl s3) ?_
    refine reg_nil ?_
    refine hK131 _ _ ?_
    refine wp_cond_true (ev_hit hN rfl) ?_
    refine seq_any fun K132 hK132 => ?_
    refine one_reg ?_
    refine op_move (ev_hit hN rfl) ?_
    refine op_fn (vs := [(ptr k94 0), (Value.int .i64 1), (Value.slice none 0 0), (Value.string (bs [116]))]) ok55 ⟨(ev_hit hN rfl), ⟨rfl, ⟨rfl, ⟨rfl, trivial⟩⟩⟩⟩ (lk_conv (AskR (n := 1) (Rs := ([] : List (List UInt8))) (x := ([116])) (by omega) (by unfold MOk TOk; simp [st2, wf_i64, hjl, ha8, hb8]) (by unfold MSm; simp [st2]) (by decide) (RdC.nil _ 0 0 _) (Nat.zero_le _) (fun _ _ => .inr (Nat.zero_le _)) hl121) (A' := (Value.tuple #[(Value.int .i64 1), (Value.int .i64 0)])) (M2 := (st2 aL bL 2 [([117], bL)] [[116]])) (by rw [(ask1_ok hok1).1]; rfl) (ask1_ok hok1).2) ?_
    rintro _ w134 ⟨E135, rfl, F133, hl133, hN133⟩
    have bd136 := hO89.lt
    have bd137 := hB119.lt
    have hl121_old := hl121
    have z_w134 := E135.size
    have hA := hA.keepG E135 (fun k hk => .inr (by have := hl121_old.lt k hk; omega))
    have hB := hB.keepG E135 (fun k hk => .inr (by have := hl121_old.lt k hk; omega))
    have hO89 := hO89.keepG E135 dj126
    have hB119 := hB119.keepG E135 dj127
    have hb := below_stepG hb E135 hb.size (fun k hk => (hl121_old.lt k hk).1)
    have dj138 : Dj (Bl v89) F133 := Dj.stepF hN133 (fun k hk => (bd136 k hk).2) dj126
    have dj139 : ¬ F133 b117 := ne_stepF hN133 bd137 dj127
    refine op_move (ev_hit hN rfl) ?_
    refine op_extract (ev_hit hN rfl) rfl ?_
    refine op_extract (ev_hit hN rfl) rfl ?_
    refine op_assign (ev_hit hN rfl) ?_
    refine op_assign (ev_hit hN rfl) ?_
    refine reg_nil ?_
    refine hK132 _ _ ?_
    refine seq_any fun K140 hK140 => ?_
    refine one_reg ?_
    refine op_move (ev_base hN rfl s4) ?_
    refine op_not (ev_hit hN rfl) ?_
    refine op_move (ev_hit hN rfl) ?_
    refine g_true (j := 2) (dj := 78) (b := true) rfl rfl rfl (ev_hit hN rfl) ?_
    refine op_move (ev_base hN rfl s0) ?_
    refine g_true (j := 2) (dj := 78) (b := true) rfl rfl rfl (ev_hit hN rfl) ?_
    refine op_move (ev_base hN rfl s1) ?_
    refine g_true (j := 2) (dj := 78) (b := true) rfl rfl rfl (ev_hit hN rfl) ?_
    refine op_fn (vs := [vA, vB]) ok34 ⟨(ev_hit hN rfl), ⟨(ev_hit hN rfl), trivial⟩⟩ (sameL_ret aL bL _ _ _ (by first | assumption | omega | (simp only [List.length_append, List.length_cons, List.length_nil, List.length_drop, List.length_take]; omega) | (dsimp only; omega) | decide | (simp [keyV, be8_len]; done)) (by first | assumption | omega | (simp only [List.length_append, List.length_cons, List.length_nil, List.length_drop, List.length_take]; omega) | (dsimp only; omega) | decide | (simp [keyV, be8_len]; done)) (show RdC w134 0 w134.heap.size 1 vA aL.length (aL.map u16v) from by have hh : RdC w134 0 w134.heap.size 1 _ _ _ := (hA.mono (L' := 0) (B' := w134.heap.size) (Nat.zero_le _) (by omega)); first | exact hh | exact hh.cast (by first | omega | (simp; try omega)) (by first | rfl | simp [u16v])) (show RdC w134 0 w134.heap.size 1 vB bL.length (bL.map u16v) from by have hh : RdC w134 0 w134.heap.size 1 _ _ _ := (hB.mono (L' := 0) (B' := w134.heap.size) (Nat.zero_le _) (by omega)); first | exact hh | exact hh.cast (by first | omega | (simp; try omega)) (by first | rfl | simp [u16v]))) ?_
    rintro _ w141 ⟨E142, rfl⟩
    have E142 := grown_of_below E142
    have z_w141 := E142.size
    have hA := hA.keep0 E142
    have hB := hB.keep0 E142
    have hO89 := hO89.keep0 E142
    have hB119 := hB119.keep0 E142
    have hl133 := hl133.keepG (Gr.of0 E142 NoB) (fun _ _ h => h)
    have hb := below_step0 hb E142 hb.size
    rcases Bool.eq_false_or_eq_true ((decide (aL = bL))) with c81 | c81
    · -- 81T
     rw [c81]
     refine op_pick_t (ev_hit hN rfl) (ev_hit hN rfl) ?_
     refine op_move (ev_hit hN rfl) ?_
     refine g_false (j := 7) (dj := 83) (b := false) rfl rfl rfl (ev_hit hN rfl) rfl rfl ?_
     refine g_false (j := 7) (dj := 83) (b := false) rfl rfl rfl (ev_hit hN rfl) rfl rfl ?_
     refine g_undef (j := 9) (dj := 85) (b := true) rfl rfl rfl (ev_hit hN rfl) rfl ?_
     refine g_undef (j := 9) (dj := 85) (b := true) rfl rfl rfl (ev_hit hN rfl) rfl ?_
     refine g_undef (j := 9) (dj := 85) (b := true) rfl rfl rfl (ev_hit hN rfl) rfl ?_
     refine g_false (j := 7) (dj := 83) (b := false) rfl rfl rfl (ev_hit hN rfl) rfl rfl ?_
     refine op_pick_t (ev_hit hN rfl) rfl ?_
     refine op_assign (ev_hit hN rfl) ?_
     refine reg_nil ?_
     refine hK140 _ _ ?_
     refine seq_any fun K143 hK143 => ?_
     refine seq_any fun K144 hK144 => ?_
     refine one_reg ?_
     refine op_move (ev_hit hN rfl) ?_
     refine op_move (ev_hit hN rfl) ?_
     refine g_true (j := 1) (dj := 92) (b := true) rfl rfl rfl (ev_hit hN rfl) ?_
     refine op_move (ev_base hN rfl s2) ?_
     refine op_pick_t (ev_hit hN rfl) (ev_hit hN rfl) ?_
     refine reg_nil ?_
     refine hK144 _ _ ?_
     refine wp_cond_false (ev_hit hN rfl) ?_
     refine wp_skip ?_
     refine hK143 _ _ ?_
     refine seq_any fun K145 hK145 => ?_
     refine one_reg ?_
     refine op_move (ev_hit hN rfl) ?_
     refine op_bin (v := .bool false) (ev_hit hN rfl) rfl (by rw [binOp_neq]; rfl) ?_
     refine reg_nil ?_
     refine hK145 _ _ ?_
     refine wp_cond_false (ev_hit hN rfl) ?_
     refine wp_skip ?_
     refine hK130 _ _ ?_
     refine seq_any fun K146 hK146 => ?_
     refine one_reg ?_
     refine op_move (ev_hit hN rfl) ?_
     refine op_fn (vs := [(ptr k94 0), (Value.int .i64 1)]) ok60 ⟨(ev_hit hN rfl), ⟨rfl, trivial⟩⟩ (CommitR' (n := 1) (L := ([] : List Int)) (M2 := ([(2, ⟨bL, 2, [([117], bL)], [], false⟩)] : TM)) (E2 := 0) (by omega) (by unfold MOk TOk; simp [st2, wf_i64, hjl, ha8, hb8]) hl133 (com1_l.trans (by rw [hdm]; rfl)) (com1_m.trans (by rw [hdm])) rfl) ?_
     rintro _ w148 ⟨E149, v147, rfl, hO147, F147, hl147, hN147, hd147⟩
     have bd150 := hO89.lt
     have bd151 := hB119.lt
     have hl133_old := hl133
     have z_w148 := E149.size
     have hA := hA.keepG E149 (fun k hk => .inr (by have := hl133_old.lt k hk; omega))
     have hB := hB.keepG E149 (fun k hk => .inr (by have := hl133_old.lt k hk; omega))
     have hO89 := hO89.keepG E149 dj138
     have hB119 := hB119.keepG E149 dj139
     have hb := below_stepG hb E149 hb.size (fun k hk => (hl133_old.lt k hk).1)
     have dj152 : Dj (Bl v89) F147 := Dj.stepF hN147 (fun k hk => (bd150 k hk).2) dj138
     have dj153 : ¬ F147 b117 := ne_stepF hN147 bd151 dj139
     have hO147 := hO147.mono (base' := w.heap.size) (by omega)
     have hl147 : LocksR w148 w.heap.size k94 ([(2, ⟨bL, 2, [([117], bL)], [], false⟩)] : TM) F147 := hl147
     refine op_move (ev_hit hN rfl) ?_
     refine op_extract (ev_hit hN rfl) rfl ?_
     refine op_extract (ev_hit hN rfl) rfl ?_
     refine op_assign (ev_hit hN rfl) ?_
     refine op_assign (ev_hit hN rfl) ?_
     refine reg_nil ?_
     refine hK146 _ _ ?_
     refine seq_any fun K154 hK154 => ?_
     refine one_reg ?_
     refine op_move (ev_base hN rfl s1) ?_
     refine op_assign (ev_hit hN rfl) ?_
     refine reg_nil ?_
     refine hK154 _ _ ?_
     refine seq_any fun K155 hK155 => ?_
     refine seq_any fun K156 hK156 => ?_
     refine one_reg ?_
     refine op_move (ev_base hN rfl s4) ?_
     refine reg_nil ?_
     refine hK156 _ _ ?_
     refine wp_cond_false (ev_hit hN rfl) ?_
     refine wp_skip ?_
     refine hK155 _ _ ?_
     refine seq_any fun K157 hK157 => ?_
     refine one_reg ?_
     refine op_move (ev_base hN rfl s2) ?_
     refine op_move (ev_hit hN rfl) ?_
     refine g_false (j := 1) (dj := 114) (b := true) rfl rfl rfl (ev_hit hN rfl) rfl rfl ?_
     refine op_pick_f (ev_hit hN rfl) rfl ?_
     refine op_move (ev_hit hN rfl) ?_
     refine g_false (j := 4) (dj := 117) (b := true) rfl rfl rfl (ev_hit hN rfl) rfl rfl ?_
     refine g_false (j := 4) (dj := 117) (b := true) rfl rfl rfl (ev_hit hN rfl) rfl rfl ?_
     refine g_false (j := 4) (dj := 117) (b := true) rfl rfl rfl (ev_hit hN rfl) rfl rfl ?_
     refine op_pick_f (ev_hit hN rfl) rfl ?_
     refine op_assign (ev_hit hN rfl) ?_
     refine reg_nil ?_
     refine hK157 _ _ ?_
     refine seq_any fun K158 hK158 => ?_
     refine one_reg ?_
     refine op_move (ev_hit hN rfl) ?_
     refine op_bin (v := .bool true) (ev_hit hN rfl) rfl (by rw [binOp_eql]; rfl) ?_
     refine op_move (ev_hit hN rfl) ?_
     refine g_true (j := 2) (dj := 124) (b := true) rfl rfl rfl (ev_hit hN rfl) ?_
     refine op_move (ev_hit hN rfl) ?_
     refine g_true (j := 2) (dj := 124) (b := true) rfl rfl rfl (ev_hit hN rfl) ?_
     refine op_bin (v := .bool true) (ev_hit hN rfl) rfl (by rw [binOp_eql]; rfl) ?_
     refine op_pick_t (ev_hit hN rfl) (ev_hit hN rfl) ?_
     refine op_move (ev_hit hN rfl) ?_
     refine g_true (j := 6) (dj := 128) (b := true) rfl rfl rfl (ev_hit hN rfl) ?_
     refine op_move (ev_hit hN rfl) ?_
     refine g_true (j := 6) (dj := 128) (b := true) rfl rfl rfl (ev_hit hN rfl) ?_
     refine op_fn (vs := [(ptr k94 0), (Value.int .i64 2)]) ok62 ⟨(ev_hit hN rfl), ⟨rfl, trivial⟩⟩ (DoomedR' (n := 2) hl147 rfl) ?_
     rintro _ w159 ⟨E160, rfl⟩
     have E160 := grown_of_below E160
     have z_w159 := E160.size
     have hA := hA.keep0 E160
     have hB := hB.keep0 E160
     have hO89 := hO89.keep0 E160
     have hB119 := hB119.keep0 E160
     have hl147 := hl147.keepG (Gr.of0 E160 NoB) (fun _ _ h => h)
     have hO147 := hO147.keep0 E160
     have hb := below_step0 hb E160 hb.size
     refine g_true (j := 6) (dj := 128) (b := true) rfl rfl rfl (ev_hit hN rfl) ?_
     refine op_move (ev_hit hN rfl) ?_
     refine g_true (j := 6) (dj := 128) (b := true) rfl rfl rfl (ev_hit hN rfl) ?_
     refine op_eqb Try.underlying4 (ev_hit hN rfl) (ev_hit hN rfl) ?_
     refine op_pick_t (ev_hit hN rfl) (ev_hit hN rfl) ?_
     refine op_move (ev_hit hN rfl) ?_
     refine g_true (j := 12) (dj := 134) (b := true) rfl rfl rfl (ev_hit hN rfl) ?_
     refine op_move (ev_hit hN rfl) ?_
     refine g_true (j := 12) (dj := 134) (b := true) rfl rfl rfl (ev_hit hN rfl) ?_
     refine op_len_rd Try.underlying35 (ev_hit hN rfl) hO147.rdw ?_
     refine g_true (j := 12) (dj := 134) (b := true) rfl rfl rfl (ev_hit hN rfl) ?_
     refine op_eql (ev_hit hN rfl) rfl (fun c137 => ?_) (fun c137 => ?_)
     · -- 137T
      exact absurd c137 (by simp)
     · -- 137F
      refine g_true (j := 12) (dj := 134) (b := true) rfl rfl rfl (ev_hit hN rfl) ?_
      refine op_move (ev_hit hN rfl) ?_
      refine g_true (j := 12) (dj := 134) (b := true) rfl rfl rfl (ev_hit hN rfl) ?_
      refine op_eqb Try.underlying4 (ev_hit hN rfl) (ev_hit hN rfl) ?_
      refine op_pick_t (ev_hit hN rfl) (ev_hit hN rfl) ?_
      refine op_assign (ev_hit hN rfl) ?_
      refine reg_nil ?_
      refine hK158 _ _ ?_
      refine wp_ret ?_
      refine ret1 rfl hd (ev_hit hN rfl) ⟨_, rfl, ?_⟩
      -- path 25T 29T 37F 81T 137F
      exact ⟨hb, rfl⟩
    · -- 81F
     rw [c81]
     refine op_pick_t (ev_hit hN rfl) (ev_hit hN rfl) ?_
     refine op_move (ev_hit hN rfl) ?_
     refine g_true (j := 7) (dj := 83) (b := false) rfl rfl rfl (ev_hit hN rfl) ?_
     refine op_move (ev_base hN rfl s4) ?_
     refine g_true (j := 7) (dj := 83) (b := false) rfl rfl rfl (ev_hit hN rfl) ?_
     refine op_move (ev_hit hN rfl) ?_
     refine g_false (j := 9) (dj := 85) (b := true) rfl rfl rfl (ev_hit hN rfl) rfl rfl ?_
     refine g_false (j := 9) (dj := 85) (b := true) rfl rfl rfl (ev_hit hN rfl) rfl rfl ?_
     refine g_false (j := 9) (dj := 85) (b := true) rfl rfl rfl (ev_hit hN rfl) rfl rfl ?_
     refine g_true (j := 7) (dj := 83) (b := false) rfl rfl rfl (ev_hit hN rfl) ?_
     refine op_pick_f (ev_hit hN rfl) rfl ?_
     refine op_pick_f (ev_hit hN rfl) (ev_hit hN rfl) ?_
     refine op_assign (ev_hit hN rfl) ?_
     refine reg_nil ?_
     refine hK140 _ _ ?_
     refine seq_any fun K161 hK161 => ?_
     refine seq_any fun K162 hK162 => ?_
     refine one_reg ?_
     refine op_move (ev_hit hN rfl) ?_
     refine op_move (ev_hit hN rfl) ?_
     refine g_false (j := 1) (dj := 92) (b := true) rfl rfl rfl (ev_hit hN rfl) rfl rfl ?_
     refine op_pick_f (ev_hit hN rfl) rfl ?_
     refine reg_nil ?_
     refine hK162 _ _ ?_
     refine wp_cond_false (ev_hit hN rfl) ?_
     refine wp_skip ?_
     refine hK161 _ _ ?_
     refine seq_any fun K163 hK163 => ?_
     refine one_reg ?_
     refine op_move (ev_hit hN rfl) ?_
     refine op_bin (v := .bool false) (ev_hit hN rfl) rfl (by rw [binOp_neq]; rfl) ?_
     refine reg_nil ?_
     refine hK163 _ _ ?_
     refine wp_cond_false (ev_hit hN rfl) ?_
     refine wp_skip ?_
     refine hK130 _ _ ?_
     refine seq_any fun K164 hK164 => ?_
     refine one_reg ?_
     refine op_move (ev_hit hN rfl) ?_
     refine op_fn (vs := [(ptr k94 0), (Value.int .i64 1)]) ok60 ⟨(ev_hit hN rfl), ⟨rfl, trivial⟩⟩ (CommitR' (n := 1) (L := ([] : List Int)) (M2 := ([(2, ⟨bL, 2, [([117], bL)], [], false⟩)] : TM)) (E2 := 0) (by omega) (by unfold MOk TOk; simp [st2, wf_i64, hjl, ha8, hb8]) hl133 (com1_l.trans (by rw [hdm]; rfl)) (com1_m.trans (by rw [hdm])) rfl) ?_
     rintro _ w166 ⟨E167, v165, rfl, hO165, F165, hl165, hN165, hd165⟩
     have bd168 := hO89.lt
     have bd169 := hB119.lt
     have hl133_old := hl133
     have z_w166 := E167.size
     have hA := hA.keepG E167 (fun k hk => .inr (by have := hl133_old.lt k hk; omega))
     have hB := hB.keepG E167 (fun k hk => .inr (by have := hl133_old.lt k hk; omega))
     have hO89 := hO89.keepG E167 dj138
     have hB119 := hB119.keepG E167 dj139
     have hb := below_stepG hb E167 hb.size (fun k hk => (hl133_old.lt k hk).1)
     have dj170 : Dj (Bl v89) F165 := Dj.stepF hN165 (fun k hk => (bd168 k hk).2) dj138
     have dj171 : ¬ F165 b117 := ne_stepF hN165 bd169 dj139
     have hO165 := hO165.mono (base' := w.heap.size) (by omega)
     have hl165 : LocksR w166 w.heap.size k94 ([(2, ⟨bL, 2, [([117], bL)], [], false⟩)] : TM) F165 := hl165
     refine op_move (ev_hit hN rfl) ?_
     refine op_extract (ev_hit hN rfl) rfl ?_
     refine op_extract (ev_hit hN rfl) rfl ?_
     refine op_assign (ev_hit hN rfl) ?_
     refine op_assign (ev_hit hN rfl) ?_
     refine reg_nil ?_
     refine hK164 _ _ ?_
     refine seq_any fun K172 hK172 => ?_
     refine one_reg ?_
     refine op_move (ev_base hN rfl s1) ?_
     refine op_assign (ev_hit hN rfl) ?_
     refine reg_nil ?_
     refine hK172 _ _ ?_
     refine seq_any fun K173 hK173 => ?_
     refine seq_any fun K174 hK174 => ?_
     refine one_reg ?_
     refine op_move (ev_base hN rfl s4) ?_
     refine reg_nil ?_
     refine hK174 _ _ ?_
     refine wp_cond_false (ev_hit hN rfl) ?_
     refine wp_skip ?_
     refine hK173 _ _ ?_
     refine seq_any fun K175 hK175 => ?_
     refine one_reg ?_
     refine op_move (ev_base hN rfl s2) ?_
     refine op_move (ev_hit hN rfl) ?_
     refine g_false (j := 1) (dj := 114) (b := true) rfl rfl rfl (ev_hit hN rfl) rfl rfl ?_
     refine op_pick_f (ev_hit hN rfl) rfl ?_
     refine op_move (ev_hit hN rfl) ?_
     refine g_false (j := 4) (dj := 117) (b := true) rfl rfl rfl (ev_hit hN rfl) rfl rfl ?_
     refine g_false (j := 4) (dj := 117) (b := true) rfl rfl rfl (ev_hit hN rfl) rfl rfl ?_
     refine g_false (j := 4) (dj := 117) (b := true) rfl rfl rfl (ev_hit hN rfl) rfl rfl ?_
     refine op_pick_f (ev_hit hN rfl) rfl ?_
     refine op_assign (ev_hit hN rfl) ?_
     refine reg_nil ?_
     refine hK175 _ _ ?_
     refine seq_any fun K176 hK176 => ?_
     refine one_reg ?_
     refine op_move (ev_hit hN rfl) ?_
     refine op_bin (v := .bool true) (ev_hit hN rfl) rfl (by rw [binOp_eql]; rfl) ?_
     refine op_move (ev_hit hN rfl) ?_
     refine g_true (j := 2) (dj := 124) (b := true) rfl rfl rfl (ev_hit hN rfl) ?_
     refine op_move (ev_hit hN rfl) ?_
     refine g_true (j := 2) (dj := 124) (b := true) rfl rfl rfl (ev_hit hN rfl) ?_
     refine op_bin (v := .bool true) (ev_hit hN rfl) rfl (by rw [binOp_eql]; rfl) ?_
     refine op_pick_t (ev_hit hN rfl) (ev_hit hN rfl) ?_
     refine op_move (ev_hit hN rfl) ?_
     refine g_true (j := 6) (dj := 128) (b := true) rfl rfl rfl (ev_hit hN rfl) ?_
     refine op_move (ev_hit hN rfl) ?_
     refine g_true (j := 6) (dj := 128) (b := true) rfl rfl rfl (ev_hit hN rfl) ?_
     refine op_fn (vs := [(ptr k94 0), (Value.int .i64 2)]) ok62 ⟨(ev_hit hN rfl), ⟨rfl, trivial⟩⟩ (DoomedR' (n := 2) hl165 rfl) ?_
     rintro _ w177 ⟨E178, rfl⟩
     have E178 := grown_of_below E178
     have z_w177 := E178.size
     have hA := hA.keep0 E178
     have hB := hB.keep0 E178
     have hO89 := hO89.keep0 E178
     have hB119 := hB119.keep0 E178
     have hl165 := hl165.keepG (Gr.of0 E178 NoB) (fun _ _ h => h)
     have hO165 := hO165.keep0 E178
     have hb := below_step0 hb E178 hb.size
     refine g_true (j := 6) (dj := 128) (b := true) rfl rfl rfl (ev_hit hN rfl) ?_
     refine op_move (ev_hit hN rfl) ?_
     refine g_true (j := 6) (dj := 128) (b := true) rfl rfl rfl (ev_hit hN rfl) ?_
     refine op_eqb Try.underlying4 (ev_hit hN rfl) (ev_hit hN rfl) ?_
     refine op_pick_t (ev_hit hN rfl) (ev_hit hN rfl) ?_
     refine op_move (ev_hit hN rfl) ?_
     refine g_true (j := 12) (dj := 134) (b := true) rfl rfl rfl (ev_hit hN rfl) ?_
     refine op_move (ev_hit hN rfl) ?_
     refine g_true (j := 12) (dj := 134) (b := true) rfl rfl rfl (ev_hit hN rfl) ?_
     refine op_len_rd Try.underlying35 (ev_hit hN rfl) hO165.rdw ?_
     refine g_true (j := 12) (dj := 134) (b := true) rfl rfl rfl (ev_hit hN rfl) ?_
     refine op_eql (ev_hit hN rfl) rfl (fun c137 => ?_) (fun c137 => ?_)
     · -- 137T
      exact absurd c137 (by simp)
     · -- 137F
      refine g_true (j := 12) (dj := 134) (b := true) rfl rfl rfl (ev_hit hN rfl) ?_
      refine op_move (ev_hit hN rfl) ?_
      refine g_true (j := 12) (dj := 134) (b := true) rfl rfl rfl (ev_hit hN rfl) ?_
      refine op_eqb Try.underlying4 (ev_hit hN rfl) (ev_hit hN rfl) ?_
      refine op_pick_t (ev_hit hN rfl) (ev_hit hN rfl) ?_
      refine op_assign (ev_hit hN rfl) ?_
      refine reg_nil ?_
      refine hK176 _ _ ?_
      refine wp_ret ?_
      refine ret1 rfl hd (ev_hit hN rfl) ⟨_, rfl, ?_⟩
      -- path 25T 29T 37F 81F 137F
      exact ⟨hb, rfl⟩
  · -- 29F
   rw [c29]
   refine g_true (j := 3) (dj := 27) (b := false) rfl rfl rfl (ev_hit hN rfl) ?_
   refine op_not (ev_hit hN rfl) ?_
   refine op_pick_f (ev_hit hN rfl) (ev_hit hN rfl) ?_
   refine op_move (ev_hit hN rfl) ?_
   skip
   refine g_false (j := 8) (dj := 32) (b := false) rfl rfl rfl (ev_hit hN rfl) rfl rfl ?_
   refine g_false (j := 8) (dj := 32) (b := false) rfl rfl rfl (ev_hit hN rfl) rfl rfl ?_
   refine g_false (j := 8) (dj := 32) (b := false) rfl rfl rfl (ev_hit hN rfl) rfl rfl ?_
   refine g_false (j := 8) (dj := 32) (b := false) rfl rfl rfl (ev_hit hN rfl) rfl rfl ?_
   refine g_false (j := 8) (dj := 32) (b := false) rfl rfl rfl (ev_hit hN rfl) rfl rfl ?_
   refine op_pick_t (ev_hit hN rfl) rfl ?_
   refine reg_nil ?_
   refine hK84 _ _ ?_
   refine wp_cond_true (ev_hit hN rfl) ?_
   refine seq_any fun K179 hK179 => ?_
   refine one_reg ?_
   refine op_assign rfl ?_
   refine reg_nil ?_
   refine hK179 _ _ ?_
   refine wp_ret (then_ret ( ?_))
   refine ret1 rfl hd (ev_hit hN rfl) ⟨_, rfl, ?_⟩
   -- path 25T 29F
   exact ⟨hb, rfl⟩
 · -- 25F
  rw [c25]
  refine op_not (ev_hit hN rfl) ?_
  refine op_move (ev_hit hN rfl) ?_
  refine g_false (j := 3) (dj := 27) (b := false) rfl rfl rfl (ev_hit hN rfl) rfl rfl ?_
  refine g_false (j := 3) (dj := 27) (b := false) rfl rfl rfl (ev_hit hN rfl) rfl rfl ?_
  refine g_false (j := 3) (dj := 27) (b := false) rfl rfl rfl (ev_hit hN rfl) rfl rfl ?_
  refine op_pick_t (ev_hit hN rfl) rfl ?_
  refine op_move (ev_hit hN rfl) ?_
  skip
  refine g_false (j := 8) (dj := 32) (b := false) rfl rfl rfl (ev_hit hN rfl) rfl rfl ?_
  refine g_false (j := 8) (dj := 32) (b := false) rfl rfl rfl (ev_hit hN rfl) rfl rfl ?_
  refine g_false (j := 8) (dj := 32) (b := false) rfl rfl rfl (ev_hit hN rfl) rfl rfl ?_
  refine g_false (j := 8) (dj := 32) (b := false) rfl rfl rfl (ev_hit hN rfl) rfl rfl ?_
  refine g_false (j := 8) (dj := 32) (b := false) rfl rfl rfl (ev_hit hN rfl) rfl rfl ?_
  refine op_pick_t (ev_hit hN rfl) rfl ?_
  refine reg_nil ?_
  refine hK84 _ _ ?_
  refine wp_cond_true (ev_hit hN rfl) ?_
  refine seq_any fun K180 hK180 => ?_
  refine one_reg ?_
  refine op_assign rfl ?_
  refine reg_nil ?_
  refine hK180 _ _ ?_
  refine wp_ret (then_ret ( ?_))
  refine ret1 rfl hd (ev_hit hN rfl) ⟨_, rfl, ?_⟩
  -- path 25F
  exact ⟨hb, rfl⟩

theorem LockDooms_ftf_any (aL bL : List UInt16) (vA vB : Value) (w : World) (hal : aL.length ≤ 9223372036854775807) (hbl : bL.length ≤ 9223372036854775807) (hA : RdC w 0 w.heap.size 1 vA aL.length (aL.map u16v)) (hB : RdC w 0 w.heap.size 1 vB bL.length (bL.map u16v)) : Ret Try.prog 13 #[vA, vB, (Value.bool true), (Value.bool false), (Value.bool false)] w (fun v' w' => Below w.heap.size w w' ∧ v' = .bool true) := by
 have hb := Below.refl w.heap.size w
 refine enter (N := 141) Try.func13 rfl rfl (by simp) fun a0 hN hd hA => ?_
 have s0 : a0.tmps.getD 0 undef = vA := hA 0 (by simp)
 have s1 : a0.tmps.getD 1 undef = vB := hA 1 (by simp)
 have s2 : a0.tmps.getD 2 undef = (Value.bool true) := hA 2 (by simp)
 have s3 : a0.tmps.getD 3 undef = (Value.bool false) := hA 3 (by simp)
 have s4 : a0.tmps.getD 4 undef = (Value.bool false) := hA 4 (by simp)
 clear hA
 refine seq_any fun K181 hK181 => ?_
 refine one_reg ?_
 refine op_assign rfl ?_
 refine reg_nil ?_
 refine hK181 _ _ ?_
 refine seq_any fun K182 hK182 => ?_
 refine seq_any fun K183 hK183 => ?_
 refine one_reg ?_
 refine op_fn (vs := []) ok52 trivial (begun19_ret _) ?_
 rintro _ w184 ⟨E185, rfl⟩
 have E185 := grown_of_below E185
 have z_w184 := E185.size
 have hA := hA.keep0 E185
 have hB := hB.keep0 E185
 have hb := below_step0 hb E185 hb.size
 refine op_not (ev_hit hN rfl) ?_
 refine reg_nil ?_
 refine hK183 _ _ ?_
 refine wp_cond_false (ev_hit hN rfl) ?_
 refine wp_skip ?_
 refine hK182 _ _ ?_
 refine seq_any fun K186 hK186 => ?_
 refine seq_any fun K187 hK187 => ?_
 refine one_reg ?_
 refine op_move (ev_base hN rfl s0) ?_
 refine op_fn (vs := [vA]) ok33 ⟨(ev_hit hN rfl), trivial⟩ (refMay_ret aL _ _ (by first | assumption | omega | (simp only [List.length_append, List.length_cons, List.length_nil, List.length_drop, List.length_take]; omega) | (dsimp only; omega) | decide | (simp [keyV, be8_len]; done)) (show RdC w184 0 w184.heap.size 1 vA aL.length (aL.map u16v) from by have hh : RdC w184 0 w184.heap.size 1 _ _ _ := (hA.mono (L' := 0) (B' := w184.heap.size) (Nat.zero_le _) (by omega)); first | exact hh | exact hh.cast (by first | omega | (simp; try omega)) (by first | rfl | simp [u16v]))) ?_
 rintro _ w188 ⟨E189, rfl⟩
 have E189 := grown_of_below E189
 have z_w188 := E189.size
 have hA := hA.keep0 E189
 have hB := hB.keep0 E189
 have hb := below_step0 hb E189 hb.size
 rcases Bool.eq_false_or_eq_true ((mayL aL)) with c25 | c25
 · -- 25T
  rw [c25]
  refine op_not (ev_hit hN rfl) ?_
  refine op_move (ev_hit hN rfl) ?_
  refine g_true (j := 3) (dj := 27) (b := false) rfl rfl rfl (ev_hit hN rfl) ?_
  refine op_move (ev_base hN rfl s1) ?_
  refine g_true (j := 3) (dj := 27) (b := false) rfl rfl rfl (ev_hit hN rfl) ?_
  refine op_fn (vs := [vB]) ok33 ⟨(ev_hit hN rfl), trivial⟩ (refMay_ret bL _ _ (by first | assumption | omega | (simp only [List.length_append, List.length_cons, List.length_nil, List.length_drop, List.length_take]; omega) | (dsimp only; omega) | decide | (simp [keyV, be8_len]; done)) (show RdC w188 0 w188.heap.size 1 vB bL.length (bL.map u16v) from by have hh : RdC w188 0 w188.heap.size 1 _ _ _ := (hB.mono (L' := 0) (B' := w188.heap.size) (Nat.zero_le _) (by omega)); first | exact hh | exact hh.cast (by first | omega | (simp; try omega)) (by first | rfl | simp [u16v]))) ?_
  rintro _ w190 ⟨E191, rfl⟩
  have E191 := grown_of_below E191
  have z_w190 := E191.size
  have hA := hA.keep0 E191
  have hB := hB.keep0 E191
  have hb := below_step0 hb E191 hb.size
  rcases Bool.eq_false_or_eq_true ((mayL bL)) with c29 | c29
  · -- 29T
   rw [c29]
   refine g_true (j := 3) (dj := 27) (b := false) rfl rfl rfl (ev_hit hN rfl) ?_
   refine op_not (ev_hit hN rfl) ?_
   refine op_pick_f (ev_hit hN rfl) (ev_hit hN rfl) ?_
   refine op_move (ev_hit hN rfl) ?_
   have ha8 := mayL_len c25
   have hb8 := mayL_len c29
   refine g_true (j := 8) (dj := 32) (b := false) rfl rfl rfl (ev_hit hN rfl) ?_
   refine op_move (ev_base hN rfl s0) ?_
   refine g_true (j := 8) (dj := 32) (b := false) rfl rfl rfl (ev_hit hN rfl) ?_
   refine op_move (ev_base hN rfl s1) ?_
   refine g_true (j := 8) (dj := 32) (b := false) rfl rfl rfl (ev_hit hN rfl) ?_
   refine op_fn (vs := [vA, vB]) ok51 ⟨(ev_hit hN rfl), ⟨(ev_hit hN rfl), trivial⟩⟩ (rjoinW_ret aL bL _ _ _ (by first | assumption | omega | (simp only [List.length_append, List.length_cons, List.length_nil, List.length_drop, List.length_take]; omega) | (dsimp only; omega) | decide | (simp [keyV, be8_len]; done)) (by first | assumption | omega | (simp only [List.length_append, List.length_cons, List.length_nil, List.length_drop, List.length_take]; omega) | (dsimp only; omega) | decide | (simp [keyV, be8_len]; done)) (show RdC w190 0 w190.heap.size 1 vA aL.length (aL.map u16v) from by have hh : RdC w190 0 w190.heap.size 1 _ _ _ := (hA.mono (L' := 0) (B' := w190.heap.size) (Nat.zero_le _) (by omega)); first | exact hh | exact hh.cast (by first | omega | (simp; try omega)) (by first | rfl | simp [u16v])) (show RdC w190 0 w190.heap.size 1 vB bL.length (bL.map u16v) from by have hh : RdC w190 0 w190.heap.size 1 _ _ _ := (hB.mono (L' := 0) (B' := w190.heap.size) (Nat.zero_le _) (by omega)); first | exact hh | exact hh.cast (by first | omega | (simp; try omega)) (by first | rfl | simp [u16v]))) ?_
   rintro v192 w193 ⟨E194, hO192⟩
   have E194 := grown_of_below E194
   have z_w193 := E194.size
   have hA := hA.keep0 E194
   have hB := hB.keep0 E194
   have hb := below_step0 hb E194 hb.size
   have hO192 := hO192.mono (base' := w.heap.size) (by omega)
   refine g_true (j := 8) (dj := 32) (b := false) rfl rfl rfl (ev_hit hN rfl) ?_
   refine op_len_rd Try.underlying54 (ev_hit hN rfl) hO192.rdw ?_
   refine g_true (j := 8) (dj := 32) (b := false) rfl rfl rfl (ev_hit hN rfl) ?_
   refine op_gtr (ev_hit hN rfl) rfl (fun c37 => ?_) (fun c37 => ?_)
   · -- 37T
    refine op_pick_f (ev_hit hN rfl) (ev_hit hN rfl) ?_
    refine reg_nil ?_
    refine hK187 _ _ ?_
    refine wp_cond_true (ev_hit hN rfl) ?_
    refine seq_any fun K195 hK195 => ?_
    refine one_reg ?_
    refine op_assign rfl ?_
    refine reg_nil ?_
    refine hK195 _ _ ?_
    refine wp_ret (then_ret ( ?_))
    refine ret1 rfl hd (ev_hit hN rfl) ⟨_, rfl, ?_⟩
    -- path 25T 29T 37T
    exact ⟨hb, rfl⟩
   · -- 37F
    refine op_pick_f (ev_hit hN rfl) (ev_hit hN rfl) ?_
    refine reg_nil ?_
    refine hK187 _ _ ?_
    refine wp_cond_false (ev_hit hN rfl) ?_
    refine wp_skip ?_
    refine hK186 _ _ ?_
    refine seq_any fun K196 hK196 => ?_
    refine one_reg ?_
    have hjl : (joinL aL bL).length ≤ 8 := by omega
    skip
    have hfj : flowsL aL (joinL aL bL) = true := flows_joinl
    have hrf : flowsL aL aL = true := flows_refl
    have hdm : dmB aL bL bL [116] [] = false := by simp [dmB]
    refine op_fn (vs := []) ok53 trivial (lockNewR) ?_
    rintro _ w198 ⟨E199, k197, F197, rfl, hl197⟩
    have lo_F197 : ∀ x, F197 x → w193.heap.size ≤ x := fun x hx => (hl197.lt x hx).1
    have dj200 : Dj (Bl v192) F197 := Dj.fresh (fun k hk => (hO192.lt k hk).2) lo_F197
    have E199 := grown_of_below E199
    have z_w198 := E199.size
    have hA := hA.keep0 E199
    have hB := hB.keep0 E199
    have hO192 := hO192.keep0 E199
    have hb := below_step0 hb E199 hb.size
    have hl197 : LocksR w198 w.heap.size k197 ([] : TM) F197 := hl197.mono (by omega)
    refine op_assign (ev_hit hN rfl) ?_
    refine reg_nil ?_
    refine hK196 _ _ ?_
    refine seq_any fun K201 hK201 => ?_
    refine one_reg ?_
    refine op_move (ev_hit hN rfl) ?_
    refine op_move (ev_base hN rfl s0) ?_
    refine op_fn (vs := [(ptr k197 0), (Value.int .i64 1), vA, (Value.int .u64 1)]) ok54 ⟨(ev_hit hN rfl), ⟨rfl, ⟨(ev_hit hN rfl), ⟨rfl, trivial⟩⟩⟩⟩ (lk_conv (EnterR (n := 1) (s := 1) (l := aL) (by omega) (lo := w.heap.size) hA (Nat.le_refl _) (by first | decide | omega) hl197) (A' := (Value.int .i64 0)) (M2 := ([(1, (⟨aL, 1, [], [], false⟩ : TX))] : TM)) (by rfl) (by rfl)) ?_
    rintro _ w203 ⟨E204, rfl, F202, hl202, hN202⟩
    have bd205 := hO192.lt
    have hl197_old := hl197
    have z_w203 := E204.size
    have hA := hA.keepG E204 (fun k hk => .inr (by have := hl197_old.lt k hk; omega))
    have hB := hB.keepG E204 (fun k hk => .inr (by have := hl197_old.lt k hk; omega))
    have hO192 := hO192.keepG E204 dj200
    have hb := below_stepG hb E204 hb.size (fun k hk => (hl197_old.lt k hk).1)
    have dj206 : Dj (Bl v192) F202 := Dj.stepF hN202 (fun k hk => (bd205 k hk).2) dj200
    refine reg_nil ?_
    refine hK201 _ _ ?_
    refine seq_any fun K207 hK207 => ?_
    refine one_reg ?_
    refine op_move (ev_hit hN rfl) ?_
    refine op_move (ev_base hN rfl s1) ?_
    refine op_fn (vs := [(ptr k197 0), (Value.int .i64 2), vB, (Value.int .u64 2)]) ok54 ⟨(ev_hit hN rfl), ⟨rfl, ⟨(ev_hit hN rfl), ⟨rfl, trivial⟩⟩⟩⟩ (lk_conv (EnterR (n := 2) (s := 2) (l := bL) (by omega) (lo := w.heap.size) hB (Nat.le_refl _) (by first | decide | omega) hl202) (A' := (Value.int .i64 0)) (M2 := (st2 aL bL 2 [] [])) (by rfl) (by rfl)) ?_
    rintro _ w209 ⟨E210, rfl, F208, hl208, hN208⟩
    have bd211 := hO192.lt
    have hl202_old := hl202
    have z_w209 := E210.size
    have hA := hA.keepG E210 (fun k hk => .inr (by have := hl202_old.lt k hk; omega))
    have hB := hB.keepG E210 (fun k hk => .inr (by have := hl202_old.lt k hk; omega))
    have hO192 := hO192.keepG E210 dj206
    have hb := below_stepG hb E210 hb.size (fun k hk => (hl202_old.lt k hk).1)
    have dj212 : Dj (Bl v192) F208 := Dj.stepF hN208 (fun k hk => (bd211 k hk).2) dj206
    refine reg_nil ?_
    refine hK207 _ _ ?_
    refine seq_any fun K213 hK213 => ?_
    refine seq_any fun K214 hK214 => ?_
    refine one_reg ?_
    refine op_move (ev_base hN rfl s4) ?_
    refine reg_nil ?_
    refine hK214 _ _ ?_
    refine wp_cond_false (ev_hit hN rfl) ?_
    refine wp_skip ?_
    refine hK213 _ _ ?_
    refine seq_any fun K215 hK215 => ?_
    refine one_reg ?_
    refine op_assign rfl ?_
    refine reg_nil ?_
    refine hK215 _ _ ?_
    refine seq_any fun K216 hK216 => ?_
    refine seq_any fun K217 hK217 => ?_
    refine one_reg ?_
    refine op_move (ev_base hN rfl s2) ?_
    refine op_not (ev_hit hN rfl) ?_
    refine reg_nil ?_
    refine hK217 _ _ ?_
    refine wp_cond_false (ev_hit hN rfl) ?_
    refine wp_skip ?_
    refine hK216 _ _ ?_
    refine seq_any fun K218 hK218 => ?_
    refine one_reg ?_
    refine op_move (ev_hit hN rfl) ?_
    refine op_move (ev_hit hN rfl) ?_
    refine op_bslice (e := 9) (pv := [(0, (Value.string (bs [116])))]) (cs := [(Value.string (bs [116]))]) ⟨rfl, (ev_hit hN rfl), trivial⟩ (by kernel_rfl) ?_
    intro w219 b220 lo_b220 hi_b220 hB222 E221
    have dj223 : ¬ F208 b220 := fun hf => by have := (hl208.lt _ hf).2; omega
    have z_w219 := E221.size
    have hA := hA.keep0 E221
    have hB := hB.keep0 E221
    have hO192 := hO192.keep0 E221
    have hl208 := hl208.keepG (Gr.of0 E221 NoB) (fun _ _ h => h)
    have hb := below_step0 hb E221 hb.size
    refine op_fn (vs := [(ptr k197 0), (Value.int .i64 2), (Value.slice (some ⟨b220, 0, none⟩) 1 1), (Value.string (bs []))]) ok55 ⟨(ev_hit hN rfl), ⟨rfl, ⟨(ev_hit hN rfl), ⟨rfl, trivial⟩⟩⟩⟩ (lk_conv (AskR (n := 2) (Rs := [[116]]) (x := []) (by omega) (by unfold MOk TOk; simp [st2, wf_i64, hjl, ha8, hb8]) (by unfold MSm; simp [st2]) (by decide) (Lr := b220) (Br := b220 + 1) (RdC.ofBx (sz := 1) (n := 1) hB222 rfl (by decide)) (by have := hB222.lt; omega) (fun y hy => Nat.lt_or_gt_of_ne (fun e => dj223 (e ▸ hy))) hl208) (A' := (Value.tuple #[(Value.int .i64 1), (Value.int .i64 0)])) (M2 := (st2 aL bL 2 [([116], bL)] [])) (by rw [ask2_v]; rfl) ask2_m) ?_
    rintro _ w225 ⟨E226, rfl, F224, hl224, hN224⟩
    have bd227 := hO192.lt
    have bd228 := hB222.lt
    have hl208_old := hl208
    have z_w225 := E226.size
    have hA := hA.keepG E226 (fun k hk => .inr (by have := hl208_old.lt k hk; omega))
    have hB := hB.keepG E226 (fun k hk => .inr (by have := hl208_old.lt k hk; omega))
    have hO192 := hO192.keepG E226 dj212
    have hB222 := hB222.keepG E226 dj223
    have hb := below_stepG hb E226 hb.size (fun k hk => (hl208_old.lt k hk).1)
    have dj229 : Dj (Bl v192) F224 := Dj.stepF hN224 (fun k hk => (bd227 k hk).2) dj212
    have dj230 : ¬ F224 b220 := ne_stepF hN224 bd228 dj223
    refine op_move (ev_hit hN rfl) ?_
    refine op_extract (ev_hit hN rfl) rfl ?_
    refine op_extract (ev_hit hN rfl) rfl ?_
    refine op_assign (ev_hit hN rfl) ?_
    refine op_assign (ev_hit hN rfl) ?_
    refine reg_nil ?_
    refine hK218 _ _ ?_
    refine seq_any fun K231 hK231 => ?_
    refine seq_any fun K232 hK232 => ?_
    refine one_reg ?_
    refine op_move (ev_base hN rfl s4) ?_
    refine op_move (ev_hit hN rfl) ?_
    refine g_false (j := 1) (dj := 62) (b := true) rfl rfl rfl (ev_hit hN rfl) rfl rfl ?_
    refine g_false (j := 1) (dj := 62) (b := true) rfl rfl rfl (ev_hit hN rfl) rfl rfl ?_
    refine g_false (j := 1) (dj := 62) (b := true) rfl rfl rfl (ev_hit hN rfl) rfl rfl ?_
    refine g_false (j := 1) (dj := 62) (b := true) rfl rfl rfl (ev_hit hN rfl) rfl rfl ?_
    refine g_false (j := 1) (dj := 62) (b := true) rfl rfl rfl (ev_hit hN rfl) rfl rfl ?_
    refine g_false (j := 1) (dj := 62) (b := true) rfl rfl rfl (ev_hit hN rfl) rfl rfl ?_
    refine op_pick_f (ev_hit hN rfl) rfl ?_
    refine reg_nil ?_
    refine hK232 _ _ ?_
    refine wp_cond_false (ev_hit hN rfl) ?_
    refine wp_skip ?_
    refine hK231 _ _ ?_
    refine seq_any fun K233 hK233 => ?_
    refine seq_any fun K234 hK234 => ?_
    refine one_reg ?_
    refine op_move (ev_base hN rfl s3) ?_
    refine reg_nil ?_
    refine hK234 _ _ ?_
    refine wp_cond_false (ev_hit hN rfl) ?_
    refine wp_skip ?_
    refine hK233 _ _ ?_
    refine seq_any fun K235 hK235 => ?_
    refine one_reg ?_
    refine op_move (ev_hit hN rfl) ?_
    refine op_fn (vs := [(ptr k197 0), (Value.int .i64 1)]) ok60 ⟨(ev_hit hN rfl), ⟨rfl, trivial⟩⟩ (CommitR' (n := 1) (L := ([] : List Int)) (M2 := ([(2, ⟨bL, 2, [([116], bL)], [], false⟩)] : TM)) (E2 := 0) (by omega) (by unfold MOk TOk; simp [st2, wf_i64, hjl, ha8, hb8]) hl224 (com1_l.trans (by rw [hdm]; rfl)) (com1_m.trans (by rw [hdm])) rfl) ?_
    rintro _ w237 ⟨E238, v236, rfl, hO236, F236, hl236, hN236, hd236⟩
    have bd239 := hO192.lt
    have bd240 := hB222.lt
    have hl224_old := hl224
    have z_w237 := E238.size
    have hA := hA.keepG E238 (fun k hk => .inr (by have := hl224_old.lt k hk; omega))
    have hB := hB.keepG E238 (fun k hk => .inr (by have := hl224_old.lt k hk; omega))
    have hO192 := hO192.keepG E238 dj229
    have hB222 := hB222.keepG E238 dj230
    have hb := below_stepG hb E238 hb.size (fun k hk => (hl224_old.lt k hk).1)
    have dj241 : Dj (Bl v192) F236 := Dj.stepF hN236 (fun k hk => (bd239 k hk).2) dj229
    have dj242 : ¬ F236 b220 := ne_stepF hN236 bd240 dj230
    have hO236 := hO236.mono (base' := w.heap.size) (by omega)
    have hl236 : LocksR w237 w.heap.size k197 ([(2, ⟨bL, 2, [([116], bL)], [], false⟩)] : TM) F236 := hl236
    refine op_move (ev_hit hN rfl) ?_
    refine op_extract (ev_hit hN rfl) rfl ?_
    refine op_extract (ev_hit hN rfl) rfl ?_
    refine op_assign (ev_hit hN rfl) ?_
    refine op_assign (ev_hit hN rfl) ?_
    refine reg_nil ?_
    refine hK235 _ _ ?_
    refine seq_any fun K243 hK243 => ?_
    refine one_reg ?_
    refine op_move (ev_base hN rfl s1) ?_
    refine op_assign (ev_hit hN rfl) ?_
    refine reg_nil ?_
    refine hK243 _ _ ?_
    refine seq_any fun K244 hK244 => ?_
    refine seq_any fun K245 hK245 => ?_
    refine one_reg ?_
    refine op_move (ev_base hN rfl s4) ?_
    refine reg_nil ?_
    refine hK245 _ _ ?_
    refine wp_cond_false (ev_hit hN rfl) ?_
    refine wp_skip ?_
    refine hK244 _ _ ?_
    refine seq_any fun K246 hK246 => ?_
    refine one_reg ?_
    refine op_move (ev_base hN rfl s2) ?_
    refine op_move (ev_hit hN rfl) ?_
    refine g_true (j := 1) (dj := 114) (b := true) rfl rfl rfl (ev_hit hN rfl) ?_
    refine op_move (ev_base hN rfl s3) ?_
    refine op_pick_t (ev_hit hN rfl) (ev_hit hN rfl) ?_
    refine op_move (ev_hit hN rfl) ?_
    refine g_false (j := 4) (dj := 117) (b := true) rfl rfl rfl (ev_hit hN rfl) rfl rfl ?_
    refine g_false (j := 4) (dj := 117) (b := true) rfl rfl rfl (ev_hit hN rfl) rfl rfl ?_
    refine g_false (j := 4) (dj := 117) (b := true) rfl rfl rfl (ev_hit hN rfl) rfl rfl ?_
    refine op_pick_f (ev_hit hN rfl) rfl ?_
    refine op_assign (ev_hit hN rfl) ?_
    refine reg_nil ?_
    refine hK246 _ _ ?_
    refine seq_any fun K247 hK247 => ?_
    refine one_reg ?_
    refine op_move (ev_hit hN rfl) ?_
    refine op_bin (v := .bool true) (ev_hit hN rfl) rfl (by rw [binOp_eql]; rfl) ?_
    refine op_move (ev_hit hN rfl) ?_
    refine g_true (j := 2) (dj := 124) (b := true) rfl rfl rfl (ev_hit hN rfl) ?_
    refine op_move (ev_hit hN rfl) ?_
    refine g_true (j := 2) (dj := 124) (b := true) rfl rfl rfl (ev_hit hN rfl) ?_
    refine op_bin (v := .bool true) (ev_hit hN rfl) rfl (by rw [binOp_eql]; rfl) ?_
    refine op_pick_t (ev_hit hN rfl) (ev_hit hN rfl) ?_
    refine op_move (ev_hit hN rfl) ?_
    refine g_true (j := 6) (dj := 128) (b := true) rfl rfl rfl (ev_hit hN rfl) ?_
    refine op_move (ev_hit hN rfl) ?_
    refine g_true (j := 6) (dj := 128) (b := true) rfl rfl rfl (ev_hit hN rfl) ?_
    refine op_fn (vs := [(ptr k197 0), (Value.int .i64 2)]) ok62 ⟨(ev_hit hN rfl), ⟨rfl, trivial⟩⟩ (DoomedR' (n := 2) hl236 rfl) ?_
    rintro _ w248 ⟨E249, rfl⟩
    have E249 := grown_of_below E249
    have z_w248 := E249.size
    have hA := hA.keep0 E249
    have hB := hB.keep0 E249
    have hO192 := hO192.keep0 E249
    have hB222 := hB222.keep0 E249
    have hl236 := hl236.keepG (Gr.of0 E249 NoB) (fun _ _ h => h)
    have hO236 := hO236.keep0 E249
    have hb := below_step0 hb E249 hb.size
    refine g_true (j := 6) (dj := 128) (b := true) rfl rfl rfl (ev_hit hN rfl) ?_
    refine op_move (ev_hit hN rfl) ?_
    refine g_true (j := 6) (dj := 128) (b := true) rfl rfl rfl (ev_hit hN rfl) ?_
    refine op_eqb Try.underlying4 (ev_hit hN rfl) (ev_hit hN rfl) ?_
    refine op_pick_t (ev_hit hN rfl) (ev_hit hN rfl) ?_
    refine op_move (ev_hit hN rfl) ?_
    refine g_true (j := 12) (dj := 134) (b := true) rfl rfl rfl (ev_hit hN rfl) ?_
    refine op_move (ev_hit hN rfl) ?_
    refine g_true (j := 12) (dj := 134) (b := true) rfl rfl rfl (ev_hit hN rfl) ?_
    refine op_len_rd Try.underlying35 (ev_hit hN rfl) hO236.rdw ?_
    refine g_true (j := 12) (dj := 134) (b := true) rfl rfl rfl (ev_hit hN rfl) ?_
    refine op_eql (ev_hit hN rfl) rfl (fun c137 => ?_) (fun c137 => ?_)
    · -- 137T
     exact absurd c137 (by simp)
    · -- 137F
     refine g_true (j := 12) (dj := 134) (b := true) rfl rfl rfl (ev_hit hN rfl) ?_
     refine op_move (ev_hit hN rfl) ?_
     refine g_true (j := 12) (dj := 134) (b := true) rfl rfl rfl (ev_hit hN rfl) ?_
     refine op_eqb Try.underlying4 (ev_hit hN rfl) (ev_hit hN rfl) ?_
     refine op_pick_t (ev_hit hN rfl) (ev_hit hN rfl) ?_
     refine op_assign (ev_hit hN rfl) ?_
     refine reg_nil ?_
     refine hK247 _ _ ?_
     refine wp_ret ?_
     refine ret1 rfl hd (ev_hit hN rfl) ⟨_, rfl, ?_⟩
     -- path 25T 29T 37F 137F
     exact ⟨hb, rfl⟩
  · -- 29F
   rw [c29]
   refine g_true (j := 3) (dj := 27) (b := false) rfl rfl rfl (ev_hit hN rfl) ?_
   refine op_not (ev_hit hN rfl) ?_
   refine op_pick_f (ev_hit hN rfl) (ev_hit hN rfl) ?_
   refine op_move (ev_hit hN rfl) ?_
   skip
   refine g_false (j := 8) (dj := 32) (b := false) rfl rfl rfl (ev_hit hN rfl) rfl rfl ?_
   refine g_false (j := 8) (dj := 32) (b := false) rfl rfl rfl (ev_hit hN rfl) rfl rfl ?_
   refine g_false (j := 8) (dj := 32) (b := false) rfl rfl rfl (ev_hit hN rfl) rfl rfl ?_
   refine g_false (j := 8) (dj := 32) (b := false) rfl rfl rfl (ev_hit hN rfl) rfl rfl ?_
   refine g_false (j := 8) (dj := 32) (b := false) rfl rfl rfl (ev_hit hN rfl) rfl rfl ?_
   refine op_pick_t (ev_hit hN rfl) rfl ?_
   refine reg_nil ?_
   refine hK187 _ _ ?_
   refine wp_cond_true (ev_hit hN rfl) ?_
   refine seq_any fun K250 hK250 => ?_
   refine one_reg ?_
   refine op_assign rfl ?_
   refine reg_nil ?_
   refine hK250 _ _ ?_
   refine wp_ret (then_ret ( ?_))
   refine ret1 rfl hd (ev_hit hN rfl) ⟨_, rfl, ?_⟩
   -- path 25T 29F
   exact ⟨hb, rfl⟩
 · -- 25F
  rw [c25]
  refine op_not (ev_hit hN rfl) ?_
  refine op_move (ev_hit hN rfl) ?_
  refine g_false (j := 3) (dj := 27) (b := false) rfl rfl rfl (ev_hit hN rfl) rfl rfl ?_
  refine g_false (j := 3) (dj := 27) (b := false) rfl rfl rfl (ev_hit hN rfl) rfl rfl ?_
  refine g_false (j := 3) (dj := 27) (b := false) rfl rfl rfl (ev_hit hN rfl) rfl rfl ?_
  refine op_pick_t (ev_hit hN rfl) rfl ?_
  refine op_move (ev_hit hN rfl) ?_
  skip
  refine g_false (j := 8) (dj := 32) (b := false) rfl rfl rfl (ev_hit hN rfl) rfl rfl ?_
  refine g_false (j := 8) (dj := 32) (b := false) rfl rfl rfl (ev_hit hN rfl) rfl rfl ?_
  refine g_false (j := 8) (dj := 32) (b := false) rfl rfl rfl (ev_hit hN rfl) rfl rfl ?_
  refine g_false (j := 8) (dj := 32) (b := false) rfl rfl rfl (ev_hit hN rfl) rfl rfl ?_
  refine g_false (j := 8) (dj := 32) (b := false) rfl rfl rfl (ev_hit hN rfl) rfl rfl ?_
  refine op_pick_t (ev_hit hN rfl) rfl ?_
  refine reg_nil ?_
  refine hK187 _ _ ?_
  refine wp_cond_true (ev_hit hN rfl) ?_
  refine seq_any fun K251 hK251 => ?_
  refine one_reg ?_
  refine op_assign rfl ?_
  refine reg_nil ?_
  refine hK251 _ _ ?_
  refine wp_ret (then_ret ( ?_))
  refine ret1 rfl hd (ev_hit hN rfl) ⟨_, rfl, ?_⟩
  -- path 25F
  exact ⟨hb, rfl⟩

theorem LockDooms_ftt_eq (aL bL : List UInt16) (vA vB : Value) (w : World) (hal : aL.length ≤ 9223372036854775807) (hbl : bL.length ≤ 9223372036854775807) (hA : RdC w 0 w.heap.size 1 vA aL.length (aL.map u16v)) (hB : RdC w 0 w.heap.size 1 vB bL.length (bL.map u16v)) (hs : bL = aL) : Ret Try.prog 13 #[vA, vB, (Value.bool true), (Value.bool true), (Value.bool false)] w (fun v' w' => Below w.heap.size w w' ∧ v' = .bool true) := by
 have hb := Below.refl w.heap.size w
 refine enter (N := 141) Try.func13 rfl rfl (by simp) fun a0 hN hd hA => ?_
 have s0 : a0.tmps.getD 0 undef = vA := hA 0 (by simp)
 have s1 : a0.tmps.getD 1 undef = vB := hA 1 (by simp)
 have s2 : a0.tmps.getD 2 undef = (Value.bool true) := hA 2 (by simp)
 have s3 : a0.tmps.getD 3 undef = (Value.bool true) := hA 3 (by simp)
 have s4 : a0.tmps.getD 4 undef = (Value.bool false) := hA 4 (by simp)
 clear hA
 refine seq_any fun K252 hK252 => ?_
 refine one_reg ?_
 refine op_assign rfl ?_
 refine reg_nil ?_
 refine hK252 _ _ ?_
 refine seq_any fun K253 hK253 => ?_
 refine seq_any fun K254 hK254 => ?_
 refine one_reg ?_
 refine op_fn (vs := []) ok52 trivial (begun19_ret _) ?_
 rintro _ w255 ⟨E256, rfl⟩
 have E256 := grown_of_below E256
 have z_w255 := E256.size
 have hA := hA.keep0 E256
 have hB := hB.keep0 E256
 have hb := below_step0 hb E256 hb.size
 refine op_not (ev_hit hN rfl) ?_
 refine reg_nil ?_
 refine hK254 _ _ ?_
 refine wp_cond_false (ev_hit hN rfl) ?_
 refine wp_skip ?_
 refine hK253 _ _ ?_
 refine seq_any fun K257 hK257 => ?_
 refine seq_any fun K258 hK258 => ?_
 refine one_reg ?_
 refine op_move (ev_base hN rfl s0) ?_
 refine op_fn (vs := [vA]) ok33 ⟨(ev_hit hN rfl), trivial⟩ (refMay_ret aL _ _ (by first | assumption | omega | (simp only [List.length_append, List.length_cons, List.length_nil, List.length_drop, List.length_take]; omega) | (dsimp only; omega) | decide | (simp [keyV, be8_len]; done)) (show RdC w255 0 w255.heap.size 1 vA aL.length (aL.map u16v) from by have hh : RdC w255 0 w255.heap.size 1 _ _ _ := (hA.mono (L' := 0) (B' := w255.heap.size) (Nat.zero_le _) (by omega)); first | exact hh | exact hh.cast (by first | omega | (simp; try omega)) (by first | rfl | simp [u16v]))) ?_
 rintro _ w259 ⟨E260, rfl⟩
 have E260 := grown_of_below E260
 have z_w259 := E260.size
 have hA := hA.keep0 E260
 have hB := hB.keep0 E260
 have hb := below_step0 hb E260 hb.size
 rcases Bool.eq_false_or_eq_true ((mayL aL)) with c25 | c25
 · -- 25T
  rw [c25]
  refine op_not (ev_hit hN rfl) ?_
  refine op_move (ev_hit hN rfl) ?_
  refine g_true (j := 3) (dj := 27) (b := false) rfl rfl rfl (ev_hit hN rfl) ?_
  refine op_move (ev_base hN rfl s1) ?_
  refine g_true (j := 3) (dj := 27) (b := false) rfl rfl rfl (ev_hit hN rfl) ?_
  refine op_fn (vs := [vB]) ok33 ⟨(ev_hit hN rfl), trivial⟩ (refMay_ret bL _ _ (by first | assumption | omega | (simp only [List.length_append, List.length_cons, List.length_nil, List.length_drop, List.length_take]; omega) | (dsimp only; omega) | decide | (simp [keyV, be8_len]; done)) (show RdC w259 0 w259.heap.size 1 vB bL.length (bL.map u16v) from by have hh : RdC w259 0 w259.heap.size 1 _ _ _ := (hB.mono (L' := 0) (B' := w259.heap.size) (Nat.zero_le _) (by omega)); first | exact hh | exact hh.cast (by first | omega | (simp; try omega)) (by first | rfl | simp [u16v]))) ?_
  rintro _ w261 ⟨E262, rfl⟩
  have E262 := grown_of_below E262
  have z_w261 := E262.size
  have hA := hA.keep0 E262
  have hB := hB.keep0 E262
  have hb := below_step0 hb E262 hb.size
  rcases Bool.eq_false_or_eq_true ((mayL bL)) with c29 | c29
  · -- 29T
   rw [c29]
   refine g_true (j := 3) (dj := 27) (b := false) rfl rfl rfl (ev_hit hN rfl) ?_
   refine op_not (ev_hit hN rfl) ?_
   refine op_pick_f (ev_hit hN rfl) (ev_hit hN rfl) ?_
   refine op_move (ev_hit hN rfl) ?_
   have ha8 := mayL_len c25
   have hb8 := mayL_len c29
   refine g_true (j := 8) (dj := 32) (b := false) rfl rfl rfl (ev_hit hN rfl) ?_
   refine op_move (ev_base hN rfl s0) ?_
   refine g_true (j := 8) (dj := 32) (b := false) rfl rfl rfl (ev_hit hN rfl) ?_
   refine op_move (ev_base hN rfl s1) ?_
   refine g_true (j := 8) (dj := 32) (b := false) rfl rfl rfl (ev_hit hN rfl) ?_
   refine op_fn (vs := [vA, vB]) ok51 ⟨(ev_hit hN rfl), ⟨(ev_hit hN rfl), trivial⟩⟩ (rjoinW_ret aL bL _ _ _ (by first | assumption | omega | (simp only [List.length_append, List.length_cons, List.length_nil, List.length_drop, List.length_take]; omega) | (dsimp only; omega) | decide | (simp [keyV, be8_len]; done)) (by first | assumption | omega | (simp only [List.length_append, List.length_cons, List.length_nil, List.length_drop, List.length_take]; omega) | (dsimp only; omega) | decide | (simp [keyV, be8_len]; done)) (show RdC w261 0 w261.heap.size 1 vA aL.length (aL.map u16v) from by have hh : RdC w261 0 w261.heap.size 1 _ _ _ := (hA.mono (L' := 0) (B' := w261.heap.size) (Nat.zero_le _) (by omega)); first | exact hh | exact hh.cast (by first | omega | (simp; try omega)) (by first | rfl | simp [u16v])) (show RdC w261 0 w261.heap.size 1 vB bL.length (bL.map u16v) from by have hh : RdC w261 0 w261.heap.size 1 _ _ _ := (hB.mono (L' := 0) (B' := w261.heap.size) (Nat.zero_le _) (by omega)); first | exact hh | exact hh.cast (by first | omega | (simp; try omega)) (by first | rfl | simp [u16v]))) ?_
   rintro v263 w264 ⟨E265, hO263⟩
   have E265 := grown_of_below E265
   have z_w264 := E265.size
   have hA := hA.keep0 E265
   have hB := hB.keep0 E265
   have hb := below_step0 hb E265 hb.size
   have hO263 := hO263.mono (base' := w.heap.size) (by omega)
   refine g_true (j := 8) (dj := 32) (b := false) rfl rfl rfl (ev_hit hN rfl) ?_
   refine op_len_rd Try.underlying54 (ev_hit hN rfl) hO263.rdw ?_
   refine g_true (j := 8) (dj := 32) (b := false) rfl rfl rfl (ev_hit hN rfl) ?_
   refine op_gtr (ev_hit hN rfl) rfl (fun c37 => ?_) (fun c37 => ?_)
   · -- 37T
    refine op_pick_f (ev_hit hN rfl) (ev_hit hN rfl) ?_
    refine reg_nil ?_
    refine hK258 _ _ ?_
    refine wp_cond_true (ev_hit hN rfl) ?_
    refine seq_any fun K266 hK266 => ?_
    refine one_reg ?_
    refine op_assign rfl ?_
    refine reg_nil ?_
    refine hK266 _ _ ?_
    refine wp_ret (then_ret ( ?_))
    refine ret1 rfl hd (ev_hit hN rfl) ⟨_, rfl, ?_⟩
    -- path 25T 29T 37T
    exact ⟨hb, rfl⟩
   · -- 37F
    refine op_pick_f (ev_hit hN rfl) (ev_hit hN rfl) ?_
    refine reg_nil ?_
    refine hK258 _ _ ?_
    refine wp_cond_false (ev_hit hN rfl) ?_
    refine wp_skip ?_
    refine hK257 _ _ ?_
    refine seq_any fun K267 hK267 => ?_
    refine one_reg ?_
    have hjl : (joinL aL bL).length ≤ 8 := by omega
    have hs2 := hs
    have hfl : flowsL aL bL = true := by rw [hs]; exact flows_refl
    have hfj : flowsL aL (joinL aL bL) = true := flows_joinl
    have hrf : flowsL aL aL = true := flows_refl
    have hdm : dmB aL bL bL [116] [[116]] = false := by simp [dmB, hs2]
    refine op_fn (vs := []) ok53 trivial (lockNewR) ?_
    rintro _ w269 ⟨E270, k268, F268, rfl, hl268⟩
    have lo_F268 : ∀ x, F268 x → w264.heap.size ≤ x := fun x hx => (hl268.lt x hx).1
    have dj271 : Dj (Bl v263) F268 := Dj.fresh (fun k hk => (hO263.lt k hk).2) lo_F268
    have E270 := grown_of_below E270
    have z_w269 := E270.size
    have hA := hA.keep0 E270
    have hB := hB.keep0 E270
    have hO263 := hO263.keep0 E270
    have hb := below_step0 hb E270 hb.size
    have hl268 : LocksR w269 w.heap.size k268 ([] : TM) F268 := hl268.mono (by omega)
    refine op_assign (ev_hit hN rfl) ?_
    refine reg_nil ?_
    refine hK267 _ _ ?_
    refine seq_any fun K272 hK272 => ?_
    refine one_reg ?_
    refine op_move (ev_hit hN rfl) ?_
    refine op_move (ev_base hN rfl s0) ?_
    refine op_fn (vs := [(ptr k268 0), (Value.int .i64 1), vA, (Value.int .u64 1)]) ok54 ⟨(ev_hit hN rfl), ⟨rfl, ⟨(ev_hit hN rfl), ⟨rfl, trivial⟩⟩⟩⟩ (lk_conv (EnterR (n := 1) (s := 1) (l := aL) (by omega) (lo := w.heap.size) hA (Nat.le_refl _) (by first | decide | omega) hl268) (A' := (Value.int .i64 0)) (M2 := ([(1, (⟨aL, 1, [], [], false⟩ : TX))] : TM)) (by rfl) (by rfl)) ?_
    rintro _ w274 ⟨E275, rfl, F273, hl273, hN273⟩
    have bd276 := hO263.lt
    have hl268_old := hl268
    have z_w274 := E275.size
    have hA := hA.keepG E275 (fun k hk => .inr (by have := hl268_old.lt k hk; omega))
    have hB := hB.keepG E275 (fun k hk => .inr (by have := hl268_old.lt k hk; omega))
    have hO263 := hO263.keepG E275 dj271
    have hb := below_stepG hb E275 hb.size (fun k hk => (hl268_old.lt k hk).1)
    have dj277 : Dj (Bl v263) F273 := Dj.stepF hN273 (fun k hk => (bd276 k hk).2) dj271
    refine reg_nil ?_
    refine hK272 _ _ ?_
    refine seq_any fun K278 hK278 => ?_
    refine one_reg ?_
    refine op_move (ev_hit hN rfl) ?_
    refine op_move (ev_base hN rfl s1) ?_
    refine op_fn (vs := [(ptr k268 0), (Value.int .i64 2), vB, (Value.int .u64 2)]) ok54 ⟨(ev_hit hN rfl), ⟨rfl, ⟨(ev_hit hN rfl), ⟨rfl, trivial⟩⟩⟩⟩ (lk_conv (EnterR (n := 2) (s := 2) (l := bL) (by omega) (lo := w.heap.size) hB (Nat.le_refl _) (by first | decide | omega) hl273) (A' := (Value.int .i64 0)) (M2 := (st2 aL bL 2 [] [])) (by rfl) (by rfl)) ?_
    rintro _ w280 ⟨E281, rfl, F279, hl279, hN279⟩
    have bd282 := hO263.lt
    have hl273_old := hl273
    have z_w280 := E281.size
    have hA := hA.keepG E281 (fun k hk => .inr (by have := hl273_old.lt k hk; omega))
    have hB := hB.keepG E281 (fun k hk => .inr (by have := hl273_old.lt k hk; omega))
    have hO263 := hO263.keepG E281 dj277
    have hb := below_stepG hb E281 hb.size (fun k hk => (hl273_old.lt k hk).1)
    have dj283 : Dj (Bl v263) F279 := Dj.stepF hN279 (fun k hk => (bd282 k hk).2) dj277
    refine reg_nil ?_
    refine hK278 _ _ ?_
    refine seq_any fun K284 hK284 => ?_
    refine seq_any fun K285 hK285 => ?_
    refine one_reg ?_
    refine op_move (ev_base hN rfl s4) ?_
    refine reg_nil ?_
    refine hK285 _ _ ?_
    refine wp_cond_false (ev_hit hN rfl) ?_
    refine wp_skip ?_
    refine hK284 _ _ ?_
    refine seq_any fun K286 hK286 => ?_
    refine one_reg ?_
    refine op_assign rfl ?_
    refine reg_nil ?_
    refine hK286 _ _ ?_
    refine seq_any fun K287 hK287 => ?_
    refine seq_any fun K288 hK288 => ?_
    refine one_reg ?_
    refine op_move (ev_base hN rfl s2) ?_
    refine op_not (ev_hit hN rfl) ?_
    refine reg_nil ?_
    refine hK288 _ _ ?_
    refine wp_cond_false (ev_hit hN rfl) ?_
    refine wp_skip ?_
    refine hK287 _ _ ?_
    refine seq_any fun K289 hK289 => ?_
    refine one_reg ?_
    refine op_move (ev_hit hN rfl) ?_
    refine op_move (ev_hit hN rfl) ?_
    refine op_bslice (e := 9) (pv := [(0, (Value.string (bs [116])))]) (cs := [(Value.string (bs [116]))]) ⟨rfl, (ev_hit hN rfl), trivial⟩ (by kernel_rfl) ?_
    intro w290 b291 lo_b291 hi_b291 hB293 E292
    have dj294 : ¬ F279 b291 := fun hf => by have := (hl279.lt _ hf).2; omega
    have z_w290 := E292.size
    have hA := hA.keep0 E292
    have hB := hB.keep0 E292
    have hO263 := hO263.keep0 E292
    have hl279 := hl279.keepG (Gr.of0 E292 NoB) (fun _ _ h => h)
    have hb := below_step0 hb E292 hb.size
    refine op_fn (vs := [(ptr k268 0), (Value.int .i64 2), (Value.slice (some ⟨b291, 0, none⟩) 1 1), (Value.string (bs []))]) ok55 ⟨(ev_hit hN rfl), ⟨rfl, ⟨(ev_hit hN rfl), ⟨rfl, trivial⟩⟩⟩⟩ (lk_conv (AskR (n := 2) (Rs := [[116]]) (x := []) (by omega) (by unfold MOk TOk; simp [st2, wf_i64, hjl, ha8, hb8]) (by unfold MSm; simp [st2]) (by decide) (Lr := b291) (Br := b291 + 1) (RdC.ofBx (sz := 1) (n := 1) hB293 rfl (by decide)) (by have := hB293.lt; omega) (fun y hy => Nat.lt_or_gt_of_ne (fun e => dj294 (e ▸ hy))) hl279) (A' := (Value.tuple #[(Value.int .i64 1), (Value.int .i64 0)])) (M2 := (st2 aL bL 2 [([116], bL)] [])) (by rw [ask2_v]; rfl) ask2_m) ?_
    rintro _ w296 ⟨E297, rfl, F295, hl295, hN295⟩
    have bd298 := hO263.lt
    have bd299 := hB293.lt
    have hl279_old := hl279
    have z_w296 := E297.size
    have hA := hA.keepG E297 (fun k hk => .inr (by have := hl279_old.lt k hk; omega))
    have hB := hB.keepG E297 (fun k hk => .inr (by have := hl279_old.lt k hk; omega))
    have hO263 := hO263.keepG E297 dj283
    have hB293 := hB293.keepG E297 dj294
    have hb := below_stepG hb E297 hb.size (fun k hk => (hl279_old.lt k hk).1)
    have dj300 : Dj (Bl v263) F295 := Dj.stepF hN295 (fun k hk => (bd298 k hk).2) dj283
    have dj301 : ¬ F295 b291 := ne_stepF hN295 bd299 dj294
    refine op_move (ev_hit hN rfl) ?_
    refine op_extract (ev_hit hN rfl) rfl ?_
    refine op_extract (ev_hit hN rfl) rfl ?_
    refine op_assign (ev_hit hN rfl) ?_
    refine op_assign (ev_hit hN rfl) ?_
    refine reg_nil ?_
    refine hK289 _ _ ?_
    refine seq_any fun K302 hK302 => ?_
    refine seq_any fun K303 hK303 => ?_
    refine one_reg ?_
    refine op_move (ev_base hN rfl s4) ?_
    refine op_move (ev_hit hN rfl) ?_
    refine g_false (j := 1) (dj := 62) (b := true) rfl rfl rfl (ev_hit hN rfl) rfl rfl ?_
    refine g_false (j := 1) (dj := 62) (b := true) rfl rfl rfl (ev_hit hN rfl) rfl rfl ?_
    refine g_false (j := 1) (dj := 62) (b := true) rfl rfl rfl (ev_hit hN rfl) rfl rfl ?_
    refine g_false (j := 1) (dj := 62) (b := true) rfl rfl rfl (ev_hit hN rfl) rfl rfl ?_
    refine g_false (j := 1) (dj := 62) (b := true) rfl rfl rfl (ev_hit hN rfl) rfl rfl ?_
    refine g_false (j := 1) (dj := 62) (b := true) rfl rfl rfl (ev_hit hN rfl) rfl rfl ?_
    refine op_pick_f (ev_hit hN rfl) rfl ?_
    refine reg_nil ?_
    refine hK303 _ _ ?_
    refine wp_cond_false (ev_hit hN rfl) ?_
    refine wp_skip ?_
    refine hK302 _ _ ?_
    refine seq_any fun K304 hK304 => ?_
    refine seq_any fun K305 hK305 => ?_
    refine one_reg ?_
    refine op_move (ev_base hN rfl s3) ?_
    refine reg_nil ?_
    refine hK305 _ _ ?_
    refine wp_cond_true (ev_hit hN rfl) ?_
    refine seq_any fun K306 hK306 => ?_
    refine one_reg ?_
    refine op_move (ev_hit hN rfl) ?_
    refine op_fn (vs := [(ptr k268 0), (Value.int .i64 1), (Value.slice none 0 0), (Value.string (bs [116]))]) ok55 ⟨(ev_hit hN rfl), ⟨rfl, ⟨rfl, ⟨rfl, trivial⟩⟩⟩⟩ (lk_conv (AskR (n := 1) (Rs := ([] : List (List UInt8))) (x := ([116])) (by omega) (by unfold MOk TOk; simp [st2, wf_i64, hjl, ha8, hb8]) (by unfold MSm; simp [st2]) (by decide) (RdC.nil _ 0 0 _) (Nat.zero_le _) (fun _ _ => .inr (Nat.zero_le _)) hl295) (A' := (Value.tuple #[(Value.int .i64 2), (Value.int .i64 0)])) (M2 := (st2 aL bL 2 [([116], bL)] [])) (by rw [(ask1_wait hs2 rfl hfl (by decide)).1]; rfl) (ask1_wait hs2 rfl hfl (by decide)).2) ?_
    rintro _ w308 ⟨E309, rfl, F307, hl307, hN307⟩
    have bd310 := hO263.lt
    have bd311 := hB293.lt
    have hl295_old := hl295
    have z_w308 := E309.size
    have hA := hA.keepG E309 (fun k hk => .inr (by have := hl295_old.lt k hk; omega))
    have hB := hB.keepG E309 (fun k hk => .inr (by have := hl295_old.lt k hk; omega))
    have hO263 := hO263.keepG E309 dj300
    have hB293 := hB293.keepG E309 dj301
    have hb := below_stepG hb E309 hb.size (fun k hk => (hl295_old.lt k hk).1)
    have dj312 : Dj (Bl v263) F307 := Dj.stepF hN307 (fun k hk => (bd310 k hk).2) dj300
    have dj313 : ¬ F307 b291 := ne_stepF hN307 bd311 dj301
    refine op_move (ev_hit hN rfl) ?_
    refine op_extract (ev_hit hN rfl) rfl ?_
    refine op_extract (ev_hit hN rfl) rfl ?_
    refine op_assign (ev_hit hN rfl) ?_
    refine op_assign (ev_hit hN rfl) ?_
    refine reg_nil ?_
    refine hK306 _ _ ?_
    refine seq_any fun K314 hK314 => ?_
    refine one_reg ?_
    refine op_move (ev_base hN rfl s4) ?_
    refine op_not (ev_hit hN rfl) ?_
    refine op_move (ev_hit hN rfl) ?_
    refine g_true (j := 2) (dj := 78) (b := true) rfl rfl rfl (ev_hit hN rfl) ?_
    refine op_move (ev_base hN rfl s0) ?_
    refine g_true (j := 2) (dj := 78) (b := true) rfl rfl rfl (ev_hit hN rfl) ?_
    refine op_move (ev_base hN rfl s1) ?_
    refine g_true (j := 2) (dj := 78) (b := true) rfl rfl rfl (ev_hit hN rfl) ?_
    refine op_fn (vs := [vA, vB]) ok34 ⟨(ev_hit hN rfl), ⟨(ev_hit hN rfl), trivial⟩⟩ (sameL_ret aL bL _ _ _ (by first | assumption | omega | (simp only [List.length_append, List.length_cons, List.length_nil, List.length_drop, List.length_take]; omega) | (dsimp only; omega) | decide | (simp [keyV, be8_len]; done)) (by first | assumption | omega | (simp only [List.length_append, List.length_cons, List.length_nil, List.length_drop, List.length_take]; omega) | (dsimp only; omega) | decide | (simp [keyV, be8_len]; done)) (show RdC w308 0 w308.heap.size 1 vA aL.length (aL.map u16v) from by have hh : RdC w308 0 w308.heap.size 1 _ _ _ := (hA.mono (L' := 0) (B' := w308.heap.size) (Nat.zero_le _) (by omega)); first | exact hh | exact hh.cast (by first | omega | (simp; try omega)) (by first | rfl | simp [u16v])) (show RdC w308 0 w308.heap.size 1 vB bL.length (bL.map u16v) from by have hh : RdC w308 0 w308.heap.size 1 _ _ _ := (hB.mono (L' := 0) (B' := w308.heap.size) (Nat.zero_le _) (by omega)); first | exact hh | exact hh.cast (by first | omega | (simp; try omega)) (by first | rfl | simp [u16v]))) ?_
    rintro _ w315 ⟨E316, rfl⟩
    have E316 := grown_of_below E316
    have z_w315 := E316.size
    have hA := hA.keep0 E316
    have hB := hB.keep0 E316
    have hO263 := hO263.keep0 E316
    have hB293 := hB293.keep0 E316
    have hl307 := hl307.keepG (Gr.of0 E316 NoB) (fun _ _ h => h)
    have hb := below_step0 hb E316 hb.size
    rcases Bool.eq_false_or_eq_true ((decide (aL = bL))) with c81 | c81
    · -- 81T
     rw [c81]
     refine op_pick_t (ev_hit hN rfl) (ev_hit hN rfl) ?_
     refine op_move (ev_hit hN rfl) ?_
     refine g_false (j := 7) (dj := 83) (b := false) rfl rfl rfl (ev_hit hN rfl) rfl rfl ?_
     refine g_false (j := 7) (dj := 83) (b := false) rfl rfl rfl (ev_hit hN rfl) rfl rfl ?_
     refine g_undef (j := 9) (dj := 85) (b := true) rfl rfl rfl (ev_hit hN rfl) rfl ?_
     refine g_undef (j := 9) (dj := 85) (b := true) rfl rfl rfl (ev_hit hN rfl) rfl ?_
     refine g_undef (j := 9) (dj := 85) (b := true) rfl rfl rfl (ev_hit hN rfl) rfl ?_
     refine g_false (j := 7) (dj := 83) (b := false) rfl rfl rfl (ev_hit hN rfl) rfl rfl ?_
     refine op_pick_t (ev_hit hN rfl) rfl ?_
     refine op_assign (ev_hit hN rfl) ?_
     refine reg_nil ?_
     refine hK314 _ _ ?_
     refine seq_any fun K317 hK317 => ?_
     refine seq_any fun K318 hK318 => ?_
     refine one_reg ?_
     refine op_move (ev_hit hN rfl) ?_
     refine op_move (ev_hit hN rfl) ?_
     refine g_true (j := 1) (dj := 92) (b := true) rfl rfl rfl (ev_hit hN rfl) ?_
     refine op_move (ev_base hN rfl s2) ?_
     refine op_pick_t (ev_hit hN rfl) (ev_hit hN rfl) ?_
     refine reg_nil ?_
     refine hK318 _ _ ?_
     refine wp_cond_true (ev_hit hN rfl) ?_
     refine seq_any fun K319 hK319 => ?_
     refine one_reg ?_
     refine op_move (ev_hit hN rfl) ?_
     refine op_bin (v := .bool true) (ev_hit hN rfl) rfl (by rw [binOp_eql]; rfl) ?_
     refine op_move (ev_hit hN rfl) ?_
     refine g_true (j := 2) (dj := 97) (b := true) rfl rfl rfl (ev_hit hN rfl) ?_
     refine op_move (ev_hit hN rfl) ?_
     refine g_true (j := 2) (dj := 97) (b := true) rfl rfl rfl (ev_hit hN rfl) ?_
     refine op_bin (v := .bool true) (ev_hit hN rfl) rfl (by rw [binOp_eql]; rfl) ?_
     refine op_pick_t (ev_hit hN rfl) (ev_hit hN rfl) ?_
     refine op_assign (ev_hit hN rfl) ?_
     refine reg_nil ?_
     refine hK319 _ _ ?_
     refine wp_ret (then_ret (then_ret ( ?_)))
     refine ret1 rfl hd (ev_hit hN rfl) ⟨_, rfl, ?_⟩
     -- path 25T 29T 37F 81T
     exact ⟨hb, rfl⟩
    · -- 81F
     exact absurd hs.symm (of_decide_eq_false c81)
  · -- 29F
   rw [c29]
   refine g_true (j := 3) (dj := 27) (b := false) rfl rfl rfl (ev_hit hN rfl) ?_
   refine op_not (ev_hit hN rfl) ?_
   refine op_pick_f (ev_hit hN rfl) (ev_hit hN rfl) ?_
   refine op_move (ev_hit hN rfl) ?_
   skip
   refine g_false (j := 8) (dj := 32) (b := false) rfl rfl rfl (ev_hit hN rfl) rfl rfl ?_
   refine g_false (j := 8) (dj := 32) (b := false) rfl rfl rfl (ev_hit hN rfl) rfl rfl ?_
   refine g_false (j := 8) (dj := 32) (b := false) rfl rfl rfl (ev_hit hN rfl) rfl rfl ?_
   refine g_false (j := 8) (dj := 32) (b := false) rfl rfl rfl (ev_hit hN rfl) rfl rfl ?_
   refine g_false (j := 8) (dj := 32) (b := false) rfl rfl rfl (ev_hit hN rfl) rfl rfl ?_
   refine op_pick_t (ev_hit hN rfl) rfl ?_
   refine reg_nil ?_
   refine hK258 _ _ ?_
   refine wp_cond_true (ev_hit hN rfl) ?_
   refine seq_any fun K320 hK320 => ?_
   refine one_reg ?_
   refine op_assign rfl ?_
   refine reg_nil ?_
   refine hK320 _ _ ?_
   refine wp_ret (then_ret ( ?_))
   refine ret1 rfl hd (ev_hit hN rfl) ⟨_, rfl, ?_⟩
   -- path 25T 29F
   exact ⟨hb, rfl⟩
 · -- 25F
  rw [c25]
  refine op_not (ev_hit hN rfl) ?_
  refine op_move (ev_hit hN rfl) ?_
  refine g_false (j := 3) (dj := 27) (b := false) rfl rfl rfl (ev_hit hN rfl) rfl rfl ?_
  refine g_false (j := 3) (dj := 27) (b := false) rfl rfl rfl (ev_hit hN rfl) rfl rfl ?_
  refine g_false (j := 3) (dj := 27) (b := false) rfl rfl rfl (ev_hit hN rfl) rfl rfl ?_
  refine op_pick_t (ev_hit hN rfl) rfl ?_
  refine op_move (ev_hit hN rfl) ?_
  skip
  refine g_false (j := 8) (dj := 32) (b := false) rfl rfl rfl (ev_hit hN rfl) rfl rfl ?_
  refine g_false (j := 8) (dj := 32) (b := false) rfl rfl rfl (ev_hit hN rfl) rfl rfl ?_
  refine g_false (j := 8) (dj := 32) (b := false) rfl rfl rfl (ev_hit hN rfl) rfl rfl ?_
  refine g_false (j := 8) (dj := 32) (b := false) rfl rfl rfl (ev_hit hN rfl) rfl rfl ?_
  refine g_false (j := 8) (dj := 32) (b := false) rfl rfl rfl (ev_hit hN rfl) rfl rfl ?_
  refine op_pick_t (ev_hit hN rfl) rfl ?_
  refine reg_nil ?_
  refine hK258 _ _ ?_
  refine wp_cond_true (ev_hit hN rfl) ?_
  refine seq_any fun K321 hK321 => ?_
  refine one_reg ?_
  refine op_assign rfl ?_
  refine reg_nil ?_
  refine hK321 _ _ ?_
  refine wp_ret (then_ret ( ?_))
  refine ret1 rfl hd (ev_hit hN rfl) ⟨_, rfl, ?_⟩
  -- path 25F
  exact ⟨hb, rfl⟩

theorem LockDooms_ftt_up (aL bL : List UInt16) (vA vB : Value) (w : World) (hal : aL.length ≤ 9223372036854775807) (hbl : bL.length ≤ 9223372036854775807) (hA : RdC w 0 w.heap.size 1 vA aL.length (aL.map u16v)) (hB : RdC w 0 w.heap.size 1 vB bL.length (bL.map u16v)) (hs : ¬ bL = aL) (hf : flowsL aL bL = true) : Ret Try.prog 13 #[vA, vB, (Value.bool true), (Value.bool true), (Value.bool false)] w (fun v' w' => Below w.heap.size w w' ∧ v' = .bool true) := by
 have hb := Below.refl w.heap.size w
 refine enter (N := 141) Try.func13 rfl rfl (by simp) fun a0 hN hd hA => ?_
 have s0 : a0.tmps.getD 0 undef = vA := hA 0 (by simp)
 have s1 : a0.tmps.getD 1 undef = vB := hA 1 (by simp)
 have s2 : a0.tmps.getD 2 undef = (Value.bool true) := hA 2 (by simp)
 have s3 : a0.tmps.getD 3 undef = (Value.bool true) := hA 3 (by simp)
 have s4 : a0.tmps.getD 4 undef = (Value.bool false) := hA 4 (by simp)
 clear hA
 refine seq_any fun K322 hK322 => ?_
 refine one_reg ?_
 refine op_assign rfl ?_
 refine reg_nil ?_
 refine hK322 _ _ ?_
 refine seq_any fun K323 hK323 => ?_
 refine seq_any fun K324 hK324 => ?_
 refine one_reg ?_
 refine op_fn (vs := []) ok52 trivial (begun19_ret _) ?_
 rintro _ w325 ⟨E326, rfl⟩
 have E326 := grown_of_below E326
 have z_w325 := E326.size
 have hA := hA.keep0 E326
 have hB := hB.keep0 E326
 have hb := below_step0 hb E326 hb.size
 refine op_not (ev_hit hN rfl) ?_
 refine reg_nil ?_
 refine hK324 _ _ ?_
 refine wp_cond_false (ev_hit hN rfl) ?_
 refine wp_skip ?_
 refine hK323 _ _ ?_
 refine seq_any fun K327 hK327 => ?_
 refine seq_any fun K328 hK328 => ?_
 refine one_reg ?_
 refine op_move (ev_base hN rfl s0) ?_
 refine op_fn (vs := [vA]) ok33 ⟨(ev_hit hN rfl), trivial⟩ (refMay_ret aL _ _ (by first | assumption | omega | (simp only [List.length_append, List.length_cons, List.length_nil, List.length_drop, List.length_take]; omega) | (dsimp only; omega) | decide | (simp [keyV, be8_len]; done)) (show RdC w325 0 w325.heap.size 1 vA aL.length (aL.map u16v) from by have hh : RdC w325 0 w325.heap.size 1 _ _ _ := (hA.mono (L' := 0) (B' := w325.heap.size) (Nat.zero_le _) (by omega)); first | exact hh | exact hh.cast (by first | omega | (simp; try omega)) (by first | rfl | simp [u16v]))) ?_
 rintro _ w329 ⟨E330, rfl⟩
 have E330 := grown_of_below E330
 have z_w329 := E330.size
 have hA := hA.keep0 E330
 have hB := hB.keep0 E330
 have hb := below_step0 hb E330 hb.size
 rcases Bool.eq_false_or_eq_true ((mayL aL)) with c25 | c25
 · -- 25T
  rw [c25]
  refine op_not (ev_hit hN rfl) ?_
  refine op_move (ev_hit hN rfl) ?_
  refine g_true (j := 3) (dj := 27) (b := false) rfl rfl rfl (ev_hit hN rfl) ?_
  refine op_move (ev_base hN rfl s1) ?_
  refine g_true (j := 3) (dj := 27) (b := false) rfl rfl rfl (ev_hit hN rfl) ?_
  refine op_fn (vs := [vB]) ok33 ⟨(ev_hit hN rfl), trivial⟩ (refMay_ret bL _ _ (by first | assumption | omega | (simp only [List.length_append, List.length_cons, List.length_nil, List.length_drop, List.length_take]; omega) | (dsimp only; omega) | decide | (simp [keyV, be8_len]; done)) (show RdC w329 0 w329.heap.size 1 vB bL.length (bL.map u16v) from by have hh : RdC w329 0 w329.heap.size 1 _ _ _ := (hB.mono (L' := 0) (B' := w329.heap.size) (Nat.zero_le _) (by omega)); first | exact hh | exact hh.cast (by first | omega | (simp; try omega)) (by first | rfl | simp [u16v]))) ?_
  rintro _ w331 ⟨E332, rfl⟩
  have E332 := grown_of_below E332
  have z_w331 := E332.size
  have hA := hA.keep0 E332
  have hB := hB.keep0 E332
  have hb := below_step0 hb E332 hb.size
  rcases Bool.eq_false_or_eq_true ((mayL bL)) with c29 | c29
  · -- 29T
   rw [c29]
   refine g_true (j := 3) (dj := 27) (b := false) rfl rfl rfl (ev_hit hN rfl) ?_
   refine op_not (ev_hit hN rfl) ?_
   refine op_pick_f (ev_hit hN rfl) (ev_hit hN rfl) ?_
   refine op_move (ev_hit hN rfl) ?_
   have ha8 := mayL_len c25
   have hb8 := mayL_len c29
   refine g_true (j := 8) (dj := 32) (b := false) rfl rfl rfl (ev_hit hN rfl) ?_
   refine op_move (ev_base hN rfl s0) ?_
   refine g_true (j := 8) (dj := 32) (b := false) rfl rfl rfl (ev_hit hN rfl) ?_
   refine op_move (ev_base hN rfl s1) ?_
   refine g_true (j := 8) (dj := 32) (b := false) rfl rfl rfl (ev_hit hN rfl) ?_
   refine op_fn (vs := [vA, vB]) ok51 ⟨(ev_hit hN rfl), ⟨(ev_hit hN rfl), trivial⟩⟩ (rjoinW_ret aL bL _ _ _ (by first | assumption | omega | (simp only [List.length_append, List.length_cons, List.length_nil, List.length_drop, List.length_take]; omega) | (dsimp only; omega) | decide | (simp [keyV, be8_len]; done)) (by first | assumption | omega | (simp only [List.length_append, List.length_cons, List.length_nil, List.length_drop, List.length_take]; omega) | (dsimp only; omega) | decide | (simp [keyV, be8_len]; done)) (show RdC w331 0 w331.heap.size 1 vA aL.length (aL.map u16v) from by have hh : RdC w331 0 w331.heap.size 1 _ _ _ := (hA.mono (L' := 0) (B' := w331.heap.size) (Nat.zero_le _) (by omega)); first | exact hh | exact hh.cast (by first | omega | (simp; try omega)) (by first | rfl | simp [u16v])) (show RdC w331 0 w331.heap.size 1 vB bL.length (bL.map u16v) from by have hh : RdC w331 0 w331.heap.size 1 _ _ _ := (hB.mono (L' := 0) (B' := w331.heap.size) (Nat.zero_le _) (by omega)); first | exact hh | exact hh.cast (by first | omega | (simp; try omega)) (by first | rfl | simp [u16v]))) ?_
   rintro v333 w334 ⟨E335, hO333⟩
   have E335 := grown_of_below E335
   have z_w334 := E335.size
   have hA := hA.keep0 E335
   have hB := hB.keep0 E335
   have hb := below_step0 hb E335 hb.size
   have hO333 := hO333.mono (base' := w.heap.size) (by omega)
   refine g_true (j := 8) (dj := 32) (b := false) rfl rfl rfl (ev_hit hN rfl) ?_
   refine op_len_rd Try.underlying54 (ev_hit hN rfl) hO333.rdw ?_
   refine g_true (j := 8) (dj := 32) (b := false) rfl rfl rfl (ev_hit hN rfl) ?_
   refine op_gtr (ev_hit hN rfl) rfl (fun c37 => ?_) (fun c37 => ?_)
   · -- 37T
    refine op_pick_f (ev_hit hN rfl) (ev_hit hN rfl) ?_
    refine reg_nil ?_
    refine hK328 _ _ ?_
    refine wp_cond_true (ev_hit hN rfl) ?_
    refine seq_any fun K336 hK336 => ?_
    refine one_reg ?_
    refine op_assign rfl ?_
    refine reg_nil ?_
    refine hK336 _ _ ?_
    refine wp_ret (then_ret ( ?_))
    refine ret1 rfl hd (ev_hit hN rfl) ⟨_, rfl, ?_⟩
    -- path 25T 29T 37T
    exact ⟨hb, rfl⟩
   · -- 37F
    refine op_pick_f (ev_hit hN rfl) (ev_hit hN rfl) ?_
    refine reg_nil ?_
    refine hK328 _ _ ?_
    refine wp_cond_false (ev_hit hN rfl) ?_
    refine wp_skip ?_
    refine hK327 _ _ ?_
    refine seq_any fun K337 hK337 => ?_
    refine one_reg ?_
    have hjl : (joinL aL bL).length ≤ 8 := by omega
    have hs2 := hs
    have hok1 : ¬ (bL = aL ∧ ([116] : List UInt8) = [116]) := fun h => hs2 h.1
    have hfj : flowsL aL (joinL aL bL) = true := flows_joinl
    have hrf : flowsL aL aL = true := flows_refl
    have hdm : dmB aL bL bL [116] [[116]] = true := by simp [dmB, hs2, hf]
    refine op_fn (vs := []) ok53 trivial (lockNewR) ?_
    rintro _ w339 ⟨E340, k338, F338, rfl, hl338⟩
    have lo_F338 : ∀ x, F338 x → w334.heap.size ≤ x := fun x hx => (hl338.lt x hx).1
    have dj341 : Dj (Bl v333) F338 := Dj.fresh (fun k hk => (hO333.lt k hk).2) lo_F338
    have E340 := grown_of_below E340
    have z_w339 := E340.size
    have hA := hA.keep0 E340
    have hB := hB.keep0 E340
    have hO333 := hO333.keep0 E340
    have hb := below_step0 hb E340 hb.size
    have hl338 : LocksR w339 w.heap.size k338 ([] : TM) F338 := hl338.mono (by omega)
    refine op_assign (ev_hit hN rfl) ?_
    refine reg_nil ?_
    refine hK337 _ _ ?_
    refine seq_any fun K342 hK342 => ?_
    refine one_reg ?_
    refine op_move (ev_hit hN rfl) ?_
    refine op_move (ev_base hN rfl s0) ?_
    refine op_fn (vs := [(ptr k338 0), (Value.int .i64 1), vA, (Value.int .u64 1)]) ok54 ⟨(ev_hit hN rfl), ⟨rfl, ⟨(ev_hit hN rfl), ⟨rfl, trivial⟩⟩⟩⟩ (lk_conv (EnterR (n := 1) (s := 1) (l := aL) (by omega) (lo := w.heap.size) hA (Nat.le_refl _) (by first | decide | omega) hl338) (A' := (Value.int .i64 0)) (M2 := ([(1, (⟨aL, 1, [], [], false⟩ : TX))] : TM)) (by rfl) (by rfl)) ?_
    rintro _ w344 ⟨E345, rfl, F343, hl343, hN343⟩
    have bd346 := hO333.lt
    have hl338_old := hl338
    have z_w344 := E345.size
    have hA := hA.keepG E345 (fun k hk => .inr (by have := hl338_old.lt k hk; omega))
    have hB := hB.keepG E345 (fun k hk => .inr (by have := hl338_old.lt k hk; omega))
    have hO333 := hO333.keepG E345 dj341
    have hb := below_stepG hb E345 hb.size (fun k hk => (hl338_old.lt k hk).1)
    have dj347 : Dj (Bl v333) F343 := Dj.stepF hN343 (fun k hk => (bd346 k hk).2) dj341
    refine reg_nil ?_
    refine hK342 _ _ ?_
    refine seq_any fun K348 hK348 => ?_
    refine one_reg ?_
    refine op_move (ev_hit hN rfl) ?_
    refine op_move (ev_base hN rfl s1) ?_
    refine op_fn (vs := [(ptr k338 0), (Value.int .i64 2), vB, (Value.int .u64 2)]) ok54 ⟨(ev_hit hN rfl), ⟨rfl, ⟨(ev_hit hN rfl), ⟨rfl, trivial⟩⟩⟩⟩ (lk_conv (EnterR (n := 2) (s := 2) (l := bL) (by omega) (lo := w.heap.size) hB (Nat.le_refl _) (by first | decide | omega) hl343) (A' := (Value.int .i64 0)) (M2 := (st2 aL bL 2 [] [])) (by rfl) (by rfl)) ?_
    rintro _ w350 ⟨E351, rfl, F349, hl349, hN349⟩
    have bd352 := hO333.lt
    have hl343_old := hl343
    have z_w350 := E351.size
    have hA := hA.keepG E351 (fun k hk => .inr (by have := hl343_old.lt k hk; omega))
    have hB := hB.keepG E351 (fun k hk => .inr (by have := hl343_old.lt k hk; omega))
    have hO333 := hO333.keepG E351 dj347
    have hb := below_stepG hb E351 hb.size (fun k hk => (hl343_old.lt k hk).1)
    have dj353 : Dj (Bl v333) F349 := Dj.stepF hN349 (fun k hk => (bd352 k hk).2) dj347
    refine reg_nil ?_
    refine hK348 _ _ ?_
    refine seq_any fun K354 hK354 => ?_
    refine seq_any fun K355 hK355 => ?_
    refine one_reg ?_
    refine op_move (ev_base hN rfl s4) ?_
    refine reg_nil ?_
    refine hK355 _ _ ?_
    refine wp_cond_false (ev_hit hN rfl) ?_
    refine wp_skip ?_
    refine hK354 _ _ ?_
    refine seq_any fun K356 hK356 => ?_
    refine one_reg ?_
    refine op_assign rfl ?_
    refine reg_nil ?_
    refine hK356 _ _ ?_
    refine seq_any fun K357 hK357 => ?_
    refine seq_any fun K358 hK358 => ?_
    refine one_reg ?_
    refine op_move (ev_base hN rfl s2) ?_
    refine op_not (ev_hit hN rfl) ?_
    refine reg_nil ?_
    refine hK358 _ _ ?_
    refine wp_cond_false (ev_hit hN rfl) ?_
    refine wp_skip ?_
    refine hK357 _ _ ?_
    refine seq_any fun K359 hK359 => ?_
    refine one_reg ?_
    refine op_move (ev_hit hN rfl) ?_
    refine op_move (ev_hit hN rfl) ?_
    refine op_bslice (e := 9) (pv := [(0, (Value.string (bs [116])))]) (cs := [(Value.string (bs [116]))]) ⟨rfl, (ev_hit hN rfl), trivial⟩ (by kernel_rfl) ?_
    intro w360 b361 lo_b361 hi_b361 hB363 E362
    have dj364 : ¬ F349 b361 := fun hf => by have := (hl349.lt _ hf).2; omega
    have z_w360 := E362.size
    have hA := hA.keep0 E362
    have hB := hB.keep0 E362
    have hO333 := hO333.keep0 E362
    have hl349 := hl349.keepG (Gr.of0 E362 NoB) (fun _ _ h => h)
    have hb := below_step0 hb E362 hb.size
    refine op_fn (vs := [(ptr k338 0), (Value.int .i64 2), (Value.slice (some ⟨b361, 0, none⟩) 1 1), (Value.string (bs []))]) ok55 ⟨(ev_hit hN rfl), ⟨rfl, ⟨(ev_hit hN rfl), ⟨rfl, trivial⟩⟩⟩⟩ (lk_conv (AskR (n := 2) (Rs := [[116]]) (x := []) (by omega) (by unfold MOk TOk; simp [st2, wf_i64, hjl, ha8, hb8]) (by unfold MSm; simp [st2]) (by decide) (Lr := b361) (Br := b361 + 1) (RdC.ofBx (sz := 1) (n := 1) hB363 rfl (by decide)) (by have := hB363.lt; omega) (fun y hy => Nat.lt_or_gt_of_ne (fun e => dj364 (e ▸ hy))) hl349) (A' := (Value.tuple #[(Value.int .i64 1), (Value.int .i64 0)])) (M2 := (st2 aL bL 2 [([116], bL)] [])) (by rw [ask2_v]; rfl) ask2_m) ?_
    rintro _ w366 ⟨E367, rfl, F365, hl365, hN365⟩
    have bd368 := hO333.lt
    have bd369 := hB363.lt
    have hl349_old := hl349
    have z_w366 := E367.size
    have hA := hA.keepG E367 (fun k hk => .inr (by have := hl349_old.lt k hk; omega))
    have hB := hB.keepG E367 (fun k hk => .inr (by have := hl349_old.lt k hk; omega))
    have hO333 := hO333.keepG E367 dj353
    have hB363 := hB363.keepG E367 dj364
    have hb := below_stepG hb E367 hb.size (fun k hk => (hl349_old.lt k hk).1)
    have dj370 : Dj (Bl v333) F365 := Dj.stepF hN365 (fun k hk => (bd368 k hk).2) dj353
    have dj371 : ¬ F365 b361 := ne_stepF hN365 bd369 dj364
    refine op_move (ev_hit hN rfl) ?_
    refine op_extract (ev_hit hN rfl) rfl ?_
    refine op_extract (ev_hit hN rfl) rfl ?_
    refine op_assign (ev_hit hN rfl) ?_
    refine op_assign (ev_hit hN rfl) ?_
    refine reg_nil ?_
    refine hK359 _ _ ?_
    refine seq_any fun K372 hK372 => ?_
    refine seq_any fun K373 hK373 => ?_
    refine one_reg ?_
    refine op_move (ev_base hN rfl s4) ?_
    refine op_move (ev_hit hN rfl) ?_
    refine g_false (j := 1) (dj := 62) (b := true) rfl rfl rfl (ev_hit hN rfl) rfl rfl ?_
    refine g_false (j := 1) (dj := 62) (b := true) rfl rfl rfl (ev_hit hN rfl) rfl rfl ?_
    refine g_false (j := 1) (dj := 62) (b := true) rfl rfl rfl (ev_hit hN rfl) rfl rfl ?_
    refine g_false (j := 1) (dj := 62) (b := true) rfl rfl rfl (ev_hit hN rfl) rfl rfl ?_
    refine g_false (j := 1) (dj := 62) (b := true) rfl rfl rfl (ev_hit hN rfl) rfl rfl ?_
    refine g_false (j := 1) (dj := 62) (b := true) rfl rfl rfl (ev_hit hN rfl) rfl rfl ?_
    refine op_pick_f (ev_hit hN rfl) rfl ?_
    refine reg_nil ?_
    refine hK373 _ _ ?_
    refine wp_cond_false (ev_hit hN rfl) ?_
    refine wp_skip ?_
    refine hK372 _ _ ?_
    refine seq_any fun K374 hK374 => ?_
    refine seq_any fun K375 hK375 => ?_
    refine one_reg ?_
    refine op_move (ev_base hN rfl s3) ?_
    refine reg_nil ?_
    refine hK375 _ _ ?_
    refine wp_cond_true (ev_hit hN rfl) ?_
    refine seq_any fun K376 hK376 => ?_
    refine one_reg ?_
    refine op_move (ev_hit hN rfl) ?_
    refine op_fn (vs := [(ptr k338 0), (Value.int .i64 1), (Value.slice none 0 0), (Value.string (bs [116]))]) ok55 ⟨(ev_hit hN rfl), ⟨rfl, ⟨rfl, ⟨rfl, trivial⟩⟩⟩⟩ (lk_conv (AskR (n := 1) (Rs := ([] : List (List UInt8))) (x := ([116])) (by omega) (by unfold MOk TOk; simp [st2, wf_i64, hjl, ha8, hb8]) (by unfold MSm; simp [st2]) (by decide) (RdC.nil _ 0 0 _) (Nat.zero_le _) (fun _ _ => .inr (Nat.zero_le _)) hl365) (A' := (Value.tuple #[(Value.int .i64 1), (Value.int .i64 0)])) (M2 := (st2 aL bL 2 [([116], bL)] [[116]])) (by rw [(ask1_ok hok1).1]; rfl) (ask1_ok hok1).2) ?_
    rintro _ w378 ⟨E379, rfl, F377, hl377, hN377⟩
    have bd380 := hO333.lt
    have bd381 := hB363.lt
    have hl365_old := hl365
    have z_w378 := E379.size
    have hA := hA.keepG E379 (fun k hk => .inr (by have := hl365_old.lt k hk; omega))
    have hB := hB.keepG E379 (fun k hk => .inr (by have := hl365_old.lt k hk; omega))
    have hO333 := hO333.keepG E379 dj370
    have hB363 := hB363.keepG E379 dj371
    have hb := below_stepG hb E379 hb.size (fun k hk => (hl365_old.lt k hk).1)
    have dj382 : Dj (Bl v333) F377 := Dj.stepF hN377 (fun k hk => (bd380 k hk).2) dj370
    have dj383 : ¬ F377 b361 := ne_stepF hN377 bd381 dj371
    refine op_move (ev_hit hN rfl) ?_
    refine op_extract (ev_hit hN rfl) rfl ?_
    refine op_extract (ev_hit hN rfl) rfl ?_
    refine op_assign (ev_hit hN rfl) ?_
    refine op_assign (ev_hit hN rfl) ?_
    refine reg_nil ?_
    refine hK376 _ _ ?_
    refine seq_any fun K384 hK384 => ?_
    refine one_reg ?_
    refine op_move (ev_base hN rfl s4) ?_
    refine op_not (ev_hit hN rfl) ?_
    refine op_move (ev_hit hN rfl) ?_
    refine g_true (j := 2) (dj := 78) (b := true) rfl rfl rfl (ev_hit hN rfl) ?_
    refine op_move (ev_base hN rfl s0) ?_
    refine g_true (j := 2) (dj := 78) (b := true) rfl rfl rfl (ev_hit hN rfl) ?_
    refine op_move (ev_base hN rfl s1) ?_
    refine g_true (j := 2) (dj := 78) (b := true) rfl rfl rfl (ev_hit hN rfl) ?_
    refine op_fn (vs := [vA, vB]) ok34 ⟨(ev_hit hN rfl), ⟨(ev_hit hN rfl), trivial⟩⟩ (sameL_ret aL bL _ _ _ (by first | assumption | omega | (simp only [List.length_append, List.length_cons, List.length_nil, List.length_drop, List.length_take]; omega) | (dsimp only; omega) | decide | (simp [keyV, be8_len]; done)) (by first | assumption | omega | (simp only [List.length_append, List.length_cons, List.length_nil, List.length_drop, List.length_take]; omega) | (dsimp only; omega) | decide | (simp [keyV, be8_len]; done)) (show RdC w378 0 w378.heap.size 1 vA aL.length (aL.map u16v) from by have hh : RdC w378 0 w378.heap.size 1 _ _ _ := (hA.mono (L' := 0) (B' := w378.heap.size) (Nat.zero_le _) (by omega)); first | exact hh | exact hh.cast (by first | omega | (simp; try omega)) (by first | rfl | simp [u16v])) (show RdC w378 0 w378.heap.size 1 vB bL.length (bL.map u16v) from by have hh : RdC w378 0 w378.heap.size 1 _ _ _ := (hB.mono (L' := 0) (B' := w378.heap.size) (Nat.zero_le _) (by omega)); first | exact hh | exact hh.cast (by first | omega | (simp; try omega)) (by first | rfl | simp [u16v]))) ?_
    rintro _ w385 ⟨E386, rfl⟩
    have E386 := grown_of_below E386
    have z_w385 := E386.size
    have hA := hA.keep0 E386
    have hB := hB.keep0 E386
    have hO333 := hO333.keep0 E386
    have hB363 := hB363.keep0 E386
    have hl377 := hl377.keepG (Gr.of0 E386 NoB) (fun _ _ h => h)
    have hb := below_step0 hb E386 hb.size
    rcases Bool.eq_false_or_eq_true ((decide (aL = bL))) with c81 | c81
    · -- 81T
     exact absurd (of_decide_eq_true c81).symm hs
    · -- 81F
     rw [c81]
     refine op_pick_t (ev_hit hN rfl) (ev_hit hN rfl) ?_
     refine op_move (ev_hit hN rfl) ?_
     refine g_true (j := 7) (dj := 83) (b := false) rfl rfl rfl (ev_hit hN rfl) ?_
     refine op_move (ev_base hN rfl s4) ?_
     refine g_true (j := 7) (dj := 83) (b := false) rfl rfl rfl (ev_hit hN rfl) ?_
     refine op_move (ev_hit hN rfl) ?_
     refine g_false (j := 9) (dj := 85) (b := true) rfl rfl rfl (ev_hit hN rfl) rfl rfl ?_
     refine g_false (j := 9) (dj := 85) (b := true) rfl rfl rfl (ev_hit hN rfl) rfl rfl ?_
     refine g_false (j := 9) (dj := 85) (b := true) rfl rfl rfl (ev_hit hN rfl) rfl rfl ?_
     refine g_true (j := 7) (dj := 83) (b := false) rfl rfl rfl (ev_hit hN rfl) ?_
     refine op_pick_f (ev_hit hN rfl) rfl ?_
     refine op_pick_f (ev_hit hN rfl) (ev_hit hN rfl) ?_
     refine op_assign (ev_hit hN rfl) ?_
     refine reg_nil ?_
     refine hK384 _ _ ?_
     refine seq_any fun K387 hK387 => ?_
     refine seq_any fun K388 hK388 => ?_
     refine one_reg ?_
     refine op_move (ev_hit hN rfl) ?_
     refine op_move (ev_hit hN rfl) ?_
     refine g_false (j := 1) (dj := 92) (b := true) rfl rfl rfl (ev_hit hN rfl) rfl rfl ?_
     refine op_pick_f (ev_hit hN rfl) rfl ?_
     refine reg_nil ?_
     refine hK388 _ _ ?_
     refine wp_cond_false (ev_hit hN rfl) ?_
     refine wp_skip ?_
     refine hK387 _ _ ?_
     refine seq_any fun K389 hK389 => ?_
     refine one_reg ?_
     refine op_move (ev_hit hN rfl) ?_
     refine op_bin (v := .bool false) (ev_hit hN rfl) rfl (by rw [binOp_neq]; rfl) ?_
     refine reg_nil ?_
     refine hK389 _ _ ?_
     refine wp_cond_false (ev_hit hN rfl) ?_
     refine wp_skip ?_
     refine hK374 _ _ ?_
     refine seq_any fun K390 hK390 => ?_
     refine one_reg ?_
     refine op_move (ev_hit hN rfl) ?_
     refine op_fn (vs := [(ptr k338 0), (Value.int .i64 1)]) ok60 ⟨(ev_hit hN rfl), ⟨rfl, trivial⟩⟩ (CommitR' (n := 1) (L := [2]) (M2 := ([(2, ⟨bL, 2, [([116], bL)], [], true⟩)] : TM)) (E2 := 0) (by omega) (by unfold MOk TOk; simp [st2, wf_i64, hjl, ha8, hb8]) hl377 (com1_l.trans (by rw [hdm]; rfl)) (com1_m.trans (by rw [hdm])) rfl) ?_
     rintro _ w392 ⟨E393, v391, rfl, hO391, F391, hl391, hN391, hd391⟩
     have bd394 := hO333.lt
     have bd395 := hB363.lt
     have hl377_old := hl377
     have z_w392 := E393.size
     have hA := hA.keepG E393 (fun k hk => .inr (by have := hl377_old.lt k hk; omega))
     have hB := hB.keepG E393 (fun k hk => .inr (by have := hl377_old.lt k hk; omega))
     have hO333 := hO333.keepG E393 dj382
     have hB363 := hB363.keepG E393 dj383
     have hb := below_stepG hb E393 hb.size (fun k hk => (hl377_old.lt k hk).1)
     have dj396 : Dj (Bl v333) F391 := Dj.stepF hN391 (fun k hk => (bd394 k hk).2) dj382
     have dj397 : ¬ F391 b361 := ne_stepF hN391 bd395 dj383
     have hO391 := hO391.mono (base' := w.heap.size) (by omega)
     have hl391 : LocksR w392 w.heap.size k338 ([(2, ⟨bL, 2, [([116], bL)], [], true⟩)] : TM) F391 := hl391
     refine op_move (ev_hit hN rfl) ?_
     refine op_extract (ev_hit hN rfl) rfl ?_
     refine op_extract (ev_hit hN rfl) rfl ?_
     refine op_assign (ev_hit hN rfl) ?_
     refine op_assign (ev_hit hN rfl) ?_
     refine reg_nil ?_
     refine hK390 _ _ ?_
     refine seq_any fun K398 hK398 => ?_
     refine one_reg ?_
     refine op_move (ev_base hN rfl s1) ?_
     refine op_assign (ev_hit hN rfl) ?_
     refine reg_nil ?_
     refine hK398 _ _ ?_
     refine seq_any fun K399 hK399 => ?_
     refine seq_any fun K400 hK400 => ?_
     refine one_reg ?_
     refine op_move (ev_base hN rfl s4) ?_
     refine reg_nil ?_
     refine hK400 _ _ ?_
     refine wp_cond_false (ev_hit hN rfl) ?_
     refine wp_skip ?_
     refine hK399 _ _ ?_
     refine seq_any fun K401 hK401 => ?_
     refine one_reg ?_
     refine op_move (ev_base hN rfl s2) ?_
     refine op_move (ev_hit hN rfl) ?_
     refine g_true (j := 1) (dj := 114) (b := true) rfl rfl rfl (ev_hit hN rfl) ?_
     refine op_move (ev_base hN rfl s3) ?_
     refine op_pick_t (ev_hit hN rfl) (ev_hit hN rfl) ?_
     refine op_move (ev_hit hN rfl) ?_
     refine g_true (j := 4) (dj := 117) (b := true) rfl rfl rfl (ev_hit hN rfl) ?_
     refine op_move (ev_base hN rfl s0) ?_
     refine g_true (j := 4) (dj := 117) (b := true) rfl rfl rfl (ev_hit hN rfl) ?_
     refine op_move (ev_hit hN rfl) ?_
     refine g_true (j := 4) (dj := 117) (b := true) rfl rfl rfl (ev_hit hN rfl) ?_
     refine op_fn (vs := [vA, vB]) ok61 ⟨(ev_hit hN rfl), ⟨(ev_hit hN rfl), trivial⟩⟩ (raboveW_ret aL bL _ _ _ (by first | assumption | omega | (simp only [List.length_append, List.length_cons, List.length_nil, List.length_drop, List.length_take]; omega) | (dsimp only; omega) | decide | (simp [keyV, be8_len]; done)) (by first | assumption | omega | (simp only [List.length_append, List.length_cons, List.length_nil, List.length_drop, List.length_take]; omega) | (dsimp only; omega) | decide | (simp [keyV, be8_len]; done)) (show RdC w392 0 w392.heap.size 1 vA aL.length (aL.map u16v) from by have hh : RdC w392 0 w392.heap.size 1 _ _ _ := (hA.mono (L' := 0) (B' := w392.heap.size) (Nat.zero_le _) (by omega)); first | exact hh | exact hh.cast (by first | omega | (simp; try omega)) (by first | rfl | simp [u16v])) (show RdC w392 0 w392.heap.size 1 vB bL.length (bL.map u16v) from by have hh : RdC w392 0 w392.heap.size 1 _ _ _ := (hB.mono (L' := 0) (B' := w392.heap.size) (Nat.zero_le _) (by omega)); first | exact hh | exact hh.cast (by first | omega | (simp; try omega)) (by first | rfl | simp [u16v]))) ?_
     rintro _ w402 ⟨E403, rfl⟩
     have E403 := grown_of_below E403
     have z_w402 := E403.size
     have hA := hA.keep0 E403
     have hB := hB.keep0 E403
     have hO333 := hO333.keep0 E403
     have hB363 := hB363.keep0 E403
     have hl391 := hl391.keepG (Gr.of0 E403 NoB) (fun _ _ h => h)
     have hO391 := hO391.keep0 E403
     have hb := below_step0 hb E403 hb.size
     rcases Bool.eq_false_or_eq_true ((flowsL aL bL && !decide (aL = bL))) with c120 | c120
     · -- 120T
      rw [c120]
      refine op_pick_t (ev_hit hN rfl) (ev_hit hN rfl) ?_
      refine op_assign (ev_hit hN rfl) ?_
      refine reg_nil ?_
      refine hK401 _ _ ?_
      refine seq_any fun K404 hK404 => ?_
      refine one_reg ?_
      refine op_move (ev_hit hN rfl) ?_
      refine op_bin (v := .bool true) (ev_hit hN rfl) rfl (by rw [binOp_eql]; rfl) ?_
      refine op_move (ev_hit hN rfl) ?_
      refine g_true (j := 2) (dj := 124) (b := true) rfl rfl rfl (ev_hit hN rfl) ?_
      refine op_move (ev_hit hN rfl) ?_
      refine g_true (j := 2) (dj := 124) (b := true) rfl rfl rfl (ev_hit hN rfl) ?_
      refine op_bin (v := .bool true) (ev_hit hN rfl) rfl (by rw [binOp_eql]; rfl) ?_
      refine op_pick_t (ev_hit hN rfl) (ev_hit hN rfl) ?_
      refine op_move (ev_hit hN rfl) ?_
      refine g_true (j := 6) (dj := 128) (b := true) rfl rfl rfl (ev_hit hN rfl) ?_
      refine op_move (ev_hit hN rfl) ?_
      refine g_true (j := 6) (dj := 128) (b := true) rfl rfl rfl (ev_hit hN rfl) ?_
      refine op_fn (vs := [(ptr k338 0), (Value.int .i64 2)]) ok62 ⟨(ev_hit hN rfl), ⟨rfl, trivial⟩⟩ (DoomedR' (n := 2) hl391 rfl) ?_
      rintro _ w405 ⟨E406, rfl⟩
      have E406 := grown_of_below E406
      have z_w405 := E406.size
      have hA := hA.keep0 E406
      have hB := hB.keep0 E406
      have hO333 := hO333.keep0 E406
      have hB363 := hB363.keep0 E406
      have hl391 := hl391.keepG (Gr.of0 E406 NoB) (fun _ _ h => h)
      have hO391 := hO391.keep0 E406
      have hb := below_step0 hb E406 hb.size
      refine g_true (j := 6) (dj := 128) (b := true) rfl rfl rfl (ev_hit hN rfl) ?_
      refine op_move (ev_hit hN rfl) ?_
      refine g_true (j := 6) (dj := 128) (b := true) rfl rfl rfl (ev_hit hN rfl) ?_
      refine op_eqb Try.underlying4 (ev_hit hN rfl) (ev_hit hN rfl) ?_
      refine op_pick_t (ev_hit hN rfl) (ev_hit hN rfl) ?_
      refine op_move (ev_hit hN rfl) ?_
      refine g_true (j := 12) (dj := 134) (b := true) rfl rfl rfl (ev_hit hN rfl) ?_
      refine op_move (ev_hit hN rfl) ?_
      refine g_true (j := 12) (dj := 134) (b := true) rfl rfl rfl (ev_hit hN rfl) ?_
      refine op_len_rd Try.underlying35 (ev_hit hN rfl) hO391.rdw ?_
      refine g_true (j := 12) (dj := 134) (b := true) rfl rfl rfl (ev_hit hN rfl) ?_
      refine op_eql (ev_hit hN rfl) rfl (fun c137 => ?_) (fun c137 => ?_)
      · -- 137T
       refine g_true (j := 12) (dj := 134) (b := true) rfl rfl rfl (ev_hit hN rfl) ?_
       refine op_move (ev_hit hN rfl) ?_
       refine g_true (j := 12) (dj := 134) (b := true) rfl rfl rfl (ev_hit hN rfl) ?_
       refine op_eqb Try.underlying4 (ev_hit hN rfl) (ev_hit hN rfl) ?_
       refine op_pick_t (ev_hit hN rfl) (ev_hit hN rfl) ?_
       refine op_assign (ev_hit hN rfl) ?_
       refine reg_nil ?_
       refine hK404 _ _ ?_
       refine wp_ret ?_
       refine ret1 rfl hd (ev_hit hN rfl) ⟨_, rfl, ?_⟩
       -- path 25T 29T 37F 81F 120T 137T
       exact ⟨hb, rfl⟩
      · -- 137F
       exact absurd rfl c137
     · -- 120F
      simp [hf] at c120; exact absurd c120.symm hs2
  · -- 29F
   rw [c29]
   refine g_true (j := 3) (dj := 27) (b := false) rfl rfl rfl (ev_hit hN rfl) ?_
   refine op_not (ev_hit hN rfl) ?_
   refine op_pick_f (ev_hit hN rfl) (ev_hit hN rfl) ?_
   refine op_move (ev_hit hN rfl) ?_
   skip
   refine g_false (j := 8) (dj := 32) (b := false) rfl rfl rfl (ev_hit hN rfl) rfl rfl ?_
   refine g_false (j := 8) (dj := 32) (b := false) rfl rfl rfl (ev_hit hN rfl) rfl rfl ?_
   refine g_false (j := 8) (dj := 32) (b := false) rfl rfl rfl (ev_hit hN rfl) rfl rfl ?_
   refine g_false (j := 8) (dj := 32) (b := false) rfl rfl rfl (ev_hit hN rfl) rfl rfl ?_
   refine g_false (j := 8) (dj := 32) (b := false) rfl rfl rfl (ev_hit hN rfl) rfl rfl ?_
   refine op_pick_t (ev_hit hN rfl) rfl ?_
   refine reg_nil ?_
   refine hK328 _ _ ?_
   refine wp_cond_true (ev_hit hN rfl) ?_
   refine seq_any fun K407 hK407 => ?_
   refine one_reg ?_
   refine op_assign rfl ?_
   refine reg_nil ?_
   refine hK407 _ _ ?_
   refine wp_ret (then_ret ( ?_))
   refine ret1 rfl hd (ev_hit hN rfl) ⟨_, rfl, ?_⟩
   -- path 25T 29F
   exact ⟨hb, rfl⟩
 · -- 25F
  rw [c25]
  refine op_not (ev_hit hN rfl) ?_
  refine op_move (ev_hit hN rfl) ?_
  refine g_false (j := 3) (dj := 27) (b := false) rfl rfl rfl (ev_hit hN rfl) rfl rfl ?_
  refine g_false (j := 3) (dj := 27) (b := false) rfl rfl rfl (ev_hit hN rfl) rfl rfl ?_
  refine g_false (j := 3) (dj := 27) (b := false) rfl rfl rfl (ev_hit hN rfl) rfl rfl ?_
  refine op_pick_t (ev_hit hN rfl) rfl ?_
  refine op_move (ev_hit hN rfl) ?_
  skip
  refine g_false (j := 8) (dj := 32) (b := false) rfl rfl rfl (ev_hit hN rfl) rfl rfl ?_
  refine g_false (j := 8) (dj := 32) (b := false) rfl rfl rfl (ev_hit hN rfl) rfl rfl ?_
  refine g_false (j := 8) (dj := 32) (b := false) rfl rfl rfl (ev_hit hN rfl) rfl rfl ?_
  refine g_false (j := 8) (dj := 32) (b := false) rfl rfl rfl (ev_hit hN rfl) rfl rfl ?_
  refine g_false (j := 8) (dj := 32) (b := false) rfl rfl rfl (ev_hit hN rfl) rfl rfl ?_
  refine op_pick_t (ev_hit hN rfl) rfl ?_
  refine reg_nil ?_
  refine hK328 _ _ ?_
  refine wp_cond_true (ev_hit hN rfl) ?_
  refine seq_any fun K408 hK408 => ?_
  refine one_reg ?_
  refine op_assign rfl ?_
  refine reg_nil ?_
  refine hK408 _ _ ?_
  refine wp_ret (then_ret ( ?_))
  refine ret1 rfl hd (ev_hit hN rfl) ⟨_, rfl, ?_⟩
  -- path 25F
  exact ⟨hb, rfl⟩

theorem LockDooms_ftt_no (aL bL : List UInt16) (vA vB : Value) (w : World) (hal : aL.length ≤ 9223372036854775807) (hbl : bL.length ≤ 9223372036854775807) (hA : RdC w 0 w.heap.size 1 vA aL.length (aL.map u16v)) (hB : RdC w 0 w.heap.size 1 vB bL.length (bL.map u16v)) (hs : ¬ bL = aL) (hf : flowsL aL bL = false) : Ret Try.prog 13 #[vA, vB, (Value.bool true), (Value.bool true), (Value.bool false)] w (fun v' w' => Below w.heap.size w w' ∧ v' = .bool true) := by
 have hb := Below.refl w.heap.size w
 refine enter (N := 141) Try.func13 rfl rfl (by simp) fun a0 hN hd hA => ?_
 have s0 : a0.tmps.getD 0 undef = vA := hA 0 (by simp)
 have s1 : a0.tmps.getD 1 undef = vB := hA 1 (by simp)
 have s2 : a0.tmps.getD 2 undef = (Value.bool true) := hA 2 (by simp)
 have s3 : a0.tmps.getD 3 undef = (Value.bool true) := hA 3 (by simp)
 have s4 : a0.tmps.getD 4 undef = (Value.bool false) := hA 4 (by simp)
 clear hA
 refine seq_any fun K409 hK409 => ?_
 refine one_reg ?_
 refine op_assign rfl ?_
 refine reg_nil ?_
 refine hK409 _ _ ?_
 refine seq_any fun K410 hK410 => ?_
 refine seq_any fun K411 hK411 => ?_
 refine one_reg ?_
 refine op_fn (vs := []) ok52 trivial (begun19_ret _) ?_
 rintro _ w412 ⟨E413, rfl⟩
 have E413 := grown_of_below E413
 have z_w412 := E413.size
 have hA := hA.keep0 E413
 have hB := hB.keep0 E413
 have hb := below_step0 hb E413 hb.size
 refine op_not (ev_hit hN rfl) ?_
 refine reg_nil ?_
 refine hK411 _ _ ?_
 refine wp_cond_false (ev_hit hN rfl) ?_
 refine wp_skip ?_
 refine hK410 _ _ ?_
 refine seq_any fun K414 hK414 => ?_
 refine seq_any fun K415 hK415 => ?_
 refine one_reg ?_
 refine op_move (ev_base hN rfl s0) ?_
 refine op_fn (vs := [vA]) ok33 ⟨(ev_hit hN rfl), trivial⟩ (refMay_ret aL _ _ (by first | assumption | omega | (simp only [List.length_append, List.length_cons, List.length_nil, List.length_drop, List.length_take]; omega) | (dsimp only; omega) | decide | (simp [keyV, be8_len]; done)) (show RdC w412 0 w412.heap.size 1 vA aL.length (aL.map u16v) from by have hh : RdC w412 0 w412.heap.size 1 _ _ _ := (hA.mono (L' := 0) (B' := w412.heap.size) (Nat.zero_le _) (by omega)); first | exact hh | exact hh.cast (by first | omega | (simp; try omega)) (by first | rfl | simp [u16v]))) ?_
 rintro _ w416 ⟨E417, rfl⟩
 have E417 := grown_of_below E417
 have z_w416 := E417.size
 have hA := hA.keep0 E417
 have hB := hB.keep0 E417
 have hb := below_step0 hb E417 hb.size
 rcases Bool.eq_false_or_eq_true ((mayL aL)) with c25 | c25
 · -- 25T
  rw [c25]
  refine op_not (ev_hit hN rfl) ?_
  refine op_move (ev_hit hN rfl) ?_
  refine g_true (j := 3) (dj := 27) (b := false) rfl rfl rfl (ev_hit hN rfl) ?_
  refine op_move (ev_base hN rfl s1) ?_
  refine g_true (j := 3) (dj := 27) (b := false) rfl rfl rfl (ev_hit hN rfl) ?_
  refine op_fn (vs := [vB]) ok33 ⟨(ev_hit hN rfl), trivial⟩ (refMay_ret bL _ _ (by first | assumption | omega | (simp only [List.length_append, List.length_cons, List.length_nil, List.length_drop, List.length_take]; omega) | (dsimp only; omega) | decide | (simp [keyV, be8_len]; done)) (show RdC w416 0 w416.heap.size 1 vB bL.length (bL.map u16v) from by have hh : RdC w416 0 w416.heap.size 1 _ _ _ := (hB.mono (L' := 0) (B' := w416.heap.size) (Nat.zero_le _) (by omega)); first | exact hh | exact hh.cast (by first | omega | (simp; try omega)) (by first | rfl | simp [u16v]))) ?_
  rintro _ w418 ⟨E419, rfl⟩
  have E419 := grown_of_below E419
  have z_w418 := E419.size
  have hA := hA.keep0 E419
  have hB := hB.keep0 E419
  have hb := below_step0 hb E419 hb.size
  rcases Bool.eq_false_or_eq_true ((mayL bL)) with c29 | c29
  · -- 29T
   rw [c29]
   refine g_true (j := 3) (dj := 27) (b := false) rfl rfl rfl (ev_hit hN rfl) ?_
   refine op_not (ev_hit hN rfl) ?_
   refine op_pick_f (ev_hit hN rfl) (ev_hit hN rfl) ?_
   refine op_move (ev_hit hN rfl) ?_
   have ha8 := mayL_len c25
   have hb8 := mayL_len c29
   refine g_true (j := 8) (dj := 32) (b := false) rfl rfl rfl (ev_hit hN rfl) ?_
   refine op_move (ev_base hN rfl s0) ?_
   refine g_true (j := 8) (dj := 32) (b := false) rfl rfl rfl (ev_hit hN rfl) ?_
   refine op_move (ev_base hN rfl s1) ?_
   refine g_true (j := 8) (dj := 32) (b := false) rfl rfl rfl (ev_hit hN rfl) ?_
   refine op_fn (vs := [vA, vB]) ok51 ⟨(ev_hit hN rfl), ⟨(ev_hit hN rfl), trivial⟩⟩ (rjoinW_ret aL bL _ _ _ (by first | assumption | omega | (simp only [List.length_append, List.length_cons, List.length_nil, List.length_drop, List.length_take]; omega) | (dsimp only; omega) | decide | (simp [keyV, be8_len]; done)) (by first | assumption | omega | (simp only [List.length_append, List.length_cons, List.length_nil, List.length_drop, List.length_take]; omega) | (dsimp only; omega) | decide | (simp [keyV, be8_len]; done)) (show RdC w418 0 w418.heap.size 1 vA aL.length (aL.map u16v) from by have hh : RdC w418 0 w418.heap.size 1 _ _ _ := (hA.mono (L' := 0) (B' := w418.heap.size) (Nat.zero_le _) (by omega)); first | exact hh | exact hh.cast (by first | omega | (simp; try omega)) (by first | rfl | simp [u16v])) (show RdC w418 0 w418.heap.size 1 vB bL.length (bL.map u16v) from by have hh : RdC w418 0 w418.heap.size 1 _ _ _ := (hB.mono (L' := 0) (B' := w418.heap.size) (Nat.zero_le _) (by omega)); first | exact hh | exact hh.cast (by first | omega | (simp; try omega)) (by first | rfl | simp [u16v]))) ?_
   rintro v420 w421 ⟨E422, hO420⟩
   have E422 := grown_of_below E422
   have z_w421 := E422.size
   have hA := hA.keep0 E422
   have hB := hB.keep0 E422
   have hb := below_step0 hb E422 hb.size
   have hO420 := hO420.mono (base' := w.heap.size) (by omega)
   refine g_true (j := 8) (dj := 32) (b := false) rfl rfl rfl (ev_hit hN rfl) ?_
   refine op_len_rd Try.underlying54 (ev_hit hN rfl) hO420.rdw ?_
   refine g_true (j := 8) (dj := 32) (b := false) rfl rfl rfl (ev_hit hN rfl) ?_
   refine op_gtr (ev_hit hN rfl) rfl (fun c37 => ?_) (fun c37 => ?_)
   · -- 37T
    refine op_pick_f (ev_hit hN rfl) (ev_hit hN rfl) ?_
    refine reg_nil ?_
    refine hK415 _ _ ?_
    refine wp_cond_true (ev_hit hN rfl) ?_
    refine seq_any fun K423 hK423 => ?_
    refine one_reg ?_
    refine op_assign rfl ?_
    refine reg_nil ?_
    refine hK423 _ _ ?_
    refine wp_ret (then_ret ( ?_))
    refine ret1 rfl hd (ev_hit hN rfl) ⟨_, rfl, ?_⟩
    -- path 25T 29T 37T
    exact ⟨hb, rfl⟩
   · -- 37F
    refine op_pick_f (ev_hit hN rfl) (ev_hit hN rfl) ?_
    refine reg_nil ?_
    refine hK415 _ _ ?_
    refine wp_cond_false (ev_hit hN rfl) ?_
    refine wp_skip ?_
    refine hK414 _ _ ?_
    refine seq_any fun K424 hK424 => ?_
    refine one_reg ?_
    have hjl : (joinL aL bL).length ≤ 8 := by omega
    have hs2 := hs
    have hok1 : ¬ (bL = aL ∧ ([116] : List UInt8) = [116]) := fun h => hs2 h.1
    have hfj : flowsL aL (joinL aL bL) = true := flows_joinl
    have hrf : flowsL aL aL = true := flows_refl
    have hdm : dmB aL bL bL [116] [[116]] = false := by simp [dmB, hs2, hf]
    refine op_fn (vs := []) ok53 trivial (lockNewR) ?_
    rintro _ w426 ⟨E427, k425, F425, rfl, hl425⟩
    have lo_F425 : ∀ x, F425 x → w421.heap.size ≤ x := fun x hx => (hl425.lt x hx).1
    have dj428 : Dj (Bl v420) F425 := Dj.fresh (fun k hk => (hO420.lt k hk).2) lo_F425
    have E427 := grown_of_below E427
    have z_w426 := E427.size
    have hA := hA.keep0 E427
    have hB := hB.keep0 E427
    have hO420 := hO420.keep0 E427
    have hb := below_step0 hb E427 hb.size
    have hl425 : LocksR w426 w.heap.size k425 ([] : TM) F425 := hl425.mono (by omega)
    refine op_assign (ev_hit hN rfl) ?_
    refine reg_nil ?_
    refine hK424 _ _ ?_
    refine seq_any fun K429 hK429 => ?_
    refine one_reg ?_
    refine op_move (ev_hit hN rfl) ?_
    refine op_move (ev_base hN rfl s0) ?_
    refine op_fn (vs := [(ptr k425 0), (Value.int .i64 1), vA, (Value.int .u64 1)]) ok54 ⟨(ev_hit hN rfl), ⟨rfl, ⟨(ev_hit hN rfl), ⟨rfl, trivial⟩⟩⟩⟩ (lk_conv (EnterR (n := 1) (s := 1) (l := aL) (by omega) (lo := w.heap.size) hA (Nat.le_refl _) (by first | decide | omega) hl425) (A' := (Value.int .i64 0)) (M2 := ([(1, (⟨aL, 1, [], [], false⟩ : TX))] : TM)) (by rfl) (by rfl)) ?_
    rintro _ w431 ⟨E432, rfl, F430, hl430, hN430⟩
    have bd433 := hO420.lt
    have hl425_old := hl425
    have z_w431 := E432.size
    have hA := hA.keepG E432 (fun k hk => .inr (by have := hl425_old.lt k hk; omega))
    have hB := hB.keepG E432 (fun k hk => .inr (by have := hl425_old.lt k hk; omega))
    have hO420 := hO420.keepG E432 dj428
    have hb := below_stepG hb E432 hb.size (fun k hk => (hl425_old.lt k hk).1)
    have dj434 : Dj (Bl v420) F430 := Dj.stepF hN430 (fun k hk => (bd433 k hk).2) dj428
    refine reg_nil ?_
    refine hK429 _ _ ?_
    refine seq_any fun K435 hK435 => ?_
    refine one_reg ?_
    refine op_move (ev_hit hN rfl) ?_
    refine op_move (ev_base hN rfl s1) ?_
    refine op_fn (vs := [(ptr k425 0), (Value.int .i64 2), vB, (Value.int .u64 2)]) ok54 ⟨(ev_hit hN rfl), ⟨rfl, ⟨(ev_hit hN rfl), ⟨rfl, trivial⟩⟩⟩⟩ (lk_conv (EnterR (n := 2) (s := 2) (l := bL) (by omega) (lo := w.heap.size) hB (Nat.le_refl _) (by first | decide | omega) hl430) (A' := (Value.int .i64 0)) (M2 := (st2 aL bL 2 [] [])) (by rfl) (by rfl)) ?_
    rintro _ w437 ⟨E438, rfl, F436, hl436, hN436⟩
    have bd439 := hO420.lt
    have hl430_old := hl430
    have z_w437 := E438.size
    have hA := hA.keepG E438 (fun k hk => .inr (by have := hl430_old.lt k hk; omega))
    have hB := hB.keepG E438 (fun k hk => .inr (by have := hl430_old.lt k hk; omega))
    have hO420 := hO420.keepG E438 dj434
    have hb := below_stepG hb E438 hb.size (fun k hk => (hl430_old.lt k hk).1)
    have dj440 : Dj (Bl v420) F436 := Dj.stepF hN436 (fun k hk => (bd439 k hk).2) dj434
    refine reg_nil ?_
    refine hK435 _ _ ?_
    refine seq_any fun K441 hK441 => ?_
    refine seq_any fun K442 hK442 => ?_
    refine one_reg ?_
    refine op_move (ev_base hN rfl s4) ?_
    refine reg_nil ?_
    refine hK442 _ _ ?_
    refine wp_cond_false (ev_hit hN rfl) ?_
    refine wp_skip ?_
    refine hK441 _ _ ?_
    refine seq_any fun K443 hK443 => ?_
    refine one_reg ?_
    refine op_assign rfl ?_
    refine reg_nil ?_
    refine hK443 _ _ ?_
    refine seq_any fun K444 hK444 => ?_
    refine seq_any fun K445 hK445 => ?_
    refine one_reg ?_
    refine op_move (ev_base hN rfl s2) ?_
    refine op_not (ev_hit hN rfl) ?_
    refine reg_nil ?_
    refine hK445 _ _ ?_
    refine wp_cond_false (ev_hit hN rfl) ?_
    refine wp_skip ?_
    refine hK444 _ _ ?_
    refine seq_any fun K446 hK446 => ?_
    refine one_reg ?_
    refine op_move (ev_hit hN rfl) ?_
    refine op_move (ev_hit hN rfl) ?_
    refine op_bslice (e := 9) (pv := [(0, (Value.string (bs [116])))]) (cs := [(Value.string (bs [116]))]) ⟨rfl, (ev_hit hN rfl), trivial⟩ (by kernel_rfl) ?_
    intro w447 b448 lo_b448 hi_b448 hB450 E449
    have dj451 : ¬ F436 b448 := fun hf => by have := (hl436.lt _ hf).2; omega
    have z_w447 := E449.size
    have hA := hA.keep0 E449
    have hB := hB.keep0 E449
    have hO420 := hO420.keep0 E449
    have hl436 := hl436.keepG (Gr.of0 E449 NoB) (fun _ _ h => h)
    have hb := below_step0 hb E449 hb.size
    refine op_fn (vs := [(ptr k425 0), (Value.int .i64 2), (Value.slice (some ⟨b448, 0, none⟩) 1 1), (Value.string (bs []))]) ok55 ⟨(ev_hit hN rfl), ⟨rfl, ⟨(ev_hit hN rfl), ⟨rfl, trivial⟩⟩⟩⟩ (lk_conv (AskR (n := 2) (Rs := [[116]]) (x := []) (by omega) (by unfold MOk TOk; simp [st2, wf_i64, hjl, ha8, hb8]) (by unfold MSm; simp [st2]) (by decide) (Lr := b448) (Br := b448 + 1) (RdC.ofBx (sz := 1) (n := 1) hB450 rfl (by decide)) (by have := hB450.lt; omega) (fun y hy => Nat.lt_or_gt_of_ne (fun e => dj451 (e ▸ hy))) hl436) (A' := (Value.tuple #[(Value.int .i64 1), (Value.int .i64 0)])) (M2 := (st2 aL bL 2 [([116], bL)] [])) (by rw [ask2_v]; rfl) ask2_m) ?_
    rintro _ w453 ⟨E454, rfl, F452, hl452, hN452⟩
    have bd455 := hO420.lt
    have bd456 := hB450.lt
    have hl436_old := hl436
    have z_w453 := E454.size
    have hA := hA.keepG E454 (fun k hk => .inr (by have := hl436_old.lt k hk; omega))
    have hB := hB.keepG E454 (fun k hk => .inr (by have := hl436_old.lt k hk; omega))
    have hO420 := hO420.keepG E454 dj440
    have hB450 := hB450.keepG E454 dj451
    have hb := below_stepG hb E454 hb.size (fun k hk => (hl436_old.lt k hk).1)
    have dj457 : Dj (Bl v420) F452 := Dj.stepF hN452 (fun k hk => (bd455 k hk).2) dj440
    have dj458 : ¬ F452 b448 := ne_stepF hN452 bd456 dj451
    refine op_move (ev_hit hN rfl) ?_
    refine op_extract (ev_hit hN rfl) rfl ?_
    refine op_extract (ev_hit hN rfl) rfl ?_
    refine op_assign (ev_hit hN rfl) ?_
    refine op_assign (ev_hit hN rfl) ?_
    refine reg_nil ?_
    refine hK446 _ _ ?_
    refine seq_any fun K459 hK459 => ?_
    refine seq_any fun K460 hK460 => ?_
    refine one_reg ?_
    refine op_move (ev_base hN rfl s4) ?_
    refine op_move (ev_hit hN rfl) ?_
    refine g_false (j := 1) (dj := 62) (b := true) rfl rfl rfl (ev_hit hN rfl) rfl rfl ?_
    refine g_false (j := 1) (dj := 62) (b := true) rfl rfl rfl (ev_hit hN rfl) rfl rfl ?_
    refine g_false (j := 1) (dj := 62) (b := true) rfl rfl rfl (ev_hit hN rfl) rfl rfl ?_
    refine g_false (j := 1) (dj := 62) (b := true) rfl rfl rfl (ev_hit hN rfl) rfl rfl ?_
    refine g_false (j := 1) (dj := 62) (b := true) rfl rfl rfl (ev_hit hN rfl) rfl rfl ?_
    refine g_false (j := 1) (dj := 62) (b := true) rfl rfl rfl (ev_hit hN rfl) rfl rfl ?_
    refine op_pick_f (ev_hit hN rfl) rfl ?_
    refine reg_nil ?_
    refine hK460 _ _ ?_
    refine wp_cond_false (ev_hit hN rfl) ?_
    refine wp_skip ?_
    refine hK459 _ _ ?_
    refine seq_any fun K461 hK461 => ?_
    refine seq_any fun K462 hK462 => ?_
    refine one_reg ?_
    refine op_move (ev_base hN rfl s3) ?_
    refine reg_nil ?_
    refine hK462 _ _ ?_
    refine wp_cond_true (ev_hit hN rfl) ?_
    refine seq_any fun K463 hK463 => ?_
    refine one_reg ?_
    refine op_move (ev_hit hN rfl) ?_
    refine op_fn (vs := [(ptr k425 0), (Value.int .i64 1), (Value.slice none 0 0), (Value.string (bs [116]))]) ok55 ⟨(ev_hit hN rfl), ⟨rfl, ⟨rfl, ⟨rfl, trivial⟩⟩⟩⟩ (lk_conv (AskR (n := 1) (Rs := ([] : List (List UInt8))) (x := ([116])) (by omega) (by unfold MOk TOk; simp [st2, wf_i64, hjl, ha8, hb8]) (by unfold MSm; simp [st2]) (by decide) (RdC.nil _ 0 0 _) (Nat.zero_le _) (fun _ _ => .inr (Nat.zero_le _)) hl452) (A' := (Value.tuple #[(Value.int .i64 1), (Value.int .i64 0)])) (M2 := (st2 aL bL 2 [([116], bL)] [[116]])) (by rw [(ask1_ok hok1).1]; rfl) (ask1_ok hok1).2) ?_
    rintro _ w465 ⟨E466, rfl, F464, hl464, hN464⟩
    have bd467 := hO420.lt
    have bd468 := hB450.lt
    have hl452_old := hl452
    have z_w465 := E466.size
    have hA := hA.keepG E466 (fun k hk => .inr (by have := hl452_old.lt k hk; omega))
    have hB := hB.keepG E466 (fun k hk => .inr (by have := hl452_old.lt k hk; omega))
    have hO420 := hO420.keepG E466 dj457
    have hB450 := hB450.keepG E466 dj458
    have hb := below_stepG hb E466 hb.size (fun k hk => (hl452_old.lt k hk).1)
    have dj469 : Dj (Bl v420) F464 := Dj.stepF hN464 (fun k hk => (bd467 k hk).2) dj457
    have dj470 : ¬ F464 b448 := ne_stepF hN464 bd468 dj458
    refine op_move (ev_hit hN rfl) ?_
    refine op_extract (ev_hit hN rfl) rfl ?_
    refine op_extract (ev_hit hN rfl) rfl ?_
    refine op_assign (ev_hit hN rfl) ?_
    refine op_assign (ev_hit hN rfl) ?_
    refine reg_nil ?_
    refine hK463 _ _ ?_
    refine seq_any fun K471 hK471 => ?_
    refine one_reg ?_
    refine op_move (ev_base hN rfl s4) ?_
    refine op_not (ev_hit hN rfl) ?_
    refine op_move (ev_hit hN rfl) ?_
    refine g_true (j := 2) (dj := 78) (b := true) rfl rfl rfl (ev_hit hN rfl) ?_
    refine op_move (ev_base hN rfl s0) ?_
    refine g_true (j := 2) (dj := 78) (b := true) rfl rfl rfl (ev_hit hN rfl) ?_
    refine op_move (ev_base hN rfl s1) ?_
    refine g_true (j := 2) (dj := 78) (b := true) rfl rfl rfl (ev_hit hN rfl) ?_
    refine op_fn (vs := [vA, vB]) ok34 ⟨(ev_hit hN rfl), ⟨(ev_hit hN rfl), trivial⟩⟩ (sameL_ret aL bL _ _ _ (by first | assumption | omega | (simp only [List.length_append, List.length_cons, List.length_nil, List.length_drop, List.length_take]; omega) | (dsimp only; omega) | decide | (simp [keyV, be8_len]; done)) (by first | assumption | omega | (simp only [List.length_append, List.length_cons, List.length_nil, List.length_drop, List.length_take]; omega) | (dsimp only; omega) | decide | (simp [keyV, be8_len]; done)) (show RdC w465 0 w465.heap.size 1 vA aL.length (aL.map u16v) from by have hh : RdC w465 0 w465.heap.size 1 _ _ _ := (hA.mono (L' := 0) (B' := w465.heap.size) (Nat.zero_le _) (by omega)); first | exact hh | exact hh.cast (by first | omega | (simp; try omega)) (by first | rfl | simp [u16v])) (show RdC w465 0 w465.heap.size 1 vB bL.length (bL.map u16v) from by have hh : RdC w465 0 w465.heap.size 1 _ _ _ := (hB.mono (L' := 0) (B' := w465.heap.size) (Nat.zero_le _) (by omega)); first | exact hh | exact hh.cast (by first | omega | (simp; try omega)) (by first | rfl | simp [u16v]))) ?_
    rintro _ w472 ⟨E473, rfl⟩
    have E473 := grown_of_below E473
    have z_w472 := E473.size
    have hA := hA.keep0 E473
    have hB := hB.keep0 E473
    have hO420 := hO420.keep0 E473
    have hB450 := hB450.keep0 E473
    have hl464 := hl464.keepG (Gr.of0 E473 NoB) (fun _ _ h => h)
    have hb := below_step0 hb E473 hb.size
    rcases Bool.eq_false_or_eq_true ((decide (aL = bL))) with c81 | c81
    · -- 81T
     exact absurd (of_decide_eq_true c81).symm hs
    · -- 81F
     rw [c81]
     refine op_pick_t (ev_hit hN rfl) (ev_hit hN rfl) ?_
     refine op_move (ev_hit hN rfl) ?_
     refine g_true (j := 7) (dj := 83) (b := false) rfl rfl rfl (ev_hit hN rfl) ?_
     refine op_move (ev_base hN rfl s4) ?_
     refine g_true (j := 7) (dj := 83) (b := false) rfl rfl rfl (ev_hit hN rfl) ?_
     refine op_move (ev_hit hN rfl) ?_
     refine g_false (j := 9) (dj := 85) (b := true) rfl rfl rfl (ev_hit hN rfl) rfl rfl ?_
     refine g_false (j := 9) (dj := 85) (b := true) rfl rfl rfl (ev_hit hN rfl) rfl rfl ?_
     refine g_false (j := 9) (dj := 85) (b := true) rfl rfl rfl (ev_hit hN rfl) rfl rfl ?_
     refine g_true (j := 7) (dj := 83) (b := false) rfl rfl rfl (ev_hit hN rfl) ?_
     refine op_pick_f (ev_hit hN rfl) rfl ?_
     refine op_pick_f (ev_hit hN rfl) (ev_hit hN rfl) ?_
     refine op_assign (ev_hit hN rfl) ?_
     refine reg_nil ?_
     refine hK471 _ _ ?_
     refine seq_any fun K474 hK474 => ?_
     refine seq_any fun K475 hK475 => ?_
     refine one_reg ?_
     refine op_move (ev_hit hN rfl) ?_
     refine op_move (ev_hit hN rfl) ?_
     refine g_false (j := 1) (dj := 92) (b := true) rfl rfl rfl (ev_hit hN rfl) rfl rfl ?_
     refine op_pick_f (ev_hit hN rfl) rfl ?_
     refine reg_nil ?_
     refine hK475 _ _ ?_
     refine wp_cond_false (ev_hit hN rfl) ?_
     refine wp_skip ?_
     refine hK474 _ _ ?_
     refine seq_any fun K476 hK476 => ?_
     refine one_reg ?_
     refine op_move (ev_hit hN rfl) ?_
     refine op_bin (v := .bool false) (ev_hit hN rfl) rfl (by rw [binOp_neq]; rfl) ?_
     refine reg_nil ?_
     refine hK476 _ _ ?_
     refine wp_cond_false (ev_hit hN rfl) ?_
     refine wp_skip ?_
     refine hK461 _ _ ?_
     refine seq_any fun K477 hK477 => ?_
     refine one_reg ?_
     refine op_move (ev_hit hN rfl) ?_
     refine op_fn (vs := [(ptr k425 0), (Value.int .i64 1)]) ok60 ⟨(ev_hit hN rfl), ⟨rfl, trivial⟩⟩ (CommitR' (n := 1) (L := ([] : List Int)) (M2 := ([(2, ⟨bL, 2, [([116], bL)], [], false⟩)] : TM)) (E2 := 0) (by omega) (by unfold MOk TOk; simp [st2, wf_i64, hjl, ha8, hb8]) hl464 (com1_l.trans (by rw [hdm]; rfl)) (com1_m.trans (by rw [hdm])) rfl) ?_
     rintro _ w479 ⟨E480, v478, rfl, hO478, F478, hl478, hN478, hd478⟩
     have bd481 := hO420.lt
     have bd482 := hB450.lt
     have hl464_old := hl464
     have z_w479 := E480.size
     have hA := hA.keepG E480 (fun k hk => .inr (by have := hl464_old.lt k hk; omega))
     have hB := hB.keepG E480 (fun k hk => .inr (by have := hl464_old.lt k hk; omega))
     have hO420 := hO420.keepG E480 dj469
     have hB450 := hB450.keepG E480 dj470
     have hb := below_stepG hb E480 hb.size (fun k hk => (hl464_old.lt k hk).1)
     have dj483 : Dj (Bl v420) F478 := Dj.stepF hN478 (fun k hk => (bd481 k hk).2) dj469
     have dj484 : ¬ F478 b448 := ne_stepF hN478 bd482 dj470
     have hO478 := hO478.mono (base' := w.heap.size) (by omega)
     have hl478 : LocksR w479 w.heap.size k425 ([(2, ⟨bL, 2, [([116], bL)], [], false⟩)] : TM) F478 := hl478
     refine op_move (ev_hit hN rfl) ?_
     refine op_extract (ev_hit hN rfl) rfl ?_
     refine op_extract (ev_hit hN rfl) rfl ?_
     refine op_assign (ev_hit hN rfl) ?_
     refine op_assign (ev_hit hN rfl) ?_
     refine reg_nil ?_
     refine hK477 _ _ ?_
     refine seq_any fun K485 hK485 => ?_
     refine one_reg ?_
     refine op_move (ev_base hN rfl s1) ?_
     refine op_assign (ev_hit hN rfl) ?_
     refine reg_nil ?_
     refine hK485 _ _ ?_
     refine seq_any fun K486 hK486 => ?_
     refine seq_any fun K487 hK487 => ?_
     refine one_reg ?_
     refine op_move (ev_base hN rfl s4) ?_
     refine reg_nil ?_
     refine hK487 _ _ ?_
     refine wp_cond_false (ev_hit hN rfl) ?_
     refine wp_skip ?_
     refine hK486 _ _ ?_
     refine seq_any fun K488 hK488 => ?_
     refine one_reg ?_
     refine op_move (ev_base hN rfl s2) ?_
     refine op_move (ev_hit hN rfl) ?_
     refine g_true (j := 1) (dj := 114) (b := true) rfl rfl rfl (ev_hit hN rfl) ?_
     refine op_move (ev_base hN rfl s3) ?_
     refine op_pick_t (ev_hit hN rfl) (ev_hit hN rfl) ?_
     refine op_move (ev_hit hN rfl) ?_
     refine g_true (j := 4) (dj := 117) (b := true) rfl rfl rfl (ev_hit hN rfl) ?_
     refine op_move (ev_base hN rfl s0) ?_
     refine g_true (j := 4) (dj := 117) (b := true) rfl rfl rfl (ev_hit hN rfl) ?_
     refine op_move (ev_hit hN rfl) ?_
     refine g_true (j := 4) (dj := 117) (b := true) rfl rfl rfl (ev_hit hN rfl) ?_
     refine op_fn (vs := [vA, vB]) ok61 ⟨(ev_hit hN rfl), ⟨(ev_hit hN rfl), trivial⟩⟩ (raboveW_ret aL bL _ _ _ (by first | assumption | omega | (simp only [List.length_append, List.length_cons, List.length_nil, List.length_drop, List.length_take]; omega) | (dsimp only; omega) | decide | (simp [keyV, be8_len]; done)) (by first | assumption | omega | (simp only [List.length_append, List.length_cons, List.length_nil, List.length_drop, List.length_take]; omega) | (dsimp only; omega) | decide | (simp [keyV, be8_len]; done)) (show RdC w479 0 w479.heap.size 1 vA aL.length (aL.map u16v) from by have hh : RdC w479 0 w479.heap.size 1 _ _ _ := (hA.mono (L' := 0) (B' := w479.heap.size) (Nat.zero_le _) (by omega)); first | exact hh | exact hh.cast (by first | omega | (simp; try omega)) (by first | rfl | simp [u16v])) (show RdC w479 0 w479.heap.size 1 vB bL.length (bL.map u16v) from by have hh : RdC w479 0 w479.heap.size 1 _ _ _ := (hB.mono (L' := 0) (B' := w479.heap.size) (Nat.zero_le _) (by omega)); first | exact hh | exact hh.cast (by first | omega | (simp; try omega)) (by first | rfl | simp [u16v]))) ?_
     rintro _ w489 ⟨E490, rfl⟩
     have E490 := grown_of_below E490
     have z_w489 := E490.size
     have hA := hA.keep0 E490
     have hB := hB.keep0 E490
     have hO420 := hO420.keep0 E490
     have hB450 := hB450.keep0 E490
     have hl478 := hl478.keepG (Gr.of0 E490 NoB) (fun _ _ h => h)
     have hO478 := hO478.keep0 E490
     have hb := below_step0 hb E490 hb.size
     rcases Bool.eq_false_or_eq_true ((flowsL aL bL && !decide (aL = bL))) with c120 | c120
     · -- 120T
      simp [hf] at c120
     · -- 120F
      rw [c120]
      refine op_pick_t (ev_hit hN rfl) (ev_hit hN rfl) ?_
      refine op_assign (ev_hit hN rfl) ?_
      refine reg_nil ?_
      refine hK488 _ _ ?_
      refine seq_any fun K491 hK491 => ?_
      refine one_reg ?_
      refine op_move (ev_hit hN rfl) ?_
      refine op_bin (v := .bool true) (ev_hit hN rfl) rfl (by rw [binOp_eql]; rfl) ?_
      refine op_move (ev_hit hN rfl) ?_
      refine g_true (j := 2) (dj := 124) (b := true) rfl rfl rfl (ev_hit hN rfl) ?_
      refine op_move (ev_hit hN rfl) ?_
      refine g_true (j := 2) (dj := 124) (b := true) rfl rfl rfl (ev_hit hN rfl) ?_
      refine op_bin (v := .bool true) (ev_hit hN rfl) rfl (by rw [binOp_eql]; rfl) ?_
      refine op_pick_t (ev_hit hN rfl) (ev_hit hN rfl) ?_
      refine op_move (ev_hit hN rfl) ?_
      refine g_true (j := 6) (dj := 128) (b := true) rfl rfl rfl (ev_hit hN rfl) ?_
      refine op_move (ev_hit hN rfl) ?_
      refine g_true (j := 6) (dj := 128) (b := true) rfl rfl rfl (ev_hit hN rfl) ?_
      refine op_fn (vs := [(ptr k425 0), (Value.int .i64 2)]) ok62 ⟨(ev_hit hN rfl), ⟨rfl, trivial⟩⟩ (DoomedR' (n := 2) hl478 rfl) ?_
      rintro _ w492 ⟨E493, rfl⟩
      have E493 := grown_of_below E493
      have z_w492 := E493.size
      have hA := hA.keep0 E493
      have hB := hB.keep0 E493
      have hO420 := hO420.keep0 E493
      have hB450 := hB450.keep0 E493
      have hl478 := hl478.keepG (Gr.of0 E493 NoB) (fun _ _ h => h)
      have hO478 := hO478.keep0 E493
      have hb := below_step0 hb E493 hb.size
      refine g_true (j := 6) (dj := 128) (b := true) rfl rfl rfl (ev_hit hN rfl) ?_
      refine op_move (ev_hit hN rfl) ?_
      refine g_true (j := 6) (dj := 128) (b := true) rfl rfl rfl (ev_hit hN rfl) ?_
      refine op_eqb Try.underlying4 (ev_hit hN rfl) (ev_hit hN rfl) ?_
      refine op_pick_t (ev_hit hN rfl) (ev_hit hN rfl) ?_
      refine op_move (ev_hit hN rfl) ?_
      refine g_true (j := 12) (dj := 134) (b := true) rfl rfl rfl (ev_hit hN rfl) ?_
      refine op_move (ev_hit hN rfl) ?_
      refine g_true (j := 12) (dj := 134) (b := true) rfl rfl rfl (ev_hit hN rfl) ?_
      refine op_len_rd Try.underlying35 (ev_hit hN rfl) hO478.rdw ?_
      refine g_true (j := 12) (dj := 134) (b := true) rfl rfl rfl (ev_hit hN rfl) ?_
      refine op_eql (ev_hit hN rfl) rfl (fun c137 => ?_) (fun c137 => ?_)
      · -- 137T
       exact absurd c137 (by simp)
      · -- 137F
       refine g_true (j := 12) (dj := 134) (b := true) rfl rfl rfl (ev_hit hN rfl) ?_
       refine op_move (ev_hit hN rfl) ?_
       refine g_true (j := 12) (dj := 134) (b := true) rfl rfl rfl (ev_hit hN rfl) ?_
       refine op_eqb Try.underlying4 (ev_hit hN rfl) (ev_hit hN rfl) ?_
       refine op_pick_t (ev_hit hN rfl) (ev_hit hN rfl) ?_
       refine op_assign (ev_hit hN rfl) ?_
       refine reg_nil ?_
       refine hK491 _ _ ?_
       refine wp_ret ?_
       refine ret1 rfl hd (ev_hit hN rfl) ⟨_, rfl, ?_⟩
       -- path 25T 29T 37F 81F 120F 137F
       exact ⟨hb, rfl⟩
  · -- 29F
   rw [c29]
   refine g_true (j := 3) (dj := 27) (b := false) rfl rfl rfl (ev_hit hN rfl) ?_
   refine op_not (ev_hit hN rfl) ?_
   refine op_pick_f (ev_hit hN rfl) (ev_hit hN rfl) ?_
   refine op_move (ev_hit hN rfl) ?_
   skip
   refine g_false (j := 8) (dj := 32) (b := false) rfl rfl rfl (ev_hit hN rfl) rfl rfl ?_
   refine g_false (j := 8) (dj := 32) (b := false) rfl rfl rfl (ev_hit hN rfl) rfl rfl ?_
   refine g_false (j := 8) (dj := 32) (b := false) rfl rfl rfl (ev_hit hN rfl) rfl rfl ?_
   refine g_false (j := 8) (dj := 32) (b := false) rfl rfl rfl (ev_hit hN rfl) rfl rfl ?_
   refine g_false (j := 8) (dj := 32) (b := false) rfl rfl rfl (ev_hit hN rfl) rfl rfl ?_
   refine op_pick_t (ev_hit hN rfl) rfl ?_
   refine reg_nil ?_
   refine hK415 _ _ ?_
   refine wp_cond_true (ev_hit hN rfl) ?_
   refine seq_any fun K494 hK494 => ?_
   refine one_reg ?_
   refine op_assign rfl ?_
   refine reg_nil ?_
   refine hK494 _ _ ?_
   refine wp_ret (then_ret ( ?_))
   refine ret1 rfl hd (ev_hit hN rfl) ⟨_, rfl, ?_⟩
   -- path 25T 29F
   exact ⟨hb, rfl⟩
 · -- 25F
  rw [c25]
  refine op_not (ev_hit hN rfl) ?_
  refine op_move (ev_hit hN rfl) ?_
  refine g_false (j := 3) (dj := 27) (b := false) rfl rfl rfl (ev_hit hN rfl) rfl rfl ?_
  refine g_false (j := 3) (dj := 27) (b := false) rfl rfl rfl (ev_hit hN rfl) rfl rfl ?_
  refine g_false (j := 3) (dj := 27) (b := false) rfl rfl rfl (ev_hit hN rfl) rfl rfl ?_
  refine op_pick_t (ev_hit hN rfl) rfl ?_
  refine op_move (ev_hit hN rfl) ?_
  skip
  refine g_false (j := 8) (dj := 32) (b := false) rfl rfl rfl (ev_hit hN rfl) rfl rfl ?_
  refine g_false (j := 8) (dj := 32) (b := false) rfl rfl rfl (ev_hit hN rfl) rfl rfl ?_
  refine g_false (j := 8) (dj := 32) (b := false) rfl rfl rfl (ev_hit hN rfl) rfl rfl ?_
  refine g_false (j := 8) (dj := 32) (b := false) rfl rfl rfl (ev_hit hN rfl) rfl rfl ?_
  refine g_false (j := 8) (dj := 32) (b := false) rfl rfl rfl (ev_hit hN rfl) rfl rfl ?_
  refine op_pick_t (ev_hit hN rfl) rfl ?_
  refine reg_nil ?_
  refine hK415 _ _ ?_
  refine wp_cond_true (ev_hit hN rfl) ?_
  refine seq_any fun K495 hK495 => ?_
  refine one_reg ?_
  refine op_assign rfl ?_
  refine reg_nil ?_
  refine hK495 _ _ ?_
  refine wp_ret (then_ret ( ?_))
  refine ret1 rfl hd (ev_hit hN rfl) ⟨_, rfl, ?_⟩
  -- path 25F
  exact ⟨hb, rfl⟩

end Go.Proofs.Ytmhdbphpmgjpcaa
