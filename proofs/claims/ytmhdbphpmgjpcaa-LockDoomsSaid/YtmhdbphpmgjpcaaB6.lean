/- Walks, written by a program: what each function of the translation hands back. -/
import Derived.Test.YtmhdbphpmgjpcaaProg
import Derived.KernelRfl
import Derived.Test.YtmhdbphpmgjpcaaB5
namespace Go.Proofs.Ytmhdbphpmgjpcaa
open Go.Gx Go.RowKit
attribute [local irreducible] wpList wpStill Code.wp Calls

theorem LockDooms_tff_any (aL bL : List UInt16) (vA vB : Value) (w : World) (hal : aL.length ≤ 9223372036854775807) (hbl : bL.length ≤ 9223372036854775807) (hA : RdC w 0 w.heap.size 1 vA aL.length (aL.map u16v)) (hB : RdC w 0 w.heap.size 1 vB bL.length (bL.map u16v)) : Ret Try.prog 13 #[vA, vB, (Value.bool false), (Value.bool false), (Value.bool true)] w (fun v' w' => Below w.heap.size w w' ∧ v' = .bool true) := by
 have hb := Below.refl w.heap.size w
 refine enter (N := 141) Try.func13 rfl rfl (by simp) fun a0 hN hd hA => ?_
 have s0 : a0.tmps.getD 0 undef = vA := hA 0 (by simp)
 have s1 : a0.tmps.getD 1 undef = vB := hA 1 (by simp)
 have s2 : a0.tmps.getD 2 undef = (Value.bool false) := hA 2 (by simp)
 have s3 : a0.tmps.getD 3 undef = (Value.bool false) := hA 3 (by simp)
 have s4 : a0.tmps.getD 4 undef = (Value.bool true) := hA 4 (by simp)
 clear hA
 refine seq_any fun K496 hK496 => ?_
 refine one_reg ?_
 refine op_assign rfl ?_
 refine reg_nil ?_
 refine hK496 _ _ ?_
 refine seq_any fun K497 hK497 => ?_
 refine seq_any fun K498 hK498 => ?_
 refine one_reg ?_
 refine op_fn (vs := []) ok52 trivial (begun19_ret _) ?_
 rintro _ w499 ⟨E500, rfl⟩
 have E500 := grown_of_below E500
 have z_w499 := E500.size
 have hA := hA.keep0 E500
 have hB := hB.keep0 E500
 have hb := below_step0 hb E500 hb.size
 refine op_not (ev_hit hN rfl) ?_
 refine reg_nil ?_
 refine hK498 _ _ ?_
 refine wp_cond_false (ev_hit hN rfl) ?_
 refine wp_skip ?_
 refine hK497 _ _ ?_
 refine seq_any fun K501 hK501 => ?_
 refine seq_any fun K502 hK502 => ?_
 refine one_reg ?_
 refine op_move (ev_base hN rfl s0) ?_
 refine op_fn (vs := [vA]) ok33 ⟨(ev_hit hN rfl), trivial⟩ (refMay_ret aL _ _ (by first | assumption | omega | (simp only [List.length_append, List.length_cons, List.length_nil, List.length_drop, List.length_take]; omega) | (dsimp only; omega) | decide | (simp [keyV, be8_len]; done)) (show RdC w499 0 w499.heap.size 1 vA aL.length (aL.map u16v) from by have hh : RdC w499 0 w499.heap.size 1 _ _ _ := (hA.mono (L' := 0) (B' := w499.heap.size) (Nat.zero_le _) (by omega)); first | exact hh | exact hh.cast (by first | omega | (simp; try omega)) (by first | rfl | simp [u16v]))) ?_
 rintro _ w503 ⟨E504, rfl⟩
 have E504 := grown_of_below E504
 have z_w503 := E504.size
 have hA := hA.keep0 E504
 have hB := hB.keep0 E504
 have hb := below_step0 hb E504 hb.size
 rcases Bool.eq_false_or_eq_true ((mayL aL)) with c25 | c25
 · -- 25T
  rw [c25]
  refine op_not (ev_hit hN rfl) ?_
  refine op_move (ev_hit hN rfl) ?_
  refine g_true (j := 3) (dj := 27) (b := false) rfl rfl rfl (ev_hit hN rfl) ?_
  refine op_move (ev_base hN rfl s1) ?_
  refine g_true (j := 3) (dj := 27) (b := false) rfl rfl rfl (ev_hit hN rfl) ?_
  refine op_fn (vs := [vB]) ok33 ⟨(ev_hit hN rfl), trivial⟩ (refMay_ret bL _ _ (by first | assumption | omega | (simp only [List.length_append, List.length_cons, List.length_nil, List.length_drop, List.length_take]; omega) | (dsimp only; omega) | decide | (simp [keyV, be8_len]; done)) (show RdC w503 0 w503.heap.size 1 vB bL.length (bL.map u16v) from by have hh : RdC w503 0 w503.heap.size 1 _ _ _ := (hB.mono (L' := 0) (B' := w503.heap.size) (Nat.zero_le _) (by omega)); first | exact hh | exact hh.cast (by first | omega | (simp; try omega)) (by first | rfl | simp [u16v]))) ?_
  rintro _ w505 ⟨E506, rfl⟩
  have E506 := grown_of_below E506
  have z_w505 := E506.size
  have hA := hA.keep0 E506
  have hB := hB.keep0 E506
  have hb := below_step0 hb E506 hb.size
  rcases Bool.eq_false_or_eq_true ((mayL bL)) with c29 | c29
  · -- 29T
   rw [c29]
   refine g_true (j := 3) (dj := 27) (b := false) rfl rfl rfl (ev_hit hN rfl) ?_
   refine op_not (ev_hit hN rfl) ?_
   refine op_pick_f (ev_hit hN rfl) (ev_hit hN rfl) ?_
   refine op_move (ev_hit hN rfl) ?_
   have ha8 := mayL_len c25
   have hb8 := mayL_len c29
   refine g_true (j := 8) (dj := 32) (b := false) rfl rfl rfl (ev_hit hN rfl) ?_
   refine op_move (ev_base hN rfl s0) ?_
   refine g_true (j := 8) (dj := 32) (b := false) rfl rfl rfl (ev_hit hN rfl) ?_
   refine op_move (ev_base hN rfl s1) ?_
   refine g_true (j := 8) (dj := 32) (b := false) rfl rfl rfl (ev_hit hN rfl) ?_
   refine op_fn (vs := [vA, vB]) ok51 ⟨(ev_hit hN rfl), ⟨(ev_hit hN rfl), trivial⟩⟩ (rjoinW_ret aL bL _ _ _ (by first | assumption | omega | (simp only [List.length_append, List.length_cons, List.length_nil, List.length_drop, List.length_take]; omega) | (dsimp only; omega) | decide | (simp [keyV, be8_len]; done)) (by first | assumption | omega | (simp only [List.length_append, List.length_cons, List.length_nil, List.length_drop, List.length_take]; omega) | (dsimp only; omega) | decide | (simp [keyV, be8_len]; done)) (show RdC w505 0 w505.heap.size 1 vA aL.length (aL.map u16v) from by have hh : RdC w505 0 w505.heap.size 1 _ _ _ := (hA.mono (L' := 0) (B' := w505.heap.size) (Nat.zero_le _) (by omega)); first | exact hh | exact hh.cast (by first | omega | (simp; try omega)) (by first | rfl | simp [u16v])) (show RdC w505 0 w505.heap.size 1 vB bL.length (bL.map u16v) from by have hh : RdC w505 0 w505.heap.size 1 _ _ _ := (hB.mono (L' := 0) (B' := w505.heap.size) (Nat.zero_le _) (by omega)); first | exact hh | exact hh.cast (by first | omega | (simp; try omega)) (by first | rfl | simp [u16v]))) ?_
   rintro v507 w508 ⟨E509, hO507⟩
   have E509 := grown_of_below E509
   have z_w508 := E509.size
   have hA := hA.keep0 E509
   have hB := hB.keep0 E509
   have hb := below_step0 hb E509 hb.size
   have hO507 := hO507.mono (base' := w.heap.size) (by omega)
   refine g_true (j := 8) (dj := 32) (b := false) rfl rfl rfl (ev_hit hN rfl) ?_
   refine op_len_rd Try.underlying54 (ev_hit hN rfl) hO507.rdw ?_
   refine g_true (j := 8) (dj := 32) (b := false) rfl rfl rfl (ev_hit hN rfl) ?_
   refine op_gtr (ev_hit hN rfl) rfl (fun c37 => ?_) (fun c37 => ?_)
   · -- 37T
    refine op_pick_f (ev_hit hN rfl) (ev_hit hN rfl) ?_
    refine reg_nil ?_
    refine hK502 _ _ ?_
    refine wp_cond_true (ev_hit hN rfl) ?_
    refine seq_any fun K510 hK510 => ?_
    refine one_reg ?_
    refine op_assign rfl ?_
    refine reg_nil ?_
    refine hK510 _ _ ?_
    refine wp_ret (then_ret ( ?_))
    refine ret1 rfl hd (ev_hit hN rfl) ⟨_, rfl, ?_⟩
    -- path 25T 29T 37T
    exact ⟨hb, rfl⟩
   · -- 37F
    refine op_pick_f (ev_hit hN rfl) (ev_hit hN rfl) ?_
    refine reg_nil ?_
    refine hK502 _ _ ?_
    refine wp_cond_false (ev_hit hN rfl) ?_
    refine wp_skip ?_
    refine hK501 _ _ ?_
    refine seq_any fun K511 hK511 => ?_
    refine one_reg ?_
    have hjl : (joinL aL bL).length ≤ 8 := by omega
    skip
    have hfj : flowsL aL (joinL aL bL) = true := flows_joinl
    have hrf : flowsL aL aL = true := flows_refl
    have hdm : dmB aL (joinL aL bL) aL [117] [] = false := by simp [dmB, hfj, hrf]
    refine op_fn (vs := []) ok53 trivial (lockNewR) ?_
    rintro _ w513 ⟨E514, k512, F512, rfl, hl512⟩
    have lo_F512 : ∀ x, F512 x → w508.heap.size ≤ x := fun x hx => (hl512.lt x hx).1
    have dj515 : Dj (Bl v507) F512 := Dj.fresh (fun k hk => (hO507.lt k hk).2) lo_F512
    have E514 := grown_of_below E514
    have z_w513 := E514.size
    have hA := hA.keep0 E514
    have hB := hB.keep0 E514
    have hO507 := hO507.keep0 E514
    have hb := below_step0 hb E514 hb.size
    have hl512 : LocksR w513 w.heap.size k512 ([] : TM) F512 := hl512.mono (by omega)
    refine op_assign (ev_hit hN rfl) ?_
    refine reg_nil ?_
    refine hK511 _ _ ?_
    refine seq_any fun K516 hK516 => ?_
    refine one_reg ?_
    refine op_move (ev_hit hN rfl) ?_
    refine op_move (ev_base hN rfl s0) ?_
    refine op_fn (vs := [(ptr k512 0), (Value.int .i64 1), vA, (Value.int .u64 1)]) ok54 ⟨(ev_hit hN rfl), ⟨rfl, ⟨(ev_hit hN rfl), ⟨rfl, trivial⟩⟩⟩⟩ (lk_conv (EnterR (n := 1) (s := 1) (l := aL) (by omega) (lo := w.heap.size) hA (Nat.le_refl _) (by first | decide | omega) hl512) (A' := (Value.int .i64 0)) (M2 := ([(1, (⟨aL, 1, [], [], false⟩ : TX))] : TM)) (by rfl) (by rfl)) ?_
    rintro _ w518 ⟨E519, rfl, F517, hl517, hN517⟩
    have bd520 := hO507.lt
    have hl512_old := hl512
    have z_w518 := E519.size
    have hA := hA.keepG E519 (fun k hk => .inr (by have := hl512_old.lt k hk; omega))
    have hB := hB.keepG E519 (fun k hk => .inr (by have := hl512_old.lt k hk; omega))
    have hO507 := hO507.keepG E519 dj515
    have hb := below_stepG hb E519 hb.size (fun k hk => (hl512_old.lt k hk).1)
    have dj521 : Dj (Bl v507) F517 := Dj.stepF hN517 (fun k hk => (bd520 k hk).2) dj515
    refine reg_nil ?_
    refine hK516 _ _ ?_
    refine seq_any fun K522 hK522 => ?_
    refine one_reg ?_
    refine op_move (ev_hit hN rfl) ?_
    refine op_move (ev_base hN rfl s1) ?_
    refine op_fn (vs := [(ptr k512 0), (Value.int .i64 2), vB, (Value.int .u64 2)]) ok54 ⟨(ev_hit hN rfl), ⟨rfl, ⟨(ev_hit hN rfl), ⟨rfl, trivial⟩⟩⟩⟩ (lk_conv (EnterR (n := 2) (s := 2) (l := bL) (by omega) (lo := w.heap.size) hB (Nat.le_refl _) (by first | decide | omega) hl517) (A' := (Value.int .i64 0)) (M2 := (st2 aL bL 2 [] [])) (by rfl) (by rfl)) ?_
    rintro _ w524 ⟨E525, rfl, F523, hl523, hN523⟩
    have bd526 := hO507.lt
    have hl517_old := hl517
    have z_w524 := E525.size
    have hA := hA.keepG E525 (fun k hk => .inr (by have := hl517_old.lt k hk; omega))
    have hB := hB.keepG E525 (fun k hk => .inr (by have := hl517_old.lt k hk; omega))
    have hO507 := hO507.keepG E525 dj521
    have hb := below_stepG hb E525 hb.size (fun k hk => (hl517_old.lt k hk).1)
    have dj527 : Dj (Bl v507) F523 := Dj.stepF hN523 (fun k hk => (bd526 k hk).2) dj521
    refine reg_nil ?_
    refine hK522 _ _ ?_
    refine seq_any fun K528 hK528 => ?_
    refine seq_any fun K529 hK529 => ?_
    refine one_reg ?_
    refine op_move (ev_base hN rfl s4) ?_
    refine reg_nil ?_
    refine hK529 _ _ ?_
    refine wp_cond_true (ev_hit hN rfl) ?_
    refine seq_any fun K530 hK530 => ?_
    refine one_reg ?_
    refine op_move (ev_hit hN rfl) ?_
    refine op_fn (vs := [(ptr k512 0), (Value.int .i64 2)]) ok57 ⟨(ev_hit hN rfl), ⟨rfl, trivial⟩⟩ (lk_conv (LeaveR (n := 2) (by omega) hl523) (A' := (Value.int .i64 0)) (M2 := ([(1, (⟨aL, 1, [], [], false⟩ : TX))] : TM)) (by rfl) (by rfl)) ?_
    rintro _ w532 ⟨E533, rfl, F531, hl531, hN531⟩
    have bd534 := hO507.lt
    have hl523_old := hl523
    have z_w532 := E533.size
    have hA := hA.keepG E533 (fun k hk => .inr (by have := hl523_old.lt k hk; omega))
    have hB := hB.keepG E533 (fun k hk => .inr (by have := hl523_old.lt k hk; omega))
    have hO507 := hO507.keepG E533 dj527
    have hb := below_stepG hb E533 hb.size (fun k hk => (hl523_old.lt k hk).1)
    have dj535 : Dj (Bl v507) F531 := Dj.stepF hN531 (fun k hk => (bd534 k hk).2) dj527
    refine reg_nil ?_
    refine hK530 _ _ ?_
    refine one_reg ?_
    refine op_move (ev_hit hN rfl) ?_
    refine op_move (ev_base hN rfl s0) ?_
    refine op_fn (vs := [(ptr k512 0), (Value.int .i64 2), vA, (Value.int .u64 2)]) ok54 ⟨(ev_hit hN rfl), ⟨rfl, ⟨(ev_hit hN rfl), ⟨rfl, trivial⟩⟩⟩⟩ (lk_conv (EnterR (n := 2) (s := 2) (l := aL) (by omega) (lo := w.heap.size) hA (Nat.le_refl _) (by first | decide | omega) hl531) (A' := (Value.int .i64 0)) (M2 := (st2 aL aL 2 [] [])) (by rfl) (by rfl)) ?_
    rintro _ w537 ⟨E538, rfl, F536, hl536, hN536⟩
    have bd539 := hO507.lt
    have hl531_old := hl531
    have z_w537 := E538.size
    have hA := hA.keepG E538 (fun k hk => .inr (by have := hl531_old.lt k hk; omega))
    have hB := hB.keepG E538 (fun k hk => .inr (by have := hl531_old.lt k hk; omega))
    have hO507 := hO507.keepG E538 dj535
    have hb := below_stepG hb E538 hb.size (fun k hk => (hl531_old.lt k hk).1)
    have dj540 : Dj (Bl v507) F536 := Dj.stepF hN536 (fun k hk => (bd539 k hk).2) dj535
    refine reg_nil ?_
    refine hK528 _ _ ?_
    refine seq_any fun K541 hK541 => ?_
    refine one_reg ?_
    refine op_assign rfl ?_
    refine reg_nil ?_
    refine hK541 _ _ ?_
    refine seq_any fun K542 hK542 => ?_
    refine seq_any fun K543 hK543 => ?_
    refine one_reg ?_
    refine op_move (ev_base hN rfl s2) ?_
    refine op_not (ev_hit hN rfl) ?_
    refine reg_nil ?_
    refine hK543 _ _ ?_
    refine wp_cond_true (ev_hit hN rfl) ?_
    refine one_reg ?_
    refine op_assign rfl ?_
    refine reg_nil ?_
    refine hK542 _ _ ?_
    refine seq_any fun K544 hK544 => ?_
    refine one_reg ?_
    refine op_move (ev_hit hN rfl) ?_
    refine op_move (ev_hit hN rfl) ?_
    refine op_bslice (e := 9) (pv := [(0, (Value.string (bs [117])))]) (cs := [(Value.string (bs [117]))]) ⟨rfl, (ev_hit hN rfl), trivial⟩ (by kernel_rfl) ?_
    intro w545 b546 lo_b546 hi_b546 hB548 E547
    have dj549 : ¬ F536 b546 := fun hf => by have := (hl536.lt _ hf).2; omega
    have z_w545 := E547.size
    have hA := hA.keep0 E547
    have hB := hB.keep0 E547
    have hO507 := hO507.keep0 E547
    have hl536 := hl536.keepG (Gr.of0 E547 NoB) (fun _ _ h => h)
    have hb := below_step0 hb E547 hb.size
    refine op_fn (vs := [(ptr k512 0), (Value.int .i64 2), (Value.slice (some ⟨b546, 0, none⟩) 1 1), (Value.string (bs []))]) ok55 ⟨(ev_hit hN rfl), ⟨rfl, ⟨(ev_hit hN rfl), ⟨rfl, trivial⟩⟩⟩⟩ (lk_conv (AskR (n := 2) (Rs := [[117]]) (x := []) (by omega) (by unfold MOk TOk; simp [st2, wf_i64, hjl, ha8, hb8]) (by unfold MSm; simp [st2]) (by decide) (Lr := b546) (Br := b546 + 1) (RdC.ofBx (sz := 1) (n := 1) hB548 rfl (by decide)) (by have := hB548.lt; omega) (fun y hy => Nat.lt_or_gt_of_ne (fun e => dj549 (e ▸ hy))) hl536) (A' := (Value.tuple #[(Value.int .i64 1), (Value.int .i64 0)])) (M2 := (st2 aL aL 2 [([117], aL)] [])) (by rw [ask2_v]; rfl) ask2_m) ?_
    rintro _ w551 ⟨E552, rfl, F550, hl550, hN550⟩
    have bd553 := hO507.lt
    have bd554 := hB548.lt
    have hl536_old := hl536
    have z_w551 := E552.size
    have hA := hA.keepG E552 (fun k hk => .inr (by have := hl536_old.lt k hk; omega))
    have hB := hB.keepG E552 (fun k hk => .inr (by have := hl536_old.lt k hk; omega))
    have hO507 := hO507.keepG E552 dj540
    have hB548 := hB548.keepG E552 dj549
    have hb := below_stepG hb E552 hb.size (fun k hk => (hl536_old.lt k hk).1)
    have dj555 : Dj (Bl v507) F550 := Dj.stepF hN550 (fun k hk => (bd553 k hk).2) dj540
    have dj556 : ¬ F550 b546 := ne_stepF hN550 bd554 dj549
    refine op_move (ev_hit hN rfl) ?_
    refine op_extract (ev_hit hN rfl) rfl ?_
    refine op_extract (ev_hit hN rfl) rfl ?_
    refine op_assign (ev_hit hN rfl) ?_
    refine op_assign (ev_hit hN rfl) ?_
    refine reg_nil ?_
    refine hK544 _ _ ?_
    refine seq_any fun K557 hK557 => ?_
    refine seq_any fun K558 hK558 => ?_
    refine one_reg ?_
    refine op_move (ev_base hN rfl s4) ?_
    refine op_move (ev_hit hN rfl) ?_
    refine g_true (j := 1) (dj := 62) (b := true) rfl rfl rfl (ev_hit hN rfl) ?_
    refine op_move (ev_hit hN rfl) ?_
    refine g_true (j := 1) (dj := 62) (b := true) rfl rfl rfl (ev_hit hN rfl) ?_
    refine op_move (ev_base hN rfl s0) ?_
    refine g_true (j := 1) (dj := 62) (b := true) rfl rfl rfl (ev_hit hN rfl) ?_
    refine op_move (ev_base hN rfl s1) ?_
    refine g_true (j := 1) (dj := 62) (b := true) rfl rfl rfl (ev_hit hN rfl) ?_
    refine op_fn (vs := [vA, vB]) ok51 ⟨(ev_hit hN rfl), ⟨(ev_hit hN rfl), trivial⟩⟩ (rjoinW_ret aL bL _ _ _ (by first | assumption | omega | (simp only [List.length_append, List.length_cons, List.length_nil, List.length_drop, List.length_take]; omega) | (dsimp only; omega) | decide | (simp [keyV, be8_len]; done)) (by first | assumption | omega | (simp only [List.length_append, List.length_cons, List.length_nil, List.length_drop, List.length_take]; omega) | (dsimp only; omega) | decide | (simp [keyV, be8_len]; done)) (show RdC w551 0 w551.heap.size 1 vA aL.length (aL.map u16v) from by have hh : RdC w551 0 w551.heap.size 1 _ _ _ := (hA.mono (L' := 0) (B' := w551.heap.size) (Nat.zero_le _) (by omega)); first | exact hh | exact hh.cast (by first | omega | (simp; try omega)) (by first | rfl | simp [u16v])) (show RdC w551 0 w551.heap.size 1 vB bL.length (bL.map u16v) from by have hh : RdC w551 0 w551.heap.size 1 _ _ _ := (hB.mono (L' := 0) (B' := w551.heap.size) (Nat.zero_le _) (by omega)); first | exact hh | exact hh.cast (by first | omega | (simp; try omega)) (by first | rfl | simp [u16v]))) ?_
    rintro v559 w560 ⟨E561, hO559⟩
    have dj562 : DJ v559 v507 := fun k hk hg => by have q1 := (hO559.lt k hk).1; have q2 := (hO507.lt k hg).2; omega
    have dj563 : Dj F550 (Bl v559) := Dj.fresh (fun k hk => (hl550.lt k hk).2) (fun k hk => (hO559.lt k hk).1)
    have E561 := grown_of_below E561
    have z_w560 := E561.size
    have hA := hA.keep0 E561
    have hB := hB.keep0 E561
    have hO507 := hO507.keep0 E561
    have hB548 := hB548.keep0 E561
    have hl550 := hl550.keepG (Gr.of0 E561 NoB) (fun _ _ h => h)
    have hb := below_step0 hb E561 hb.size
    have hO559 := hO559.mono (base' := w.heap.size) (by omega)
    refine g_true (j := 1) (dj := 62) (b := true) rfl rfl rfl (ev_hit hN rfl) ?_
    refine op_fn (vs := [(ptr k512 0), (Value.int .i64 2), v559, (Value.int .u64 3)]) ok59 ⟨(ev_hit hN rfl), ⟨rfl, ⟨(ev_hit hN rfl), ⟨rfl, trivial⟩⟩⟩⟩ (lk_conv (MoveR (n := 2) (s := 3) (l := (joinL aL bL)) (by omega) (hO559.rdw.mono (Nat.zero_le _) (by omega)) (by first | decide | omega) hl550) (A' := (Value.int .i64 0)) (M2 := (st2 aL (joinL aL bL) 3 [([117], aL)] [])) (by rfl) (by rfl)) ?_
    rintro _ w565 ⟨E566, rfl, F564, hl564, hN564⟩
    have bd567 := hO507.lt
    have bd568 := hB548.lt
    have bd569 := hO559.lt
    have hl550_old := hl550
    have z_w565 := E566.size
    have hA := hA.keepG E566 (fun k hk => .inr (by have := hl550_old.lt k hk; omega))
    have hB := hB.keepG E566 (fun k hk => .inr (by have := hl550_old.lt k hk; omega))
    have hO507 := hO507.keepG E566 dj555
    have hB548 := hB548.keepG E566 dj556
    have hO559 := hO559.keepG E566 dj563.symm
    have hb := below_stepG hb E566 hb.size (fun k hk => (hl550_old.lt k hk).1)
    have dj570 : Dj (Bl v507) F564 := Dj.stepF hN564 (fun k hk => (bd567 k hk).2) dj555
    have dj571 : ¬ F564 b546 := ne_stepF hN564 bd568 dj556
    have dj572 : Dj (Bl v559) F564 := Dj.stepF hN564 (fun k hk => (bd569 k hk).2) dj563.symm
    refine g_true (j := 1) (dj := 62) (b := true) rfl rfl rfl (ev_hit hN rfl) ?_
    refine op_bin (v := .bool false) (ev_hit hN rfl) rfl (by rw [binOp_neq]; rfl) ?_
    refine op_pick_t (ev_hit hN rfl) (ev_hit hN rfl) ?_
    refine reg_nil ?_
    refine hK558 _ _ ?_
    refine wp_cond_false (ev_hit hN rfl) ?_
    refine wp_skip ?_
    refine hK557 _ _ ?_
    refine seq_any fun K573 hK573 => ?_
    refine seq_any fun K574 hK574 => ?_
    refine one_reg ?_
    refine op_move (ev_base hN rfl s3) ?_
    refine reg_nil ?_
    refine hK574 _ _ ?_
    refine wp_cond_false (ev_hit hN rfl) ?_
    refine wp_skip ?_
    refine hK573 _ _ ?_
    refine seq_any fun K575 hK575 => ?_
    refine one_reg ?_
    refine op_move (ev_hit hN rfl) ?_
    refine op_fn (vs := [(ptr k512 0), (Value.int .i64 1)]) ok60 ⟨(ev_hit hN rfl), ⟨rfl, trivial⟩⟩ (CommitR' (n := 1) (L := ([] : List Int)) (M2 := ([(2, ⟨(joinL aL bL), 3, [([117], aL)], [], false⟩)] : TM)) (E2 := 0) (by omega) (by unfold MOk TOk; simp [st2, wf_i64, hjl, ha8, hb8]) hl564 (com1_l.trans (by rw [hdm]; rfl)) (com1_m.trans (by rw [hdm])) rfl) ?_
    rintro _ w577 ⟨E578, v576, rfl, hO576, F576, hl576, hN576, hd576⟩
    have bd579 := hO507.lt
    have bd580 := hB548.lt
    have bd581 := hO559.lt
    have hl564_old := hl564
    have z_w577 := E578.size
    have hA := hA.keepG E578 (fun k hk => .inr (by have := hl564_old.lt k hk; omega))
    have hB := hB.keepG E578 (fun k hk => .inr (by have := hl564_old.lt k hk; omega))
    have hO507 := hO507.keepG E578 dj570
    have hB548 := hB548.keepG E578 dj571
    have hO559 := hO559.keepG E578 dj572
    have hb := below_stepG hb E578 hb.size (fun k hk => (hl564_old.lt k hk).1)
    have dj582 : Dj (Bl v507) F576 := Dj.stepF hN576 (fun k hk => (bd579 k hk).2) dj570
    have dj583 : ¬ F576 b546 := ne_stepF hN576 bd580 dj571
    have dj584 : Dj (Bl v559) F576 := Dj.stepF hN576 (fun k hk => (bd581 k hk).2) dj572
    have hO576 := hO576.mono (base' := w.heap.size) (by omega)
    have hl576 : LocksR w577 w.heap.size k512 ([(2, ⟨(joinL aL bL), 3, [([117], aL)], [], false⟩)] : TM) F576 := hl576
    refine op_move (ev_hit hN rfl) ?_
    refine op_extract (ev_hit hN rfl) rfl ?_
    refine op_extract (ev_hit hN rfl) rfl ?_
    refine op_assign (ev_hit hN rfl) ?_
    refine op_assign (ev_hit hN rfl) ?_
    refine reg_nil ?_
    refine hK575 _ _ ?_
    refine seq_any fun K585 hK585 => ?_
    refine one_reg ?_
    refine op_move (ev_base hN rfl s1) ?_
    refine op_assign (ev_hit hN rfl) ?_
    refine reg_nil ?_
    refine hK585 _ _ ?_
    refine seq_any fun K586 hK586 => ?_
    refine seq_any fun K587 hK587 => ?_
    refine one_reg ?_
    refine op_move (ev_base hN rfl s4) ?_
    refine reg_nil ?_
    refine hK587 _ _ ?_
    refine wp_cond_true (ev_hit hN rfl) ?_
    refine one_reg ?_
    refine op_move (ev_base hN rfl s0) ?_
    refine op_move (ev_base hN rfl s1) ?_
    refine op_fn (vs := [vA, vB]) ok51 ⟨(ev_hit hN rfl), ⟨(ev_hit hN rfl), trivial⟩⟩ (rjoinW_ret aL bL _ _ _ (by first | assumption | omega | (simp only [List.length_append, List.length_cons, List.length_nil, List.length_drop, List.length_take]; omega) | (dsimp only; omega) | decide | (simp [keyV, be8_len]; done)) (by first | assumption | omega | (simp only [List.length_append, List.length_cons, List.length_nil, List.length_drop, List.length_take]; omega) | (dsimp only; omega) | decide | (simp [keyV, be8_len]; done)) (show RdC w577 0 w577.heap.size 1 vA aL.length (aL.map u16v) from by have hh : RdC w577 0 w577.heap.size 1 _ _ _ := (hA.mono (L' := 0) (B' := w577.heap.size) (Nat.zero_le _) (by omega)); first | exact hh | exact hh.cast (by first | omega | (simp; try omega)) (by first | rfl | simp [u16v])) (show RdC w577 0 w577.heap.size 1 vB bL.length (bL.map u16v) from by have hh : RdC w577 0 w577.heap.size 1 _ _ _ := (hB.mono (L' := 0) (B' := w577.heap.size) (Nat.zero_le _) (by omega)); first | exact hh | exact hh.cast (by first | omega | (simp; try omega)) (by first | rfl | simp [u16v]))) ?_
    rintro v588 w589 ⟨E590, hO588⟩
    have dj591 : DJ v588 v507 := fun k hk hg => by have q1 := (hO588.lt k hk).1; have q2 := (hO507.lt k hg).2; omega
    have dj592 : DJ v588 v559 := fun k hk hg => by have q1 := (hO588.lt k hk).1; have q2 := (hO559.lt k hg).2; omega
    have dj593 : Dj F576 (Bl v588) := Dj.fresh (fun k hk => (hl576.lt k hk).2) (fun k hk => (hO588.lt k hk).1)
    have E590 := grown_of_below E590
    have z_w589 := E590.size
    have hA := hA.keep0 E590
    have hB := hB.keep0 E590
    have hO507 := hO507.keep0 E590
    have hB548 := hB548.keep0 E590
    have hO559 := hO559.keep0 E590
    have hl576 := hl576.keepG (Gr.of0 E590 NoB) (fun _ _ h => h)
    have hO576 := hO576.keep0 E590
    have hb := below_step0 hb E590 hb.size
    have hO588 := hO588.mono (base' := w.heap.size) (by omega)
    refine op_assign (ev_hit hN rfl) ?_
    refine reg_nil ?_
    refine hK586 _ _ ?_
    refine seq_any fun K594 hK594 => ?_
    refine one_reg ?_
    refine op_move (ev_base hN rfl s2) ?_
    refine op_move (ev_hit hN rfl) ?_
    refine g_false (j := 1) (dj := 114) (b := true) rfl rfl rfl (ev_hit hN rfl) rfl rfl ?_
    refine op_pick_f (ev_hit hN rfl) rfl ?_
    refine op_move (ev_hit hN rfl) ?_
    refine g_false (j := 4) (dj := 117) (b := true) rfl rfl rfl (ev_hit hN rfl) rfl rfl ?_
    refine g_false (j := 4) (dj := 117) (b := true) rfl rfl rfl (ev_hit hN rfl) rfl rfl ?_
    refine g_false (j := 4) (dj := 117) (b := true) rfl rfl rfl (ev_hit hN rfl) rfl rfl ?_
    refine op_pick_f (ev_hit hN rfl) rfl ?_
    refine op_assign (ev_hit hN rfl) ?_
    refine reg_nil ?_
    refine hK594 _ _ ?_
    refine seq_any fun K595 hK595 => ?_
    refine one_reg ?_
    refine op_move (ev_hit hN rfl) ?_
    refine op_bin (v := .bool true) (ev_hit hN rfl) rfl (by rw [binOp_eql]; rfl) ?_
    refine op_move (ev_hit hN rfl) ?_
    refine g_true (j := 2) (dj := 124) (b := true) rfl rfl rfl (ev_hit hN rfl) ?_
    refine op_move (ev_hit hN rfl) ?_
    refine g_true (j := 2) (dj := 124) (b := true) rfl rfl rfl (ev_hit hN rfl) ?_
    refine op_bin (v := .bool true) (ev_hit hN rfl) rfl (by rw [binOp_eql]; rfl) ?_
    refine op_pick_t (ev_hit hN rfl) (ev_hit hN rfl) ?_
    refine op_move (ev_hit hN rfl) ?_
    refine g_true (j := 6) (dj := 128) (b := true) rfl rfl rfl (ev_hit hN rfl) ?_
    refine op_move (ev_hit hN rfl) ?_
    refine g_true (j := 6) (dj := 128) (b := true) rfl rfl rfl (ev_hit hN rfl) ?_
    refine op_fn (vs := [(ptr k512 0), (Value.int .i64 2)]) ok62 ⟨(ev_hit hN rfl), ⟨rfl, trivial⟩⟩ (DoomedR' (n := 2) hl576 rfl) ?_
    rintro _ w596 ⟨E597, rfl⟩
    have E597 := grown_of_below E597
    have z_w596 := E597.size
    have hA := hA.keep0 E597
    have hB := hB.keep0 E597
    have hO507 := hO507.keep0 E597
    have hB548 := hB548.keep0 E597
    have hO559 := hO559.keep0 E597
    have hl576 := hl576.keepG (Gr.of0 E597 NoB) (fun _ _ h => h)
    have hO576 := hO576.keep0 E597
    have hO588 := hO588.keep0 E597
    have hb := below_step0 hb E597 hb.size
    refine g_true (j := 6) (dj := 128) (b := true) rfl rfl rfl (ev_hit hN rfl) ?_
    refine op_move (ev_hit hN rfl) ?_
    refine g_true (j := 6) (dj := 128) (b := true) rfl rfl rfl (ev_hit hN rfl) ?_
    refine op_eqb Try.underlying4 (ev_hit hN rfl) (ev_hit hN rfl) ?_
    refine op_pick_t (ev_hit hN rfl) (ev_hit hN rfl) ?_
    refine op_move (ev_hit hN rfl) ?_
    refine g_true (j := 12) (dj := 134) (b := true) rfl rfl rfl (ev_hit hN rfl) ?_
    refine op_move (ev_hit hN rfl) ?_
    refine g_true (j := 12) (dj := 134) (b := true) rfl rfl rfl (ev_hit hN rfl) ?_
    refine op_len_rd Try.underlying35 (ev_hit hN rfl) hO576.rdw ?_
    refine g_true (j := 12) (dj := 134) (b := true) rfl rfl rfl (ev_hit hN rfl) ?_
    refine op_eql (ev_hit hN rfl) rfl (fun c137 => ?_) (fun c137 => ?_)
    · -- 137T
     exact absurd c137 (by simp)
    · -- 137F
     refine g_true (j := 12) (dj := 134) (b := true) rfl rfl rfl (ev_hit hN rfl) ?_
     refine op_move (ev_hit hN rfl) ?_
     refine g_true (j := 12) (dj := 134) (b := true) rfl rfl rfl (ev_hit hN rfl) ?_
     refine op_eqb Try.underlying4 (ev_hit hN rfl) (ev_hit hN rfl) ?_
     refine op_pick_t (ev_hit hN rfl) (ev_hit hN rfl) ?_
     refine op_assign (ev_hit hN rfl) ?_
     refine reg_nil ?_
     refine hK595 _ _ ?_
     refine wp_ret ?_
     refine ret1 rfl hd (ev_hit hN rfl) ⟨_, rfl, ?_⟩
     -- path 25T 29T 37F 137F
     exact ⟨hb, rfl⟩
  · -- 29F
   rw [c29]
   refine g_true (j := 3) (dj := 27) (b := false) rfl rfl rfl (ev_hit hN rfl) ?_
   refine op_not (ev_hit hN rfl) ?_
   refine op_pick_f (ev_hit hN rfl) (ev_hit hN rfl) ?_
   refine op_move (ev_hit hN rfl) ?_
   skip
   refine g_false (j := 8) (dj := 32) (b := false) rfl rfl rfl (ev_hit hN rfl) rfl rfl ?_
   refine g_false (j := 8) (dj := 32) (b := false) rfl rfl rfl (ev_hit hN rfl) rfl rfl ?_
   refine g_false (j := 8) (dj := 32) (b := false) rfl rfl rfl (ev_hit hN rfl) rfl rfl ?_
   refine g_false (j := 8) (dj := 32) (b := false) rfl rfl rfl (ev_hit hN rfl) rfl rfl ?_
   refine g_false (j := 8) (dj := 32) (b := false) rfl rfl rfl (ev_hit hN rfl) rfl rfl ?_
   refine op_pick_t (ev_hit hN rfl) rfl ?_
   refine reg_nil ?_
   refine hK502 _ _ ?_
   refine wp_cond_true (ev_hit hN rfl) ?_
   refine seq_any fun K598 hK598 => ?_
   refine one_reg ?_
   refine op_assign rfl ?_
   refine reg_nil ?_
   refine hK598 _ _ ?_
   refine wp_ret (then_ret ( ?_))
   refine ret1 rfl hd (ev_hit hN rfl) ⟨_, rfl, ?_⟩
   -- path 25T 29F
   exact ⟨hb, rfl⟩
 · -- 25F
  rw [c25]
  refine op_not (ev_hit hN rfl) ?_
  refine op_move (ev_hit hN rfl) ?_
  refine g_false (j := 3) (dj := 27) (b := false) rfl rfl rfl (ev_hit hN rfl) rfl rfl ?_
  refine g_false (j := 3) (dj := 27) (b := false) rfl rfl rfl (ev_hit hN rfl) rfl rfl ?_
  refine g_false (j := 3) (dj := 27) (b := false) rfl rfl rfl (ev_hit hN rfl) rfl rfl ?_
  refine op_pick_t (ev_hit hN rfl) rfl ?_
  refine op_move (ev_hit hN rfl) ?_
  skip
  refine g_false (j := 8) (dj := 32) (b := false) rfl rfl rfl (ev_hit hN rfl) rfl rfl ?_
  refine g_false (j := 8) (dj := 32) (b := false) rfl rfl rfl (ev_hit hN rfl) rfl rfl ?_
  refine g_false (j := 8) (dj := 32) (b := false) rfl rfl rfl (ev_hit hN rfl) rfl rfl ?_
  refine g_false (j := 8) (dj := 32) (b := false) rfl rfl rfl (ev_hit hN rfl) rfl rfl ?_
  refine g_false (j := 8) (dj := 32) (b := false) rfl rfl rfl (ev_hit hN rfl) rfl rfl ?_
  refine op_pick_t (ev_hit hN rfl) rfl ?_
  refine reg_nil ?_
  refine hK502 _ _ ?_
  refine wp_cond_true (ev_hit hN rfl) ?_
  refine seq_any fun K599 hK599 => ?_
  refine one_reg ?_
  refine op_assign rfl ?_
  refine reg_nil ?_
  refine hK599 _ _ ?_
  refine wp_ret (then_ret ( ?_))
  refine ret1 rfl hd (ev_hit hN rfl) ⟨_, rfl, ?_⟩
  -- path 25F
  exact ⟨hb, rfl⟩

theorem LockDooms_tft_any (aL bL : List UInt16) (vA vB : Value) (w : World) (hal : aL.length ≤ 9223372036854775807) (hbl : bL.length ≤ 9223372036854775807) (hA : RdC w 0 w.heap.size 1 vA aL.length (aL.map u16v)) (hB : RdC w 0 w.heap.size 1 vB bL.length (bL.map u16v)) : Ret Try.prog 13 #[vA, vB, (Value.bool false), (Value.bool true), (Value.bool true)] w (fun v' w' => Below w.heap.size w w' ∧ v' = .bool true) := by
 have hb := Below.refl w.heap.size w
 refine enter (N := 141) Try.func13 rfl rfl (by simp) fun a0 hN hd hA => ?_
 have s0 : a0.tmps.getD 0 undef = vA := hA 0 (by simp)
 have s1 : a0.tmps.getD 1 undef = vB := hA 1 (by simp)
 have s2 : a0.tmps.getD 2 undef = (Value.bool false) := hA 2 (by simp)
 have s3 : a0.tmps.getD 3 undef = (Value.bool true) := hA 3 (by simp)
 have s4 : a0.tmps.getD 4 undef = (Value.bool true) := hA 4 (by simp)
 clear hA
 refine seq_any fun K600 hK600 => ?_
 refine one_reg ?_
 refine op_assign rfl ?_
 refine reg_nil ?_
 refine hK600 _ _ ?_
 refine seq_any fun K601 hK601 => ?_
 refine seq_any fun K602 hK602 => ?_
 refine one_reg ?_
 refine op_fn (vs := []) ok52 trivial (begun19_ret _) ?_
 rintro _ w603 ⟨E604, rfl⟩
 have E604 := grown_of_below E604
 have z_w603 := E604.size
 have hA := hA.keep0 E604
 have hB := hB.keep0 E604
 have hb := below_step0 hb E604 hb.size
 refine op_not (ev_hit hN rfl) ?_
 refine reg_nil ?_
 refine hK602 _ _ ?_
 refine wp_cond_false (ev_hit hN rfl) ?_
 refine wp_skip ?_
 refine hK601 _ _ ?_
 refine seq_any fun K605 hK605 => ?_
 refine seq_any fun K606 hK606 => ?_
 refine one_reg ?_
 refine op_move (ev_base hN rfl s0) ?_
 refine op_fn (vs := [vA]) ok33 ⟨(ev_hit hN rfl), trivial⟩ (refMay_ret aL _ _ (by first | assumption | omega | (simp only [List.length_append, List.length_cons, List.length_nil, List.length_drop, List.length_take]; omega) | (dsimp only; omega) | decide | (simp [keyV, be8_len]; done)) (show RdC w603 0 w603.heap.size 1 vA aL.length (aL.map u16v) from by have hh : RdC w603 0 w603.heap.size 1 _ _ _ := (hA.mono (L' := 0) (B' := w603.heap.size) (Nat.zero_le _) (by omega)); first | exact hh | exact hh.cast (by first | omega | (simp; try omega)) (by first | rfl | simp [u16v]))) ?_
 rintro _ w607 ⟨E608, rfl⟩
 have E608 := grown_of_below E608
 have z_w607 := E608.size
 have hA := hA.keep0 E608
 have hB := hB.keep0 E608
 have hb := below_step0 hb E608 hb.size
 rcases Bool.eq_false_or_eq_true ((mayL aL)) with c25 | c25
 · -- 25T
  rw [c25]
  refine op_not (ev_hit hN rfl) ?_
  refine op_move (ev_hit hN rfl) ?_
  refine g_true (j := 3) (dj := 27) (b := false) rfl rfl rfl (ev_hit hN rfl) ?_
  refine op_move (ev_base hN rfl s1) ?_
  refine g_true (j := 3) (dj := 27) (b := false) rfl rfl rfl (ev_hit hN rfl) ?_
  refine op_fn (vs := [vB]) ok33 ⟨(ev_hit hN rfl), trivial⟩ (refMay_ret bL _ _ (by first | assumption | omega | (simp only [List.length_append, List.length_cons, List.length_nil, List.length_drop, List.length_take]; omega) | (dsimp only; omega) | decide | (simp [keyV, be8_len]; done)) (show RdC w607 0 w607.heap.size 1 vB bL.length (bL.map u16v) from by have hh : RdC w607 0 w607.heap.size 1 _ _ _ := (hB.mono (L' := 0) (B' := w607.heap.size) (Nat.zero_le _) (by omega)); first | exact hh | exact hh.cast (by first | omega | (simp; try omega)) (by first | rfl | simp [u16v]))) ?_
  rintro _ w609 ⟨E610, rfl⟩
  have E610 := grown_of_below E610
  have z_w609 := E610.size
  have hA := hA.keep0 E610
  have hB := hB.keep0 E610
  have hb := below_step0 hb E610 hb.size
  rcases Bool.eq_false_or_eq_true ((mayL bL)) with c29 | c29
  · -- 29T
   rw [c29]
   refine g_true (j := 3) (dj := 27) (b := false) rfl rfl rfl (ev_hit hN rfl) ?_
   refine op_not (ev_hit hN rfl) ?_
   refine op_pick_f (ev_hit hN rfl) (ev_hit hN rfl) ?_
   refine op_move (ev_hit hN rfl) ?_
   have ha8 := mayL_len c25
   have hb8 := mayL_len c29
   refine g_true (j := 8) (dj := 32) (b := false) rfl rfl rfl (ev_hit hN rfl) ?_
   refine op_move (ev_base hN rfl s0) ?_
   refine g_true (j := 8) (dj := 32) (b := false) rfl rfl rfl (ev_hit hN rfl) ?_
   refine op_move (ev_base hN rfl s1) ?_
   refine g_true (j := 8) (dj := 32) (b := false) rfl rfl rfl (ev_hit hN rfl) ?_
   refine op_fn (vs := [vA, vB]) ok51 ⟨(ev_hit hN rfl), ⟨(ev_hit hN rfl), trivial⟩⟩ (rjoinW_ret aL bL _ _ _ (by first | assumption | omega | (simp only [List.length_append, List.length_cons, List.length_nil, List.length_drop, List.length_take]; omega) | (dsimp only; omega) | decide | (simp [keyV, be8_len]; done)) (by first | assumption | omega | (simp only [List.length_append, List.length_cons, List.length_nil, List.length_drop, List.length_take]; omega) | (dsimp only; omega) | decide | (simp [keyV, be8_len]; done)) (show RdC w609 0 w609.heap.size 1 vA aL.length (aL.map u16v) from by have hh : RdC w609 0 w609.heap.size 1 _ _ _ := (hA.mono (L' := 0) (B' := w609.heap.size) (Nat.zero_le _) (by omega)); first | exact hh | exact hh.cast (by first | omega | (simp; try omega)) (by first | rfl | simp [u16v])) (show RdC w609 0 w609.heap.size 1 vB bL.length (bL.map u16v) from by have hh : RdC w609 0 w609.heap.size 1 _ _ _ := (hB.mono (L' := 0) (B' := w609.heap.size) (Nat.zero_le _) (by omega)); first | exact hh | exact hh.cast (by first | omega | (simp; try omega)) (by first | rfl | simp [u16v]))) ?_
   rintro v611 w612 ⟨E613, hO611⟩
   have E613 := grown_of_below E613
   have z_w612 := E613.size
   have hA := hA.keep0 E613
   have hB := hB.keep0 E613
   have hb := below_step0 hb E613 hb.size
   have hO611 := hO611.mono (base' := w.heap.size) (by omega)
   refine g_true (j := 8) (dj := 32) (b := false) rfl rfl rfl (ev_hit hN rfl) ?_
   refine op_len_rd Try.underlying54 (ev_hit hN rfl) hO611.rdw ?_
   refine g_true (j := 8) (dj := 32) (b := false) rfl rfl rfl (ev_hit hN rfl) ?_
   refine op_gtr (ev_hit hN rfl) rfl (fun c37 => ?_) (fun c37 => ?_)
   · -- 37T
    refine op_pick_f (ev_hit hN rfl) (ev_hit hN rfl) ?_
    refine reg_nil ?_
    refine hK606 _ _ ?_
    refine wp_cond_true (ev_hit hN rfl) ?_
    refine seq_any fun K614 hK614 => ?_
    refine one_reg ?_
    refine op_assign rfl ?_
    refine reg_nil ?_
    refine hK614 _ _ ?_
    refine wp_ret (then_ret ( ?_))
    refine ret1 rfl hd (ev_hit hN rfl) ⟨_, rfl, ?_⟩
    -- path 25T 29T 37T
    exact ⟨hb, rfl⟩
   · -- 37F
    refine op_pick_f (ev_hit hN rfl) (ev_hit hN rfl) ?_
    refine reg_nil ?_
    refine hK606 _ _ ?_
    refine wp_cond_false (ev_hit hN rfl) ?_
    refine wp_skip ?_
    refine hK605 _ _ ?_
    refine seq_any fun K615 hK615 => ?_
    refine one_reg ?_
    have hjl : (joinL aL bL).length ≤ 8 := by omega
    skip
    have hok1 : ¬ ((joinL aL bL) = aL ∧ ([117] : List UInt8) = [116]) := fun h => by have := h.2; revert this; decide
    have hfj : flowsL aL (joinL aL bL) = true := flows_joinl
    have hrf : flowsL aL aL = true := flows_refl
    have hdm : dmB aL (joinL aL bL) aL [117] [[116]] = false := by simp [dmB, hfj, hrf]
    refine op_fn (vs := []) ok53 trivial (lockNewR) ?_
    rintro _ w617 ⟨E618, k616, F616, rfl, hl616⟩
    have lo_F616 : ∀ x, F616 x → w612.heap.size ≤ x := fun x hx => (hl616.lt x hx).1
    have dj619 : Dj (Bl v611) F616 := Dj.fresh (fun k hk => (hO611.lt k hk).2) lo_F616
    have E618 := grown_of_below E618
    have z_w617 := E618.size
    have hA := hA.keep0 E618
    have hB := hB.keep0 E618
    have hO611 := hO611.keep0 E618
    have hb := below_step0 hb E618 hb.size
    have hl616 : LocksR w617 w.heap.size k616 ([] : TM) F616 := hl616.mono (by omega)
    refine op_assign (ev_hit hN rfl) ?_
    refine reg_nil ?_
    refine hK615 _ _ ?_
    refine seq_any fun K620 hK620 => ?_
    refine one_reg ?_
    refine op_move (ev_hit hN rfl) ?_
    refine op_move (ev_base hN rfl s0) ?_
    refine op_fn (vs := [(ptr k616 0), (Value.int .i64 1), vA, (Value.int .u64 1)]) ok54 ⟨(ev_hit hN rfl), ⟨rfl, ⟨(ev_hit hN rfl), ⟨rfl, trivial⟩⟩⟩⟩ (lk_conv (EnterR (n := 1) (s := 1) (l := aL) (by omega) (lo := w.heap.size) hA (Nat.le_refl _) (by first | decide | omega) hl616) (A' := (Value.int .i64 0)) (M2 := ([(1, (⟨aL, 1, [], [], false⟩ : TX))] : TM)) (by rfl) (by rfl)) ?_
    rintro _ w622 ⟨E623, rfl, F621, hl621, hN621⟩
    have bd624 := hO611.lt
    have hl616_old := hl616
    have z_w622 := E623.size
    have hA := hA.keepG E623 (fun k hk => .inr (by have := hl616_old.lt k hk; omega))
    have hB := hB.keepG E623 (fun k hk => .inr (by have := hl616_old.lt k hk; omega))
    have hO611 := hO611.keepG E623 dj619
    have hb := below_stepG hb E623 hb.size (fun k hk => (hl616_old.lt k hk).1)
    have dj625 : Dj (Bl v611) F621 := Dj.stepF hN621 (fun k hk => (bd624 k hk).2) dj619
    refine reg_nil ?_
    refine hK620 _ _ ?_
    refine seq_any fun K626 hK626 => ?_
    refine one_reg ?_
    refine op_move (ev_hit hN rfl) ?_
    refine op_move (ev_base hN rfl s1) ?_
    refine op_fn (vs := [(ptr k616 0), (Value.int .i64 2), vB, (Value.int .u64 2)]) ok54 ⟨(ev_hit hN rfl), ⟨rfl, ⟨(ev_hit hN rfl), ⟨rfl, trivial⟩⟩⟩⟩ (lk_conv (EnterR (n := 2) (s := 2) (l := bL) (by omega) (lo := w.heap.size) hB (Nat.le_refl _) (by first | decide | omega) hl621) (A' := (Value.int .i64 0)) (M2 := (st2 aL bL 2 [] [])) (by rfl) (by rfl)) ?_
    rintro _ w628 ⟨E629, rfl, F627, hl627, hN627⟩
    have bd630 := hO611.lt
    have hl621_old := hl621
    have z_w628 := E629.size
    have hA := hA.keepG E629 (fun k hk => .inr (by have := hl621_old.lt k hk; omega))
    have hB := hB.keepG E629 (fun k hk => .inr (by have := hl621_old.lt k hk; omega))
    have hO611 := hO611.keepG E629 dj625
    have hb := below_stepG hb E629 hb.size (fun k hk => (hl621_old.lt k hk).1)
    have dj631 : Dj (Bl v611) F627 := Dj.stepF hN627 (fun k hk => (bd630 k hk).2) dj625
    refine reg_nil ?_
    refine hK626 _ _ ?_
    refine seq_any fun K632 hK632 => ?_
    refine seq_any fun K633 hK633 => ?_
    refine one_reg ?_
    refine op_move (ev_base hN rfl s4) ?_
    refine reg_nil ?_
    refine hK633 _ _ ?_
    refine wp_cond_true (ev_hit hN rfl) ?_
    refine seq_any fun K634 hK634 => ?_
    refine one_reg ?_
    refine op_move (ev_hit hN rfl) ?_
    refine op_fn (vs := [(ptr k616 0), (Value.int .i64 2)]) ok57 ⟨(ev_hit hN rfl), ⟨rfl, trivial⟩⟩ (lk_conv (LeaveR (n := 2) (by omega) hl627) (A' := (Value.int .i64 0)) (M2 := ([(1, (⟨aL, 1, [], [], false⟩ : TX))] : TM)) (by rfl) (by rfl)) ?_
    rintro _ w636 ⟨E637, rfl, F635, hl635, hN635⟩
    have bd638 := hO611.lt
    have hl627_old := hl627
    have z_w636 := E637.size
    have hA := hA.keepG E637 (fun k hk => .inr (by have := hl627_old.lt k hk; omega))
    have hB := hB.keepG E637 (fun k hk => .inr (by have := hl627_old.lt k hk; omega))
    have hO611 := hO611.keepG E637 dj631
    have hb := below_stepG hb E637 hb.size (fun k hk => (hl627_old.lt k hk).1)
    have dj639 : Dj (Bl v611) F635 := Dj.stepF hN635 (fun k hk => (bd638 k hk).2) dj631
    refine reg_nil ?_
    refine hK634 _ _ ?_
    refine one_reg ?_
    refine op_move (ev_hit hN rfl) ?_
    refine op_move (ev_base hN rfl s0) ?_
    refine op_fn (vs := [(ptr k616 0), (Value.int .i64 2), vA, (Value.int .u64 2)]) ok54 ⟨(ev_hit hN rfl), ⟨rfl, ⟨(ev_hit hN rfl), ⟨rfl, trivial⟩⟩⟩⟩ (lk_conv (EnterR (n := 2) (s := 2) (l := aL) (by omega) (lo := w.heap.size) hA (Nat.le_refl _) (by first | decide | omega) hl635) (A' := (Value.int .i64 0)) (M2 := (st2 aL aL 2 [] [])) (by rfl) (by rfl)) ?_
    rintro _ w641 ⟨E642, rfl, F640, hl640, hN640⟩
    have bd643 := hO611.lt
    have hl635_old := hl635
    have z_w641 := E642.size
    have hA := hA.keepG E642 (fun k hk => .inr (by have := hl635_old.lt k hk; omega))
    have hB := hB.keepG E642 (fun k hk => .inr (by have := hl635_old.lt k hk; omega))
    have hO611 := hO611.keepG E642 dj639
    have hb := below_stepG hb E642 hb.size (fun k hk => (hl635_old.lt k hk).1)
    have dj644 : Dj (Bl v611) F640 := Dj.stepF hN640 (fun k hk => (bd643 k hk).2) dj639
    refine reg_nil ?_
    refine hK632 _ _ ?_
    refine seq_any fun K645 hK645 => ?_
    refine one_reg ?_
    refine op_assign rfl ?_
    refine reg_nil ?_
    refine hK645 _ _ ?_
    refine seq_any fun K646 hK646 => ?_
    refine seq_any fun K647 hK647 => ?_
    refine one_reg ?_
    refine op_move (ev_base hN rfl s2) ?_
    refine op_not (ev_hit hN rfl) ?_
    refine reg_nil ?_
    refine hK647 _ _ ?_
    refine wp_cond_true (ev_hit hN rfl) ?_
    refine one_reg ?_
    refine op_assign rfl ?_
    refine reg_nil ?_
    refine hK646 _ _ ?_
    refine seq_any fun K648 hK648 => ?_
    refine one_reg ?_
    refine op_move (ev_hit hN rfl) ?_
    refine op_move (ev_hit hN rfl) ?_
    refine op_bslice (e := 9) (pv := [(0, (Value.string (bs [117])))]) (cs := [(Value.string (bs [117]))]) ⟨rfl, (ev_hit hN rfl), trivial⟩ (by kernel_rfl) ?_
    intro w649 b650 lo_b650 hi_b650 hB652 E651
    have dj653 : ¬ F640 b650 := fun hf => by have := (hl640.lt _ hf).2; omega
    have z_w649 := E651.size
    have hA := hA.keep0 E651
    have hB := hB.keep0 E651
    have hO611 := hO611.keep0 E651
    have hl640 := hl640.keepG (Gr.of0 E651 NoB) (fun _ _ h => h)
    have hb := below_step0 hb E651 hb.size
    refine op_fn (vs := [(ptr k616 0), (Value.int .i64 2), (Value.slice (some ⟨b650, 0, none⟩) 1 1), (Value.string (bs []))]) ok55 ⟨(ev_hit hN rfl), ⟨rfl, ⟨(ev_hit hN rfl), ⟨rfl, trivial⟩⟩⟩⟩ (lk_conv (AskR (n := 2) (Rs := [[117]]) (x := []) (by omega) (by unfold MOk TOk; simp [st2, wf_i64, hjl, ha8, hb8]) (by unfold MSm; simp [st2]) (by decide) (Lr := b650) (Br := b650 + 1) (RdC.ofBx (sz := 1) (n := 1) hB652 rfl (by decide)) (by have := hB652.lt; omega) (fun y hy => Nat.lt_or_gt_of_ne (fun e => dj653 (e ▸ hy))) hl640) (A' := (Value.tuple #[(Value.int .i64 1), (Value.int .i64 0)])) (M2 := (st2 aL aL 2 [([117], aL)] [])) (by rw [ask2_v]; rfl) ask2_m) ?_
    rintro _ w655 ⟨E656, rfl, F654, hl654, hN654⟩
    have bd657 := hO611.lt
    have bd658 := hB652.lt
    have hl640_old := hl640
    have z_w655 := E656.size
    have hA := hA.keepG E656 (fun k hk => .inr (by have := hl640_old.lt k hk; omega))
    have hB := hB.keepG E656 (fun k hk => .inr (by have := hl640_old.lt k hk; omega))
    have hO611 := hO611.keepG E656 dj644
    have hB652 := hB652.keepG E656 dj653
    have hb := below_stepG hb E656 hb.size (fun k hk => (hl640_old.lt k hk).1)
    have dj659 : Dj (Bl v611) F654 := Dj.stepF hN654 (fun k hk => (bd657 k hk).2) dj644
    have dj660 : ¬ F654 b650 := ne_stepF hN654 bd658 dj653
    refine op_move (ev_hit hN rfl) ?_
    refine op_extract (ev_hit hN rfl) rfl ?_
    refine op_extract (ev_hit hN rfl) rfl ?_
    refine op_assign (ev_hit hN rfl) ?_
    refine op_assign (ev_hit hN rfl) ?_
    refine reg_nil ?_
    refine hK648 _ _ ?_
    refine seq_any fun K661 hK661 => ?_
    refine seq_any fun K662 hK662 => ?_
    refine one_reg ?_
    refine op_move (ev_base hN rfl s4) ?_
    refine op_move (ev_hit hN rfl) ?_
    refine g_true (j := 1) (dj := 62) (b := true) rfl rfl rfl (ev_hit hN rfl) ?_
    refine op_move (ev_hit hN rfl) ?_
    refine g_true (j := 1) (dj := 62) (b := true) rfl rfl rfl (ev_hit hN rfl) ?_
    refine op_move (ev_base hN rfl s0) ?_
    refine g_true (j := 1) (dj := 62) (b := true) rfl rfl rfl (ev_hit hN rfl) ?_
    refine op_move (ev_base hN rfl s1) ?_
    refine g_true (j := 1) (dj := 62) (b := true) rfl rfl rfl (ev_hit hN rfl) ?_
    refine op_fn (vs := [vA, vB]) ok51 ⟨(ev_hit hN rfl), ⟨(ev_hit hN rfl), trivial⟩⟩ (rjoinW_ret aL bL _ _ _ (by first | assumption | omega | (simp only [List.length_append, List.length_cons, List.length_nil, List.length_drop, List.length_take]; omega) | (dsimp only; omega) | decide | (simp [keyV, be8_len]; done)) (by first | assumption | omega | (simp only [List.length_append, List.length_cons, List.length_nil, List.length_drop, List.length_take]; omega) | (dsimp only; omega) | decide | (simp [keyV, be8_len]; done)) (show RdC w655 0 w655.heap.size 1 vA aL.length (aL.map u16v) from by have hh : RdC w655 0 w655.heap.size 1 _ _ _ := (hA.mono (L' := 0) (B' := w655.heap.size) (Nat.zero_le _) (by omega)); first | exact hh | exact hh.cast (by first | omega | (simp; try omega)) (by first | rfl | simp [u16v])) (show RdC w655 0 w655.heap.size 1 vB bL.length (bL.map u16v) from by have hh : RdC w655 0 w655.heap.size 1 _ _ _ := (hB.mono (L' := 0) (B' := w655.heap.size) (Nat.zero_le _) (by omega)); first | exact hh | exact hh.cast (by first | omega | (simp; try omega)) (by first | rfl | simp [u16v]))) ?_
    rintro v663 w664 ⟨E665, hO663⟩
    have dj666 : DJ v663 v611 := fun k hk hg => by have q1 := (hO663.lt k hk).1; have q2 := (hO611.lt k hg).2; omega
    have dj667 : Dj F654 (Bl v663) := Dj.fresh (fun k hk => (hl654.lt k hk).2) (fun k hk => (hO663.lt k hk).1)
    have E665 := grown_of_below E665
    have z_w664 := E665.size
    have hA := hA.keep0 E665
    have hB := hB.keep0 E665
    have hO611 := hO611.keep0 E665
    have hB652 := hB652.keep0 E665
    have hl654 := hl654.keepG (Gr.of0 E665 NoB) (fun _ _ h => h)
    have hb := below_step0 hb E665 hb.size
    have hO663 := hO663.mono (base' := w.heap.size) (by omega)
    refine g_true (j := 1) (dj := 62) (b := true) rfl rfl rfl (ev_hit hN rfl) ?_
    refine op_fn (vs := [(ptr k616 0), (Value.int .i64 2), v663, (Value.int .u64 3)]) ok59 ⟨(ev_hit hN rfl), ⟨rfl, ⟨(ev_hit hN rfl), ⟨rfl, trivial⟩⟩⟩⟩ (lk_conv (MoveR (n := 2) (s := 3) (l := (joinL aL bL)) (by omega) (hO663.rdw.mono (Nat.zero_le _) (by omega)) (by first | decide | omega) hl654) (A' := (Value.int .i64 0)) (M2 := (st2 aL (joinL aL bL) 3 [([117], aL)] [])) (by rfl) (by rfl)) ?_
    rintro _ w669 ⟨E670, rfl, F668, hl668, hN668⟩
    have bd671 := hO611.lt
    have bd672 := hB652.lt
    have bd673 := hO663.lt
    have hl654_old := hl654
    have z_w669 := E670.size
    have hA := hA.keepG E670 (fun k hk => .inr (by have := hl654_old.lt k hk; omega))
    have hB := hB.keepG E670 (fun k hk => .inr (by have := hl654_old.lt k hk; omega))
    have hO611 := hO611.keepG E670 dj659
    have hB652 := hB652.keepG E670 dj660
    have hO663 := hO663.keepG E670 dj667.symm
    have hb := below_stepG hb E670 hb.size (fun k hk => (hl654_old.lt k hk).1)
    have dj674 : Dj (Bl v611) F668 := Dj.stepF hN668 (fun k hk => (bd671 k hk).2) dj659
    have dj675 : ¬ F668 b650 := ne_stepF hN668 bd672 dj660
    have dj676 : Dj (Bl v663) F668 := Dj.stepF hN668 (fun k hk => (bd673 k hk).2) dj667.symm
    refine g_true (j := 1) (dj := 62) (b := true) rfl rfl rfl (ev_hit hN rfl) ?_
    refine op_bin (v := .bool false) (ev_hit hN rfl) rfl (by rw [binOp_neq]; rfl) ?_
    refine op_pick_t (ev_hit hN rfl) (ev_hit hN rfl) ?_
    refine reg_nil ?_
    refine hK662 _ _ ?_
    refine wp_cond_false (ev_hit hN rfl) ?_
    refine wp_skip ?_
    refine hK661 _ _ ?_
    refine seq_any fun K677 hK677 => ?_
    refine seq_any fun K678 hK678 => ?_
    refine one_reg ?_
    refine op_move (ev_base hN rfl s3) ?_
    refine reg_nil ?_
    refine hK678 _ _ ?_
    refine wp_cond_true (ev_hit hN rfl) ?_
    refine seq_any fun K679 hK679 => ?_
    refine one_reg ?_
    refine op_move (ev_hit hN rfl) ?_
    refine op_fn (vs := [(ptr k616 0), (Value.int .i64 1), (Value.slice none 0 0), (Value.string (bs [116]))]) ok55 ⟨(ev_hit hN rfl), ⟨rfl, ⟨rfl, ⟨rfl, trivial⟩⟩⟩⟩ (lk_conv (AskR (n := 1) (Rs := ([] : List (List UInt8))) (x := ([116])) (by omega) (by unfold MOk TOk; simp [st2, wf_i64, hjl, ha8, hb8]) (by unfold MSm; simp [st2]) (by decide) (RdC.nil _ 0 0 _) (Nat.zero_le _) (fun _ _ => .inr (Nat.zero_le _)) hl668) (A' := (Value.tuple #[(Value.int .i64 1), (Value.int .i64 0)])) (M2 := (st2 aL (joinL aL bL) 3 [([117], aL)] [[116]])) (by rw [(ask1_ok hok1).1]; rfl) (ask1_ok hok1).2) ?_
    rintro _ w681 ⟨E682, rfl, F680, hl680, hN680⟩
    have bd683 := hO611.lt
    have bd684 := hB652.lt
    have bd685 := hO663.lt
    have hl668_old := hl668
    have z_w681 := E682.size
    have hA := hA.keepG E682 (fun k hk => .inr (by have := hl668_old.lt k hk; omega))
    have hB := hB.keepG E682 (fun k hk => .inr (by have := hl668_old.lt k hk; omega))
    have hO611 := hO611.keepG E682 dj674
    have hB652 := hB652.keepG E682 dj675
    have hO663 := hO663.keepG E682 dj676
    have hb := below_stepG hb E682 hb.size (fun k hk => (hl668_old.lt k hk).1)
    have dj686 : Dj (Bl v611) F680 := Dj.stepF hN680 (fun k hk => (bd683 k hk).2) dj674
    have dj687 : ¬ F680 b650 := ne_stepF hN680 bd684 dj675
    have dj688 : Dj (Bl v663) F680 := Dj.stepF hN680 (fun k hk => (bd685 k hk).2) dj676
    refine op_move (ev_hit hN rfl) ?_
    refine op_extract (ev_hit hN rfl) rfl ?_
    refine op_extract (ev_hit hN rfl) rfl ?_
    refine op_assign (ev_hit hN rfl) ?_
    refine op_assign (ev_hit hN rfl) ?_
    refine reg_nil ?_
    refine hK679 _ _ ?_
    refine seq_any fun K689 hK689 => ?_
    refine one_reg ?_
    refine op_move (ev_base hN rfl s4) ?_
    refine op_not (ev_hit hN rfl) ?_
    refine op_move (ev_hit hN rfl) ?_
    refine g_false (j := 2) (dj := 78) (b := true) rfl rfl rfl (ev_hit hN rfl) rfl rfl ?_
    refine g_false (j := 2) (dj := 78) (b := true) rfl rfl rfl (ev_hit hN rfl) rfl rfl ?_
    refine g_false (j := 2) (dj := 78) (b := true) rfl rfl rfl (ev_hit hN rfl) rfl rfl ?_
    refine op_pick_f (ev_hit hN rfl) rfl ?_
    refine op_move (ev_hit hN rfl) ?_
    refine g_true (j := 7) (dj := 83) (b := false) rfl rfl rfl (ev_hit hN rfl) ?_
    refine op_move (ev_base hN rfl s4) ?_
    refine g_true (j := 7) (dj := 83) (b := false) rfl rfl rfl (ev_hit hN rfl) ?_
    refine op_move (ev_hit hN rfl) ?_
    refine g_true (j := 9) (dj := 85) (b := true) rfl rfl rfl (ev_hit hN rfl) ?_
    refine op_move (ev_base hN rfl s1) ?_
    refine g_true (j := 9) (dj := 85) (b := true) rfl rfl rfl (ev_hit hN rfl) ?_
    refine op_move (ev_base hN rfl s0) ?_
    refine g_true (j := 9) (dj := 85) (b := true) rfl rfl rfl (ev_hit hN rfl) ?_
    refine op_fn (vs := [vB, vA]) ok50 ⟨(ev_hit hN rfl), ⟨(ev_hit hN rfl), trivial⟩⟩ (rflowsW_ret bL aL _ _ _ (by first | assumption | omega | (simp only [List.length_append, List.length_cons, List.length_nil, List.length_drop, List.length_take]; omega) | (dsimp only; omega) | decide | (simp [keyV, be8_len]; done)) (by first | assumption | omega | (simp only [List.length_append, List.length_cons, List.length_nil, List.length_drop, List.length_take]; omega) | (dsimp only; omega) | decide | (simp [keyV, be8_len]; done)) (show RdC w681 0 w681.heap.size 1 vB bL.length (bL.map u16v) from by have hh : RdC w681 0 w681.heap.size 1 _ _ _ := (hB.mono (L' := 0) (B' := w681.heap.size) (Nat.zero_le _) (by omega)); first | exact hh | exact hh.cast (by first | omega | (simp; try omega)) (by first | rfl | simp [u16v])) (show RdC w681 0 w681.heap.size 1 vA aL.length (aL.map u16v) from by have hh : RdC w681 0 w681.heap.size 1 _ _ _ := (hA.mono (L' := 0) (B' := w681.heap.size) (Nat.zero_le _) (by omega)); first | exact hh | exact hh.cast (by first | omega | (simp; try omega)) (by first | rfl | simp [u16v]))) ?_
    rintro _ w690 ⟨E691, rfl⟩
    have E691 := grown_of_below E691
    have z_w690 := E691.size
    have hA := hA.keep0 E691
    have hB := hB.keep0 E691
    have hO611 := hO611.keep0 E691
    have hB652 := hB652.keep0 E691
    have hO663 := hO663.keep0 E691
    have hl680 := hl680.keepG (Gr.of0 E691 NoB) (fun _ _ h => h)
    have hb := below_step0 hb E691 hb.size
    rcases Bool.eq_false_or_eq_true ((flowsL bL aL)) with c88 | c88
    · -- 88T
     rw [c88]
     refine g_true (j := 7) (dj := 83) (b := false) rfl rfl rfl (ev_hit hN rfl) ?_
     refine op_pick_t (ev_hit hN rfl) (ev_hit hN rfl) ?_
     refine op_pick_f (ev_hit hN rfl) (ev_hit hN rfl) ?_
     refine op_assign (ev_hit hN rfl) ?_
     refine reg_nil ?_
     refine hK689 _ _ ?_
     refine seq_any fun K692 hK692 => ?_
     refine seq_any fun K693 hK693 => ?_
     refine one_reg ?_
     refine op_move (ev_hit hN rfl) ?_
     refine op_move (ev_hit hN rfl) ?_
     refine g_true (j := 1) (dj := 92) (b := true) rfl rfl rfl (ev_hit hN rfl) ?_
     refine op_move (ev_base hN rfl s2) ?_
     refine op_pick_t (ev_hit hN rfl) (ev_hit hN rfl) ?_
     refine reg_nil ?_
     refine hK693 _ _ ?_
     refine wp_cond_false (ev_hit hN rfl) ?_
     refine wp_skip ?_
     refine hK692 _ _ ?_
     refine seq_any fun K694 hK694 => ?_
     refine one_reg ?_
     refine op_move (ev_hit hN rfl) ?_
     refine op_bin (v := .bool false) (ev_hit hN rfl) rfl (by rw [binOp_neq]; rfl) ?_
     refine reg_nil ?_
     refine hK694 _ _ ?_
     refine wp_cond_false (ev_hit hN rfl) ?_
     refine wp_skip ?_
     refine hK677 _ _ ?_
     refine seq_any fun K695 hK695 => ?_
     refine one_reg ?_
     refine op_move (ev_hit hN rfl) ?_
     refine op_fn (vs := [(ptr k616 0), (Value.int .i64 1)]) ok60 ⟨(ev_hit hN rfl), ⟨rfl, trivial⟩⟩ (CommitR' (n := 1) (L := ([] : List Int)) (M2 := ([(2, ⟨(joinL aL bL), 3, [([117], aL)], [], false⟩)] : TM)) (E2 := 0) (by omega) (by unfold MOk TOk; simp [st2, wf_i64, hjl, ha8, hb8]) hl680 (com1_l.trans (by rw [hdm]; rfl)) (com1_m.trans (by rw [hdm])) rfl) ?_
     rintro _ w697 ⟨E698, v696, rfl, hO696, F696, hl696, hN696, hd696⟩
     have bd699 := hO611.lt
     have bd700 := hB652.lt
     have bd701 := hO663.lt
     have hl680_old := hl680
     have z_w697 := E698.size
     have hA := hA.keepG E698 (fun k hk => .inr (by have := hl680_old.lt k hk; omega))
     have hB := hB.keepG E698 (fun k hk => .inr (by have := hl680_old.lt k hk; omega))
     have hO611 := hO611.keepG E698 dj686
     have hB652 := hB652.keepG E698 dj687
     have hO663 := hO663.keepG E698 dj688
     have hb := below_stepG hb E698 hb.size (fun k hk => (hl680_old.lt k hk).1)
     have dj702 : Dj (Bl v611) F696 := Dj.stepF hN696 (fun k hk => (bd699 k hk).2) dj686
     have dj703 : ¬ F696 b650 := ne_stepF hN696 bd700 dj687
     have dj704 : Dj (Bl v663) F696 := Dj.stepF hN696 (fun k hk => (bd701 k hk).2) dj688
     have hO696 := hO696.mono (base' := w.heap.size) (by omega)
     have hl696 : LocksR w697 w.heap.size k616 ([(2, ⟨(joinL aL bL), 3, [([117], aL)], [], false⟩)] : TM) F696 := hl696
     refine op_move (ev_hit hN rfl) ?_
     refine op_extract (ev_hit hN rfl) rfl ?_
     refine op_extract (ev_hit hN rfl) rfl ?_
     refine op_assign (ev_hit hN rfl) ?_
     refine op_assign (ev_hit hN rfl) ?_
     refine reg_nil ?_
     refine hK695 _ _ ?_
     refine seq_any fun K705 hK705 => ?_
     refine one_reg ?_
     refine op_move (ev_base hN rfl s1) ?_
     refine op_assign (ev_hit hN rfl) ?_
     refine reg_nil ?_
     refine hK705 _ _ ?_
     refine seq_any fun K706 hK706 => ?_
     refine seq_any fun K707 hK707 => ?_
     refine one_reg ?_
     refine op_move (ev_base hN rfl s4) ?_
     refine reg_nil ?_
     refine hK707 _ _ ?_
     refine wp_cond_true (ev_hit hN rfl) ?_
     refine one_reg ?_
     refine op_move (ev_base hN rfl s0) ?_
     refine op_move (ev_base hN rfl s1) ?_
     refine op_fn (vs := [vA, vB]) ok51 ⟨(ev_hit hN rfl), ⟨(ev_hit hN rfl), trivial⟩⟩ (rjoinW_ret aL bL _ _ _ (by first | assumption | omega | (simp only [List.length_append, List.length_cons, List.length_nil, List.length_drop, List.length_take]; omega) | (dsimp only; omega) | decide | (simp [keyV, be8_len]; done)) (by first | assumption | omega | (simp only [List.length_append, List.length_cons, List.length_nil, List.length_drop, List.length_take]; omega) | (dsimp only; omega) | decide | (simp [keyV, be8_len]; done)) (show RdC w697 0 w697.heap.size 1 vA aL.length (aL.map u16v) from by have hh : RdC w697 0 w697.heap.size 1 _ _ _ := (hA.mono (L' := 0) (B' := w697.heap.size) (Nat.zero_le _) (by omega)); first | exact hh | exact hh.cast (by first | omega | (simp; try omega)) (by first | rfl | simp [u16v])) (show RdC w697 0 w697.heap.size 1 vB bL.length (bL.map u16v) from by have hh : RdC w697 0 w697.heap.size 1 _ _ _ := (hB.mono (L' := 0) (B' := w697.heap.size) (Nat.zero_le _) (by omega)); first | exact hh | exact hh.cast (by first | omega | (simp; try omega)) (by first | rfl | simp [u16v]))) ?_
     rintro v708 w709 ⟨E710, hO708⟩
     have dj711 : DJ v708 v611 := fun k hk hg => by have q1 := (hO708.lt k hk).1; have q2 := (hO611.lt k hg).2; omega
     have dj712 : DJ v708 v663 := fun k hk hg => by have q1 := (hO708.lt k hk).1; have q2 := (hO663.lt k hg).2; omega
     have dj713 : Dj F696 (Bl v708) := Dj.fresh (fun k hk => (hl696.lt k hk).2) (fun k hk => (hO708.lt k hk).1)
     have E710 := grown_of_below E710
     have z_w709 := E710.size
     have hA := hA.keep0 E710
     have hB := hB.keep0 E710
     have hO611 := hO611.keep0 E710
     have hB652 := hB652.keep0 E710
     have hO663 := hO663.keep0 E710
     have hl696 := hl696.keepG (Gr.of0 E710 NoB) (fun _ _ h => h)
     have hO696 := hO696.keep0 E710
     have hb := below_step0 hb E710 hb.size
     have hO708 := hO708.mono (base' := w.heap.size) (by omega)
     refine op_assign (ev_hit hN rfl) ?_
     refine reg_nil ?_
     refine hK706 _ _ ?_
     refine seq_any fun K714 hK714 => ?_
     refine one_reg ?_
     refine op_move (ev_base hN rfl s2) ?_
     refine op_move (ev_hit hN rfl) ?_
     refine g_false (j := 1) (dj := 114) (b := true) rfl rfl rfl (ev_hit hN rfl) rfl rfl ?_
     refine op_pick_f (ev_hit hN rfl) rfl ?_
     refine op_move (ev_hit hN rfl) ?_
     refine g_false (j := 4) (dj := 117) (b := true) rfl rfl rfl (ev_hit hN rfl) rfl rfl ?_
     refine g_false (j := 4) (dj := 117) (b := true) rfl rfl rfl (ev_hit hN rfl) rfl rfl ?_
     refine g_false (j := 4) (dj := 117) (b := true) rfl rfl rfl (ev_hit hN rfl) rfl rfl ?_
     refine op_pick_f (ev_hit hN rfl) rfl ?_
     refine op_assign (ev_hit hN rfl) ?_
     refine reg_nil ?_
     refine hK714 _ _ ?_
     refine seq_any fun K715 hK715 => ?_
     refine one_reg ?_
     refine op_move (ev_hit hN rfl) ?_
     refine op_bin (v := .bool true) (ev_hit hN rfl) rfl (by rw [binOp_eql]; rfl) ?_
     refine op_move (ev_hit hN rfl) ?_
     refine g_true (j := 2) (dj := 124) (b := true) rfl rfl rfl (ev_hit hN rfl) ?_
     refine op_move (ev_hit hN rfl) ?_
     refine g_true (j := 2) (dj := 124) (b := true) rfl rfl rfl (ev_hit hN rfl) ?_
     refine op_bin (v := .bool true) (ev_hit hN rfl) rfl (by rw [binOp_eql]; rfl) ?_
     refine op_pick_t (ev_hit hN rfl) (ev_hit hN rfl) ?_
     refine op_move (ev_hit hN rfl) ?_
     refine g_true (j := 6) (dj := 128) (b := true) rfl rfl rfl (ev_hit hN rfl) ?_
     refine op_move (ev_hit hN rfl) ?_
     refine g_true (j := 6) (dj := 128) (b := true) rfl rfl rfl (ev_hit hN rfl) ?_
     refine op_fn (vs := [(ptr k616 0), (Value.int .i64 2)]) ok62 ⟨(ev_hit hN rfl), ⟨rfl, trivial⟩⟩ (DoomedR' (n := 2) hl696 rfl) ?_
     rintro _ w716 ⟨E717, rfl⟩
     have E717 := grown_of_below E717
     have z_w716 := E717.size
     have hA := hA.keep0 E717
     have hB := hB.keep0 E717
     have hO611 := hO611.keep0 E717
     have hB652 := hB652.keep0 E717
     have hO663 := hO663.keep0 E717
     have hl696 := hl696.keepG (Gr.of0 E717 NoB) (fun _ _ h => h)
     have hO696 := hO696.keep0 E717
     have hO708 := hO708.keep0 E717
     have hb := below_step0 hb E717 hb.size
     refine g_true (j := 6) (dj := 128) (b := true) rfl rfl rfl (ev_hit hN rfl) ?_
     refine op_move (ev_hit hN rfl) ?_
     refine g_true (j := 6) (dj := 128) (b := true) rfl rfl rfl (ev_hit hN rfl) ?_
     refine op_eqb Try.underlying4 (ev_hit hN rfl) (ev_hit hN rfl) ?_
     refine op_pick_t (ev_hit hN rfl) (ev_hit hN rfl) ?_
     refine op_move (ev_hit hN rfl) ?_
     refine g_true (j := 12) (dj := 134) (b := true) rfl rfl rfl (ev_hit hN rfl) ?_
     refine op_move (ev_hit hN rfl) ?_
     refine g_true (j := 12) (dj := 134) (b := true) rfl rfl rfl (ev_hit hN rfl) ?_
     refine op_len_rd Try.underlying35 (ev_hit hN rfl) hO696.rdw ?_
     refine g_true (j := 12) (dj := 134) (b := true) rfl rfl rfl (ev_hit hN rfl) ?_
     refine op_eql (ev_hit hN rfl) rfl (fun c137 => ?_) (fun c137 => ?_)
     · -- 137T
      exact absurd c137 (by simp)
     · -- 137F
      refine g_true (j := 12) (dj := 134) (b := true) rfl rfl rfl (ev_hit hN rfl) ?_
      refine op_move (ev_hit hN rfl) ?_
      refine g_true (j := 12) (dj := 134) (b := true) rfl rfl rfl (ev_hit hN rfl) ?_
      refine op_eqb Try.underlying4 (ev_hit hN rfl) (ev_hit hN rfl) ?_
      refine op_pick_t (ev_hit hN rfl) (ev_hit hN rfl) ?_
      refine op_assign (ev_hit hN rfl) ?_
      refine reg_nil ?_
      refine hK715 _ _ ?_
      refine wp_ret ?_
      refine ret1 rfl hd (ev_hit hN rfl) ⟨_, rfl, ?_⟩
      -- path 25T 29T 37F 88T 137F
      exact ⟨hb, rfl⟩
    · -- 88F
     rw [c88]
     refine g_true (j := 7) (dj := 83) (b := false) rfl rfl rfl (ev_hit hN rfl) ?_
     refine op_pick_t (ev_hit hN rfl) (ev_hit hN rfl) ?_
     refine op_pick_f (ev_hit hN rfl) (ev_hit hN rfl) ?_
     refine op_assign (ev_hit hN rfl) ?_
     refine reg_nil ?_
     refine hK689 _ _ ?_
     refine seq_any fun K718 hK718 => ?_
     refine seq_any fun K719 hK719 => ?_
     refine one_reg ?_
     refine op_move (ev_hit hN rfl) ?_
     refine op_move (ev_hit hN rfl) ?_
     refine g_false (j := 1) (dj := 92) (b := true) rfl rfl rfl (ev_hit hN rfl) rfl rfl ?_
     refine op_pick_f (ev_hit hN rfl) rfl ?_
     refine reg_nil ?_
     refine hK719 _ _ ?_
     refine wp_cond_false (ev_hit hN rfl) ?_
     refine wp_skip ?_
     refine hK718 _ _ ?_
     refine seq_any fun K720 hK720 => ?_
     refine one_reg ?_
     refine op_move (ev_hit hN rfl) ?_
     refine op_bin (v := .bool false) (ev_hit hN rfl) rfl (by rw [binOp_neq]; rfl) ?_
     refine reg_nil ?_
     refine hK720 _ _ ?_
     refine wp_cond_false (ev_hit hN rfl) ?_
     refine wp_skip ?_
     refine hK677 _ _ ?_
     refine seq_any fun K721 hK721 => ?_
     refine one_reg ?_
     refine op_move (ev_hit hN rfl) ?_
     refine op_fn (vs := [(ptr k616 0), (Value.int .i64 1)]) ok60 ⟨(ev_hit hN rfl), ⟨rfl, trivial⟩⟩ (CommitR' (n := 1) (L := ([] : List Int)) (M2 := ([(2, ⟨(joinL aL bL), 3, [([117], aL)], [], false⟩)] : TM)) (E2 := 0) (by omega) (by unfold MOk TOk; simp [st2, wf_i64, hjl, ha8, hb8]) hl680 (com1_l.trans (by rw [hdm]; rfl)) (com1_m.trans (by rw [hdm])) rfl) ?_
     rintro _ w723 ⟨E724, v722, rfl, hO722, F722, hl722, hN722, hd722⟩
     have bd725 := hO611.lt
     have bd726 := hB652.lt
     have bd727 := hO663.lt
     have hl680_old := hl680
     have z_w723 := E724.size
     have hA := hA.keepG E724 (fun k hk => .inr (by have := hl680_old.lt k hk; omega))
     have hB := hB.keepG E724 (fun k hk => .inr (by have := hl680_old.lt k hk; omega))
     have hO611 := hO611.keepG E724 dj686
     have hB652 := hB652.keepG E724 dj687
     have hO663 := hO663.keepG E724 dj688
     have hb := below_stepG hb E724 hb.size (fun k hk => (hl680_old.lt k hk).1)
     have dj728 : Dj (Bl v611) F722 := Dj.stepF hN722 (fun k hk => (bd725 k hk).2) dj686
     have dj729 : ¬ F722 b650 := ne_stepF hN722 bd726 dj687
     have dj730 : Dj (Bl v663) F722 := Dj.stepF hN722 (fun k hk => (bd727 k hk).2) dj688
     have hO722 := hO722.mono (base' := w.heap.size) (by omega)
     have hl722 : LocksR w723 w.heap.size k616 ([(2, ⟨(joinL aL bL), 3, [([117], aL)], [], false⟩)] : TM) F722 := hl722
     refine op_move (ev_hit hN rfl) ?_
     refine op_extract (ev_hit hN rfl) rfl ?_
     refine op_extract (ev_hit hN rfl) rfl ?_
     refine op_assign (ev_hit hN rfl) ?_
     refine op_assign (ev_hit hN rfl) ?_
     refine reg_nil ?_
     refine hK721 _ _ ?_
     refine seq_any fun K731 hK731 => ?_
     refine one_reg ?_
     refine op_move (ev_base hN rfl s1) ?_
     refine op_assign (ev_hit hN rfl) ?_
     refine reg_nil ?_
     refine hK731 _ _ ?_
     refine seq_any fun K732 hK732 => ?_
     refine seq_any fun K733 hK733 => ?_
     refine one_reg ?_
     refine op_move (ev_base hN rfl s4) ?_
     refine reg_nil ?_
     refine hK733 _ _ ?_
     refine wp_cond_true (ev_hit hN rfl) ?_
     refine one_reg ?_
     refine op_move (ev_base hN rfl s0) ?_
     refine op_move (ev_base hN rfl s1) ?_
     refine op_fn (vs := [vA, vB]) ok51 ⟨(ev_hit hN rfl), ⟨(ev_hit hN rfl), trivial⟩⟩ (rjoinW_ret aL bL _ _ _ (by first | assumption | omega | (simp only [List.length_append, List.length_cons, List.length_nil, List.length_drop, List.length_take]; omega) | (dsimp only; omega) | decide | (simp [keyV, be8_len]; done)) (by first | assumption | omega | (simp only [List.length_append, List.length_cons, List.length_nil, List.length_drop, List.length_take]; omega) | (dsimp only; omega) | decide | (simp [keyV, be8_len]; done)) (show RdC w723 0 w723.heap.size 1 vA aL.length (aL.map u16v) from by have hh : RdC w723 0 w723.heap.size 1 _ _ _ := (hA.mono (L' := 0) (B' := w723.heap.size) (Nat.zero_le _) (by omega)); first | exact hh | exact hh.cast (by first | omega | (simp; try omega)) (by first | rfl | simp [u16v])) (show RdC w723 0 w723.heap.size 1 vB bL.length (bL.map u16v) from by have hh : RdC w723 0 w723.heap.size 1 _ _ _ := (hB.mono (L' := 0) (B' := w723.heap.size) (Nat.zero_le _) (by omega)); first | exact hh | exact hh.cast (by first | omega | (simp; try omega)) (by first | rfl | simp [u16v]))) ?_
     rintro v734 w735 ⟨E736, hO734⟩
     have dj737 : DJ v734 v611 := fun k hk hg => by have q1 := (hO734.lt k hk).1; have q2 := (hO611.lt k hg).2; omega
     have dj738 : DJ v734 v663 := fun k hk hg => by have q1 := (hO734.lt k hk).1; have q2 := (hO663.lt k hg).2; omega
     have dj739 : Dj F722 (Bl v734) := Dj.fresh (fun k hk => (hl722.lt k hk).2) (fun k hk => (hO734.lt k hk).1)
     have E736 := grown_of_below E736
     have z_w735 := E736.size
     have hA := hA.keep0 E736
     have hB := hB.keep0 E736
     have hO611 := hO611.keep0 E736
     have hB652 := hB652.keep0 E736
     have hO663 := hO663.keep0 E736
     have hl722 := hl722.keepG (Gr.of0 E736 NoB) (fun _ _ h => h)
     have hO722 := hO722.keep0 E736
     have hb := below_step0 hb E736 hb.size
     have hO734 := hO734.mono (base' := w.heap.size) (by omega)
     refine op_assign (ev_hit hN rfl) ?_
     refine reg_nil ?_
     refine hK732 _ _ ?_
     refine seq_any fun K740 hK740 => ?_
     refine one_reg ?_
     refine op_move (ev_base hN rfl s2) ?_
     refine op_move (ev_hit hN rfl) ?_
     refine g_false (j := 1) (dj := 114) (b := true) rfl rfl rfl (ev_hit hN rfl) rfl rfl ?_
     refine op_pick_f (ev_hit hN rfl) rfl ?_
     refine op_move (ev_hit hN rfl) ?_
     refine g_false (j := 4) (dj := 117) (b := true) rfl rfl rfl (ev_hit hN rfl) rfl rfl ?_
     refine g_false (j := 4) (dj := 117) (b := true) rfl rfl rfl (ev_hit hN rfl) rfl rfl ?_
     refine g_false (j := 4) (dj := 117) (b := true) rfl rfl rfl (ev_hit hN rfl) rfl rfl ?_
     refine op_pick_f (ev_hit hN rfl) rfl ?_
     refine op_assign (ev_hit hN rfl) ?_
     refine reg_nil ?_
     refine hK740 _ _ ?_
     refine seq_any fun K741 hK741 => ?_
     refine one_reg ?_
     refine op_move (ev_hit hN rfl) ?_
     refine op_bin (v := .bool true) (ev_hit hN rfl) rfl (by rw [binOp_eql]; rfl) ?_
     refine op_move (ev_hit hN rfl) ?_
     refine g_true (j := 2) (dj := 124) (b := true) rfl rfl rfl (ev_hit hN rfl) ?_
     refine op_move (ev_hit hN rfl) ?_
     refine g_true (j := 2) (dj := 124) (b := true) rfl rfl rfl (ev_hit hN rfl) ?_
     refine op_bin (v := .bool true) (ev_hit hN rfl) rfl (by rw [binOp_eql]; rfl) ?_
     refine op_pick_t (ev_hit hN rfl) (ev_hit hN rfl) ?_
     refine op_move (ev_hit hN rfl) ?_
     refine g_true (j := 6) (dj := 128) (b := true) rfl rfl rfl (ev_hit hN rfl) ?_
     refine op_move (ev_hit hN rfl) ?_
     refine g_true (j := 6) (dj := 128) (b := true) rfl rfl rfl (ev_hit hN rfl) ?_
     refine op_fn (vs := [(ptr k616 0), (Value.int .i64 2)]) ok62 ⟨(ev_hit hN rfl), ⟨rfl, trivial⟩⟩ (DoomedR' (n := 2) hl722 rfl) ?_
     rintro _ w742 ⟨E743, rfl⟩
     have E743 := grown_of_below E743
     have z_w742 := E743.size
     have hA := hA.keep0 E743
     have hB := hB.keep0 E743
     have hO611 := hO611.keep0 E743
     have hB652 := hB652.keep0 E743
     have hO663 := hO663.keep0 E743
     have hl722 := hl722.keepG (Gr.of0 E743 NoB) (fun _ _ h => h)
     have hO722 := hO722.keep0 E743
     have hO734 := hO734.keep0 E743
     have hb := below_step0 hb E743 hb.size
     refine g_true (j := 6) (dj := 128) (b := true) rfl rfl rfl (ev_hit hN rfl) ?_
     refine op_move (ev_hit hN rfl) ?_
     refine g_true (j := 6) (dj := 128) (b := true) rfl rfl rfl (ev_hit hN rfl) ?_
     refine op_eqb Try.underlying4 (ev_hit hN rfl) (ev_hit hN rfl) ?_
     refine op_pick_t (ev_hit hN rfl) (ev_hit hN rfl) ?_
     refine op_move (ev_hit hN rfl) ?_
     refine g_true (j := 12) (dj := 134) (b := true) rfl rfl rfl (ev_hit hN rfl) ?_
     refine op_move (ev_hit hN rfl) ?_
     refine g_true (j := 12) (dj := 134) (b := true) rfl rfl rfl (ev_hit hN rfl) ?_
     refine op_len_rd Try.underlying35 (ev_hit hN rfl) hO722.rdw ?_
     refine g_true (j := 12) (dj := 134) (b := true) rfl rfl rfl (ev_hit hN rfl) ?_
     refine op_eql (ev_hit hN rfl) rfl (fun c137 => ?_) (fun c137 => ?_)
     · -- 137T
      exact absurd c137 (by simp)
     · -- 137F
      refine g_true (j := 12) (dj := 134) (b := true) rfl rfl rfl (ev_hit hN rfl) ?_
      refine op_move (ev_hit hN rfl) ?_
      refine g_true (j := 12) (dj := 134) (b := true) rfl rfl rfl (ev_hit hN rfl) ?_
      refine op_eqb Try.underlying4 (ev_hit hN rfl) (ev_hit hN rfl) ?_
      refine op_pick_t (ev_hit hN rfl) (ev_hit hN rfl) ?_
      refine op_assign (ev_hit hN rfl) ?_
      refine reg_nil ?_
      refine hK741 _ _ ?_
      refine wp_ret ?_
      refine ret1 rfl hd (ev_hit hN rfl) ⟨_, rfl, ?_⟩
      -- path 25T 29T 37F 88F 137F
      exact ⟨hb, rfl⟩
  · -- 29F
   rw [c29]
   refine g_true (j := 3) (dj := 27) (b := false) rfl rfl rfl (ev_hit hN rfl) ?_
   refine op_not (ev_hit hN rfl) ?_
   refine op_pick_f (ev_hit hN rfl) (ev_hit hN rfl) ?_
   refine op_move (ev_hit hN rfl) ?_
   skip
   refine g_false (j := 8) (dj := 32) (b := false) rfl rfl rfl (ev_hit hN rfl) rfl rfl ?_
   refine g_false (j := 8) (dj := 32) (b := false) rfl rfl rfl (ev_hit hN rfl) rfl rfl ?_
   refine g_false (j := 8) (dj := 32) (b := false) rfl rfl rfl (ev_hit hN rfl) rfl rfl ?_
   refine g_false (j := 8) (dj := 32) (b := false) rfl rfl rfl (ev_hit hN rfl) rfl rfl ?_
   refine g_false (j := 8) (dj := 32) (b := false) rfl rfl rfl (ev_hit hN rfl) rfl rfl ?_
   refine op_pick_t (ev_hit hN rfl) rfl ?_
   refine reg_nil ?_
   refine hK606 _ _ ?_
   refine wp_cond_true (ev_hit hN rfl) ?_
   refine seq_any fun K744 hK744 => ?_
   refine one_reg ?_
   refine op_assign rfl ?_
   refine reg_nil ?_
   refine hK744 _ _ ?_
   refine wp_ret (then_ret ( ?_))
   refine ret1 rfl hd (ev_hit hN rfl) ⟨_, rfl, ?_⟩
   -- path 25T 29F
   exact ⟨hb, rfl⟩
 · -- 25F
  rw [c25]
  refine op_not (ev_hit hN rfl) ?_
  refine op_move (ev_hit hN rfl) ?_
  refine g_false (j := 3) (dj := 27) (b := false) rfl rfl rfl (ev_hit hN rfl) rfl rfl ?_
  refine g_false (j := 3) (dj := 27) (b := false) rfl rfl rfl (ev_hit hN rfl) rfl rfl ?_
  refine g_false (j := 3) (dj := 27) (b := false) rfl rfl rfl (ev_hit hN rfl) rfl rfl ?_
  refine op_pick_t (ev_hit hN rfl) rfl ?_
  refine op_move (ev_hit hN rfl) ?_
  skip
  refine g_false (j := 8) (dj := 32) (b := false) rfl rfl rfl (ev_hit hN rfl) rfl rfl ?_
  refine g_false (j := 8) (dj := 32) (b := false) rfl rfl rfl (ev_hit hN rfl) rfl rfl ?_
  refine g_false (j := 8) (dj := 32) (b := false) rfl rfl rfl (ev_hit hN rfl) rfl rfl ?_
  refine g_false (j := 8) (dj := 32) (b := false) rfl rfl rfl (ev_hit hN rfl) rfl rfl ?_
  refine g_false (j := 8) (dj := 32) (b := false) rfl rfl rfl (ev_hit hN rfl) rfl rfl ?_
  refine op_pick_t (ev_hit hN rfl) rfl ?_
  refine reg_nil ?_
  refine hK606 _ _ ?_
  refine wp_cond_true (ev_hit hN rfl) ?_
  refine seq_any fun K745 hK745 => ?_
  refine one_reg ?_
  refine op_assign rfl ?_
  refine reg_nil ?_
  refine hK745 _ _ ?_
  refine wp_ret (then_ret ( ?_))
  refine ret1 rfl hd (ev_hit hN rfl) ⟨_, rfl, ?_⟩
  -- path 25F
  exact ⟨hb, rfl⟩

theorem LockDooms_ttf_any (aL bL : List UInt16) (vA vB : Value) (w : World) (hal : aL.length ≤ 9223372036854775807) (hbl : bL.length ≤ 9223372036854775807) (hA : RdC w 0 w.heap.size 1 vA aL.length (aL.map u16v)) (hB : RdC w 0 w.heap.size 1 vB bL.length (bL.map u16v)) : Ret Try.prog 13 #[vA, vB, (Value.bool true), (Value.bool false), (Value.bool true)] w (fun v' w' => Below w.heap.size w w' ∧ v' = .bool true) := by
 have hb := Below.refl w.heap.size w
 refine enter (N := 141) Try.func13 rfl rfl (by simp) fun a0 hN hd hA => ?_
 have s0 : a0.tmps.getD 0 undef = vA := hA 0 (by simp)
 have s1 : a0.tmps.getD 1 undef = vB := hA 1 (by simp)
 have s2 : a0.tmps.getD 2 undef = (Value.bool true) := hA 2 (by simp)
 have s3 : a0.tmps.getD 3 undef = (Value.bool false) := hA 3 (by simp)
 have s4 : a0.tmps.getD 4 undef = (Value.bool true) := hA 4 (by simp)
 clear hA
 refine seq_any fun K746 hK746 => ?_
 refine one_reg ?_
 refine op_assign rfl ?_
 refine reg_nil ?_
 refine hK746 _ _ ?_
 refine seq_any fun K747 hK747 => ?_
 refine seq_any fun K748 hK748 => ?_
 refine one_reg ?_
 refine op_fn (vs := []) ok52 trivial (begun19_ret _) ?_
 rintro _ w749 ⟨E750, rfl⟩
 have E750 := grown_of_below E750
 have z_w749 := E750.size
 have hA := hA.keep0 E750
 have hB := hB.keep0 E750
 have hb := below_step0 hb E750 hb.size
 refine op_not (ev_hit hN rfl) ?_
 refine reg_nil ?_
 refine hK748 _ _ ?_
 refine wp_cond_false (ev_hit hN rfl) ?_
 refine wp_skip ?_
 refine hK747 _ _ ?_
 refine seq_any fun K751 hK751 => ?_
 refine seq_any fun K752 hK752 => ?_
 refine one_reg ?_
 refine op_move (ev_base hN rfl s0) ?_
 refine op_fn (vs := [vA]) ok33 ⟨(ev_hit hN rfl), trivial⟩ (refMay_ret aL _ _ (by first | assumption | omega | (simp only [List.length_append, List.length_cons, List.length_nil, List.length_drop, List.length_take]; omega) | (dsimp only; omega) | decide | (simp [keyV, be8_len]; done)) (show RdC w749 0 w749.heap.size 1 vA aL.length (aL.map u16v) from by have hh : RdC w749 0 w749.heap.size 1 _ _ _ := (hA.mono (L' := 0) (B' := w749.heap.size) (Nat.zero_le _) (by omega)); first | exact hh | exact hh.cast (by first | omega | (simp; try omega)) (by first | rfl | simp [u16v]))) ?_
 rintro _ w753 ⟨E754, rfl⟩
 have E754 := grown_of_below E754
 have z_w753 := E754.size
 have hA := hA.keep0 E754
 have hB := hB.keep0 E754
 have hb := below_step0 hb E754 hb.size
 rcases Bool.eq_false_or_eq_true ((mayL aL)) with c25 | c25
 · -- 25T
  rw [c25]
  refine op_not (ev_hit hN rfl) ?_
  refine op_move (ev_hit hN rfl) ?_
  refine g_true (j := 3) (dj := 27) (b := false) rfl rfl rfl (ev_hit hN rfl) ?_
  refine op_move (ev_base hN rfl s1) ?_
  refine g_true (j := 3) (dj := 27) (b := false) rfl rfl rfl (ev_hit hN rfl) ?_
  refine op_fn (vs := [vB]) ok33 ⟨(ev_hit hN rfl), trivial⟩ (refMay_ret bL _ _ (by first | assumption | omega | (simp only [List.length_append, List.length_cons, List.length_nil, List.length_drop, List.length_take]; omega) | (dsimp only; omega) | decide | (simp [keyV, be8_len]; done)) (show RdC w753 0 w753.heap.size 1 vB bL.length (bL.map u16v) from by have hh : RdC w753 0 w753.heap.size 1 _ _ _ := (hB.mono (L' := 0) (B' := w753.heap.size) (Nat.zero_le _) (by omega)); first | exact hh | exact hh.cast (by first | omega | (simp; try omega)) (by first | rfl | simp [u16v]))) ?_
  rintro _ w755 ⟨E756, rfl⟩
  have E756 := grown_of_below E756
  have z_w755 := E756.size
  have hA := hA.keep0 E756
  have hB := hB.keep0 E756
  have hb := below_step0 hb E756 hb.size
  rcases Bool.eq_false_or_eq_true ((mayL bL)) with c29 | c29
  · -- 29T
   rw [c29]
   refine g_true (j := 3) (dj := 27) (b := false) rfl rfl rfl (ev_hit hN rfl) ?_
   refine op_not (ev_hit hN rfl) ?_
   refine op_pick_f (ev_hit hN rfl) (ev_hit hN rfl) ?_
   refine op_move (ev_hit hN rfl) ?_
   have ha8 := mayL_len c25
   have hb8 := mayL_len c29
   refine g_true (j := 8) (dj := 32) (b := false) rfl rfl rfl (ev_hit hN rfl) ?_
   refine op_move (ev_base hN rfl s0) ?_
   refine g_true (j := 8) (dj := 32) (b := false) rfl rfl rfl (ev_hit hN rfl) ?_
   refine op_move (ev_base hN rfl s1) ?_
   refine g_true (j := 8) (dj := 32) (b := false) rfl rfl rfl (ev_hit hN rfl) ?_
   refine op_fn (vs := [vA, vB]) ok51 ⟨(ev_hit hN rfl), ⟨(ev_hit hN rfl), trivial⟩⟩ (rjoinW_ret aL bL _ _ _ (by first | assumption | omega | (simp only [List.length_append, List.length_cons, List.length_nil, List.length_drop, List.length_take]; omega) | (dsimp only; omega) | decide | (simp [keyV, be8_len]; done)) (by first | assumption | omega | (simp only [List.length_append, List.length_cons, List.length_nil, List.length_drop, List.length_take]; omega) | (dsimp only; omega) | decide | (simp [keyV, be8_len]; done)) (show RdC w755 0 w755.heap.size 1 vA aL.length (aL.map u16v) from by have hh : RdC w755 0 w755.heap.size 1 _ _ _ := (hA.mono (L' := 0) (B' := w755.heap.size) (Nat.zero_le _) (by omega)); first | exact hh | exact hh.cast (by first | omega | (simp; try omega)) (by first | rfl | simp [u16v])) (show RdC w755 0 w755.heap.size 1 vB bL.length (bL.map u16v) from by have hh : RdC w755 0 w755.heap.size 1 _ _ _ := (hB.mono (L' := 0) (B' := w755.heap.size) (Nat.zero_le _) (by omega)); first | exact hh | exact hh.cast (by first | omega | (simp; try omega)) (by first | rfl | simp [u16v]))) ?_
   rintro v757 w758 ⟨E759, hO757⟩
   have E759 := grown_of_below E759
   have z_w758 := E759.size
   have hA := hA.keep0 E759
   have hB := hB.keep0 E759
   have hb := below_step0 hb E759 hb.size
   have hO757 := hO757.mono (base' := w.heap.size) (by omega)
   refine g_true (j := 8) (dj := 32) (b := false) rfl rfl rfl (ev_hit hN rfl) ?_
   refine op_len_rd Try.underlying54 (ev_hit hN rfl) hO757.rdw ?_
   refine g_true (j := 8) (dj := 32) (b := false) rfl rfl rfl (ev_hit hN rfl) ?_
   refine op_gtr (ev_hit hN rfl) rfl (fun c37 => ?_) (fun c37 => ?_)
   · -- 37T
    refine op_pick_f (ev_hit hN rfl) (ev_hit hN rfl) ?_
    refine reg_nil ?_
    refine hK752 _ _ ?_
    refine wp_cond_true (ev_hit hN rfl) ?_
    refine seq_any fun K760 hK760 => ?_
    refine one_reg ?_
    refine op_assign rfl ?_
    refine reg_nil ?_
    refine hK760 _ _ ?_
    refine wp_ret (then_ret ( ?_))
    refine ret1 rfl hd (ev_hit hN rfl) ⟨_, rfl, ?_⟩
    -- path 25T 29T 37T
    exact ⟨hb, rfl⟩
   · -- 37F
    refine op_pick_f (ev_hit hN rfl) (ev_hit hN rfl) ?_
    refine reg_nil ?_
    refine hK752 _ _ ?_
    refine wp_cond_false (ev_hit hN rfl) ?_
    refine wp_skip ?_
    refine hK751 _ _ ?_
    refine seq_any fun K761 hK761 => ?_
    refine one_reg ?_
    have hjl : (joinL aL bL).length ≤ 8 := by omega
    skip
    have hfj : flowsL aL (joinL aL bL) = true := flows_joinl
    have hrf : flowsL aL aL = true := flows_refl
    have hdm : dmB aL (joinL aL bL) aL [116] [] = false := by simp [dmB, hfj, hrf]
    refine op_fn (vs := []) ok53 trivial (lockNewR) ?_
    rintro _ w763 ⟨E764, k762, F762, rfl, hl762⟩
    have lo_F762 : ∀ x, F762 x → w758.heap.size ≤ x := fun x hx => (hl762.lt x hx).1
    have dj765 : Dj (Bl v757) F762 := Dj.fresh (fun k hk => (hO757.lt k hk).2) lo_F762
    have E764 := grown_of_below E764
    have z_w763 := E764.size
    have hA := hA.keep0 E764
    have hB := hB.keep0 E764
    have hO757 := hO757.keep0 E764
    have hb := below_step0 hb E764 hb.size
    have hl762 : LocksR w763 w.heap.size k762 ([] : TM) F762 := hl762.mono (by omega)
    refine op_assign (ev_hit hN rfl) ?_
    refine reg_nil ?_
    refine hK761 _ _ ?_
    refine seq_any fun K766 hK766 => ?_
    refine one_reg ?_
    refine op_move (ev_hit hN rfl) ?_
    refine op_move (ev_base hN rfl s0) ?_
    refine op_fn (vs := [(ptr k762 0), (Value.int .i64 1), vA, (Value.int .u64 1)]) ok54 ⟨(ev_hit hN rfl), ⟨rfl, ⟨(ev_hit hN rfl), ⟨rfl, trivial⟩⟩⟩⟩ (lk_conv (EnterR (n := 1) (s := 1) (l := aL) (by omega) (lo := w.heap.size) hA (Nat.le_refl _) (by first | decide | omega) hl762) (A' := (Value.int .i64 0)) (M2 := ([(1, (⟨aL, 1, [], [], false⟩ : TX))] : TM)) (by rfl) (by rfl)) ?_
    rintro _ w768 ⟨E769, rfl, F767, hl767, hN767⟩
    have bd770 := hO757.lt
    have hl762_old := hl762
    have z_w768 := E769.size
    have hA := hA.keepG E769 (fun k hk => .inr (by have := hl762_old.lt k hk; omega))
    have hB := hB.keepG E769 (fun k hk => .inr (by have := hl762_old.lt k hk; omega))
    have hO757 := hO757.keepG E769 dj765
    have hb := below_stepG hb E769 hb.size (fun k hk => (hl762_old.lt k hk).1)
    have dj771 : Dj (Bl v757) F767 := Dj.stepF hN767 (fun k hk => (bd770 k hk).2) dj765
    refine reg_nil ?_
    refine hK766 _ _ ?_
    refine seq_any fun K772 hK772 => ?_
    refine one_reg ?_
    refine op_move (ev_hit hN rfl) ?_
    refine op_move (ev_base hN rfl s1) ?_
    refine op_fn (vs := [(ptr k762 0), (Value.int .i64 2), vB, (Value.int .u64 2)]) ok54 ⟨(ev_hit hN rfl), ⟨rfl, ⟨(ev_hit hN rfl), ⟨rfl, trivial⟩⟩⟩⟩ (lk_conv (EnterR (n := 2) (s := 2) (l := bL) (by omega) (lo := w.heap.size) hB (Nat.le_refl _) (by first | decide | omega) hl767) (A' := (Value.int .i64 0)) (M2 := (st2 aL bL 2 [] [])) (by rfl) (by rfl)) ?_
    rintro _ w774 ⟨E775, rfl, F773, hl773, hN773⟩
    have bd776 := hO757.lt
    have hl767_old := hl767
    have z_w774 := E775.size
    have hA := hA.keepG E775 (fun k hk => .inr (by have := hl767_old.lt k hk; omega))
    have hB := hB.keepG E775 (fun k hk => .inr (by have := hl767_old.lt k hk; omega))
    have hO757 := hO757.keepG E775 dj771
    have hb := below_stepG hb E775 hb.size (fun k hk => (hl767_old.lt k hk).1)
    have dj777 : Dj (Bl v757) F773 := Dj.stepF hN773 (fun k hk => (bd776 k hk).2) dj771
    refine reg_nil ?_
    refine hK772 _ _ ?_
    refine seq_any fun K778 hK778 => ?_
    refine seq_any fun K779 hK779 => ?_
    refine one_reg ?_
    refine op_move (ev_base hN rfl s4) ?_
    refine reg_nil ?_
    refine hK779 _ _ ?_
    refine wp_cond_true (ev_hit hN rfl) ?_
    refine seq_any fun K780 hK780 => ?_
    refine one_reg ?_
    refine op_move (ev_hit hN rfl) ?_
    refine op_fn (vs := [(ptr k762 0), (Value.int .i64 2)]) ok57 ⟨(ev_hit hN rfl), ⟨rfl, trivial⟩⟩ (lk_conv (LeaveR (n := 2) (by omega) hl773) (A' := (Value.int .i64 0)) (M2 := ([(1, (⟨aL, 1, [], [], false⟩ : TX))] : TM)) (by rfl) (by rfl)) ?_
    rintro _ w782 ⟨E783, rfl, F781, hl781, hN781⟩
    have bd784 := hO757.lt
    have hl773_old := hl773
    have z_w782 := E783.size
    have hA := hA.keepG E783 (fun k hk => .inr (by have := hl773_old.lt k hk; omega))
    have hB := hB.keepG E783 (fun k hk => .inr (by have := hl773_old.lt k hk; omega))
    have hO757 := hO757.keepG E783 dj777
    have hb := below_stepG hb E783 hb.size (fun k hk => (hl773_old.lt k hk).1)
    have dj785 : Dj (Bl v757) F781 := Dj.stepF hN781 (fun k hk => (bd784 k hk).2) dj777
    refine reg_nil ?_
    refine hK780 _ _ ?_
    refine one_reg ?_
    refine op_move (ev_hit hN rfl) ?_
    refine op_move (ev_base hN rfl s0) ?_
    refine op_fn (vs := [(ptr k762 0), (Value.int .i64 2), vA, (Value.int .u64 2)]) ok54 ⟨(ev_hit hN rfl), ⟨rfl, ⟨(ev_hit hN rfl), ⟨rfl, trivial⟩⟩⟩⟩ (lk_conv (EnterR (n := 2) (s := 2) (l := aL) (by omega) (lo := w.heap.size) hA (Nat.le_refl _) (by first | decide | omega) hl781) (A' := (Value.int .i64 0)) (M2 := (st2 aL aL 2 [] [])) (by rfl) (by rfl)) ?_
    rintro _ w787 ⟨E788, rfl, F786, hl786, hN786⟩
    have bd789 := hO757.lt
    have hl781_old := hl781
    have z_w787 := E788.size
    have hA := hA.keepG E788 (fun k hk => .inr (by have := hl781_old.lt k hk; omega))
    have hB := hB.keepG E788 (fun k hk => .inr (by have := hl781_old.lt k hk; omega))
    have hO757 := hO757.keepG E788 dj785
    have hb := below_stepG hb E788 hb.size (fun k hk => (hl781_old.lt k hk).1)
    have dj790 : Dj (Bl v757) F786 := Dj.stepF hN786 (fun k hk => (bd789 k hk).2) dj785
    refine reg_nil ?_
    refine hK778 _ _ ?_
    refine seq_any fun K791 hK791 => ?_
    refine one_reg ?_
    refine op_assign rfl ?_
    refine reg_nil ?_
    refine hK791 _ _ ?_
    refine seq_any fun K792 hK792 => ?_
    refine seq_any fun K793 hK793 => ?_
    refine one_reg ?_
    refine op_move (ev_base hN rfl s2) ?_
    refine op_not (ev_hit hN rfl) ?_
    refine reg_nil ?_
    refine hK793 _ _ ?_
    refine wp_cond_false (ev_hit hN rfl) ?_
    refine wp_skip ?_
    refine hK792 _ _ ?_
    refine seq_any fun K794 hK794 => ?_
    refine one_reg ?_
    refine op_move (ev_hit hN rfl) ?_
    refine op_move (ev_hit hN rfl) ?_
    refine op_bslice (e := 9) (pv := [(0, (Value.string (bs [116])))]) (cs := [(Value.string (bs [116]))]) ⟨rfl, (ev_hit hN rfl), trivial⟩ (by kernel_rfl) ?_
    intro w795 b796 lo_b796 hi_b796 hB798 E797
    have dj799 : ¬ F786 b796 := fun hf => by have := (hl786.lt _ hf).2; omega
    have z_w795 := E797.size
    have hA := hA.keep0 E797
    have hB := hB.keep0 E797
    have hO757 := hO757.keep0 E797
    have hl786 := hl786.keepG (Gr.of0 E797 NoB) (fun _ _ h => h)
    have hb := below_step0 hb E797 hb.size
    refine op_fn (vs := [(ptr k762 0), (Value.int .i64 2), (Value.slice (some ⟨b796, 0, none⟩) 1 1), (Value.string (bs []))]) ok55 ⟨(ev_hit hN rfl), ⟨rfl, ⟨(ev_hit hN rfl), ⟨rfl, trivial⟩⟩⟩⟩ (lk_conv (AskR (n := 2) (Rs := [[116]]) (x := []) (by omega) (by unfold MOk TOk; simp [st2, wf_i64, hjl, ha8, hb8]) (by unfold MSm; simp [st2]) (by decide) (Lr := b796) (Br := b796 + 1) (RdC.ofBx (sz := 1) (n := 1) hB798 rfl (by decide)) (by have := hB798.lt; omega) (fun y hy => Nat.lt_or_gt_of_ne (fun e => dj799 (e ▸ hy))) hl786) (A' := (Value.tuple #[(Value.int .i64 1), (Value.int .i64 0)])) (M2 := (st2 aL aL 2 [([116], aL)] [])) (by rw [ask2_v]; rfl) ask2_m) ?_
    rintro _ w801 ⟨E802, rfl, F800, hl800, hN800⟩
    have bd803 := hO757.lt
    have bd804 := hB798.lt
    have hl786_old := hl786
    have z_w801 := E802.size
    have hA := hA.keepG E802 (fun k hk => .inr (by have := hl786_old.lt k hk; omega))
    have hB := hB.keepG E802 (fun k hk => .inr (by have := hl786_old.lt k hk; omega))
    have hO757 := hO757.keepG E802 dj790
    have hB798 := hB798.keepG E802 dj799
    have hb := below_stepG hb E802 hb.size (fun k hk => (hl786_old.lt k hk).1)
    have dj805 : Dj (Bl v757) F800 := Dj.stepF hN800 (fun k hk => (bd803 k hk).2) dj790
    have dj806 : ¬ F800 b796 := ne_stepF hN800 bd804 dj799
    refine op_move (ev_hit hN rfl) ?_
    refine op_extract (ev_hit hN rfl) rfl ?_
    refine op_extract (ev_hit hN rfl) rfl ?_
    refine op_assign (ev_hit hN rfl) ?_
    refine op_assign (ev_hit hN rfl) ?_
    refine reg_nil ?_
    refine hK794 _ _ ?_
    refine seq_any fun K807 hK807 => ?_
    refine seq_any fun K808 hK808 => ?_
    refine one_reg ?_
    refine op_move (ev_base hN rfl s4) ?_
    refine op_move (ev_hit hN rfl) ?_
    refine g_true (j := 1) (dj := 62) (b := true) rfl rfl rfl (ev_hit hN rfl) ?_
    refine op_move (ev_hit hN rfl) ?_
    refine g_true (j := 1) (dj := 62) (b := true) rfl rfl rfl (ev_hit hN rfl) ?_
    refine op_move (ev_base hN rfl s0) ?_
    refine g_true (j := 1) (dj := 62) (b := true) rfl rfl rfl (ev_hit hN rfl) ?_
    refine op_move (ev_base hN rfl s1) ?_
    refine g_true (j := 1) (dj := 62) (b := true) rfl rfl rfl (ev_hit hN rfl) ?_
    refine op_fn (vs := [vA, vB]) ok51 ⟨(ev_hit hN rfl), ⟨(ev_hit hN rfl), trivial⟩⟩ (rjoinW_ret aL bL _ _ _ (by first | assumption | omega | (simp only [List.length_append, List.length_cons, List.length_nil, List.length_drop, List.length_take]; omega) | (dsimp only; omega) | decide | (simp [keyV, be8_len]; done)) (by first | assumption | omega | (simp only [List.length_append, List.length_cons, List.length_nil, List.length_drop, List.length_take]; omega) | (dsimp only; omega) | decide | (simp [keyV, be8_len]; done)) (show RdC w801 0 w801.heap.size 1 vA aL.length (aL.map u16v) from by have hh : RdC w801 0 w801.heap.size 1 _ _ _ := (hA.mono (L' := 0) (B' := w801.heap.size) (Nat.zero_le _) (by omega)); first | exact hh | exact hh.cast (by first | omega | (simp; try omega)) (by first | rfl | simp [u16v])) (show RdC w801 0 w801.heap.size 1 vB bL.length (bL.map u16v) from by have hh : RdC w801 0 w801.heap.size 1 _ _ _ := (hB.mono (L' := 0) (B' := w801.heap.size) (Nat.zero_le _) (by omega)); first | exact hh | exact hh.cast (by first | omega | (simp; try omega)) (by first | rfl | simp [u16v]))) ?_
    rintro v809 w810 ⟨E811, hO809⟩
    have dj812 : DJ v809 v757 := fun k hk hg => by have q1 := (hO809.lt k hk).1; have q2 := (hO757.lt k hg).2; omega
    have dj813 : Dj F800 (Bl v809) := Dj.fresh (fun k hk => (hl800.lt k hk).2) (fun k hk => (hO809.lt k hk).1)
    have E811 := grown_of_below E811
    have z_w810 := E811.size
    have hA := hA.keep0 E811
    have hB := hB.keep0 E811
    have hO757 := hO757.keep0 E811
    have hB798 := hB798.keep0 E811
    have hl800 := hl800.keepG (Gr.of0 E811 NoB) (fun _ _ h => h)
    have hb := below_step0 hb E811 hb.size
    have hO809 := hO809.mono (base' := w.heap.size) (by omega)
    refine g_true (j := 1) (dj := 62) (b := true) rfl rfl rfl (ev_hit hN rfl) ?_
    refine op_fn (vs := [(ptr k762 0), (Value.int .i64 2), v809, (Value.int .u64 3)]) ok59 ⟨(ev_hit hN rfl), ⟨rfl, ⟨(ev_hit hN rfl), ⟨rfl, trivial⟩⟩⟩⟩ (lk_conv (MoveR (n := 2) (s := 3) (l := (joinL aL bL)) (by omega) (hO809.rdw.mono (Nat.zero_le _) (by omega)) (by first | decide | omega) hl800) (A' := (Value.int .i64 0)) (M2 := (st2 aL (joinL aL bL) 3 [([116], aL)] [])) (by rfl) (by rfl)) ?_
    rintro _ w815 ⟨E816, rfl, F814, hl814, hN814⟩
    have bd817 := hO757.lt
    have bd818 := hB798.lt
    have bd819 := hO809.lt
    have hl800_old := hl800
    have z_w815 := E816.size
    have hA := hA.keepG E816 (fun k hk => .inr (by have := hl800_old.lt k hk; omega))
    have hB := hB.keepG E816 (fun k hk => .inr (by have := hl800_old.lt k hk; omega))
    have hO757 := hO757.keepG E816 dj805
    have hB798 := hB798.keepG E816 dj806
    have hO809 := hO809.keepG E816 dj813.symm
    have hb := below_stepG hb E816 hb.size (fun k hk => (hl800_old.lt k hk).1)
    have dj820 : Dj (Bl v757) F814 := Dj.stepF hN814 (fun k hk => (bd817 k hk).2) dj805
    have dj821 : ¬ F814 b796 := ne_stepF hN814 bd818 dj806
    have dj822 : Dj (Bl v809) F814 := Dj.stepF hN814 (fun k hk => (bd819 k hk).2) dj813.symm
    refine g_true (j := 1) (dj := 62) (b := true) rfl rfl rfl (ev_hit hN rfl) ?_
    refine op_bin (v := .bool false) (ev_hit hN rfl) rfl (by rw [binOp_neq]; rfl) ?_
    refine op_pick_t (ev_hit hN rfl) (ev_hit hN rfl) ?_
    refine reg_nil ?_
    refine hK808 _ _ ?_
    refine wp_cond_false (ev_hit hN rfl) ?_
    refine wp_skip ?_
    refine hK807 _ _ ?_
    refine seq_any fun K823 hK823 => ?_
    refine seq_any fun K824 hK824 => ?_
    refine one_reg ?_
    refine op_move (ev_base hN rfl s3) ?_
    refine reg_nil ?_
    refine hK824 _ _ ?_
    refine wp_cond_false (ev_hit hN rfl) ?_
    refine wp_skip ?_
    refine hK823 _ _ ?_
    refine seq_any fun K825 hK825 => ?_
    refine one_reg ?_
    refine op_move (ev_hit hN rfl) ?_
    refine op_fn (vs := [(ptr k762 0), (Value.int .i64 1)]) ok60 ⟨(ev_hit hN rfl), ⟨rfl, trivial⟩⟩ (CommitR' (n := 1) (L := ([] : List Int)) (M2 := ([(2, ⟨(joinL aL bL), 3, [([116], aL)], [], false⟩)] : TM)) (E2 := 0) (by omega) (by unfold MOk TOk; simp [st2, wf_i64, hjl, ha8, hb8]) hl814 (com1_l.trans (by rw [hdm]; rfl)) (com1_m.trans (by rw [hdm])) rfl) ?_
    rintro _ w827 ⟨E828, v826, rfl, hO826, F826, hl826, hN826, hd826⟩
    have bd829 := hO757.lt
    have bd830 := hB798.lt
    have bd831 := hO809.lt
    have hl814_old := hl814
    have z_w827 := E828.size
    have hA := hA.keepG E828 (fun k hk => .inr (by have := hl814_old.lt k hk; omega))
    have hB := hB.keepG E828 (fun k hk => .inr (by have := hl814_old.lt k hk; omega))
    have hO757 := hO757.keepG E828 dj820
    have hB798 := hB798.keepG E828 dj821
    have hO809 := hO809.keepG E828 dj822
    have hb := below_stepG hb E828 hb.size (fun k hk => (hl814_old.lt k hk).1)
    have dj832 : Dj (Bl v757) F826 := Dj.stepF hN826 (fun k hk => (bd829 k hk).2) dj820
    have dj833 : ¬ F826 b796 := ne_stepF hN826 bd830 dj821
    have dj834 : Dj (Bl v809) F826 := Dj.stepF hN826 (fun k hk => (bd831 k hk).2) dj822
    have hO826 := hO826.mono (base' := w.heap.size) (by omega)
    have hl826 : LocksR w827 w.heap.size k762 ([(2, ⟨(joinL aL bL), 3, [([116], aL)], [], false⟩)] : TM) F826 := hl826
    refine op_move (ev_hit hN rfl) ?_
    refine op_extract (ev_hit hN rfl) rfl ?_
    refine op_extract (ev_hit hN rfl) rfl ?_
    refine op_assign (ev_hit hN rfl) ?_
    refine op_assign (ev_hit hN rfl) ?_
    refine reg_nil ?_
    refine hK825 _ _ ?_
    refine seq_any fun K835 hK835 => ?_
    refine one_reg ?_
    refine op_move (ev_base hN rfl s1) ?_
    refine op_assign (ev_hit hN rfl) ?_
    refine reg_nil ?_
    refine hK835 _ _ ?_
    refine seq_any fun K836 hK836 => ?_
    refine seq_any fun K837 hK837 => ?_
    refine one_reg ?_
    refine op_move (ev_base hN rfl s4) ?_
    refine reg_nil ?_
    refine hK837 _ _ ?_
    refine wp_cond_true (ev_hit hN rfl) ?_
    refine one_reg ?_
    refine op_move (ev_base hN rfl s0) ?_
    refine op_move (ev_base hN rfl s1) ?_
    refine op_fn (vs := [vA, vB]) ok51 ⟨(ev_hit hN rfl), ⟨(ev_hit hN rfl), trivial⟩⟩ (rjoinW_ret aL bL _ _ _ (by first | assumption | omega | (simp only [List.length_append, List.length_cons, List.length_nil, List.length_drop, List.length_take]; omega) | (dsimp only; omega) | decide | (simp [keyV, be8_len]; done)) (by first | assumption | omega | (simp only [List.length_append, List.length_cons, List.length_nil, List.length_drop, List.length_take]; omega) | (dsimp only; omega) | decide | (simp [keyV, be8_len]; done)) (show RdC w827 0 w827.heap.size 1 vA aL.length (aL.map u16v) from by have hh : RdC w827 0 w827.heap.size 1 _ _ _ := (hA.mono (L' := 0) (B' := w827.heap.size) (Nat.zero_le _) (by omega)); first | exact hh | exact hh.cast (by first | omega | (simp; try omega)) (by first | rfl | simp [u16v])) (show RdC w827 0 w827.heap.size 1 vB bL.length (bL.map u16v) from by have hh : RdC w827 0 w827.heap.size 1 _ _ _ := (hB.mono (L' := 0) (B' := w827.heap.size) (Nat.zero_le _) (by omega)); first | exact hh | exact hh.cast (by first | omega | (simp; try omega)) (by first | rfl | simp [u16v]))) ?_
    rintro v838 w839 ⟨E840, hO838⟩
    have dj841 : DJ v838 v757 := fun k hk hg => by have q1 := (hO838.lt k hk).1; have q2 := (hO757.lt k hg).2; omega
    have dj842 : DJ v838 v809 := fun k hk hg => by have q1 := (hO838.lt k hk).1; have q2 := (hO809.lt k hg).2; omega
    have dj843 : Dj F826 (Bl v838) := Dj.fresh (fun k hk => (hl826.lt k hk).2) (fun k hk => (hO838.lt k hk).1)
    have E840 := grown_of_below E840
    have z_w839 := E840.size
    have hA := hA.keep0 E840
    have hB := hB.keep0 E840
    have hO757 := hO757.keep0 E840
    have hB798 := hB798.keep0 E840
    have hO809 := hO809.keep0 E840
    have hl826 := hl826.keepG (Gr.of0 E840 NoB) (fun _ _ h => h)
    have hO826 := hO826.keep0 E840
    have hb := below_step0 hb E840 hb.size
    have hO838 := hO838.mono (base' := w.heap.size) (by omega)
    refine op_assign (ev_hit hN rfl) ?_
    refine reg_nil ?_
    refine hK836 _ _ ?_
    refine seq_any fun K844 hK844 => ?_
    refine one_reg ?_
    refine op_move (ev_base hN rfl s2) ?_
    refine op_move (ev_hit hN rfl) ?_
    refine g_true (j := 1) (dj := 114) (b := true) rfl rfl rfl (ev_hit hN rfl) ?_
    refine op_move (ev_base hN rfl s3) ?_
    refine op_pick_t (ev_hit hN rfl) (ev_hit hN rfl) ?_
    refine op_move (ev_hit hN rfl) ?_
    refine g_false (j := 4) (dj := 117) (b := true) rfl rfl rfl (ev_hit hN rfl) rfl rfl ?_
    refine g_false (j := 4) (dj := 117) (b := true) rfl rfl rfl (ev_hit hN rfl) rfl rfl ?_
    refine g_false (j := 4) (dj := 117) (b := true) rfl rfl rfl (ev_hit hN rfl) rfl rfl ?_
    refine op_pick_f (ev_hit hN rfl) rfl ?_
    refine op_assign (ev_hit hN rfl) ?_
    refine reg_nil ?_
    refine hK844 _ _ ?_
    refine seq_any fun K845 hK845 => ?_
    refine one_reg ?_
    refine op_move (ev_hit hN rfl) ?_
    refine op_bin (v := .bool true) (ev_hit hN rfl) rfl (by rw [binOp_eql]; rfl) ?_
    refine op_move (ev_hit hN rfl) ?_
    refine g_true (j := 2) (dj := 124) (b := true) rfl rfl rfl (ev_hit hN rfl) ?_
    refine op_move (ev_hit hN rfl) ?_
    refine g_true (j := 2) (dj := 124) (b := true) rfl rfl rfl (ev_hit hN rfl) ?_
    refine op_bin (v := .bool true) (ev_hit hN rfl) rfl (by rw [binOp_eql]; rfl) ?_
    refine op_pick_t (ev_hit hN rfl) (ev_hit hN rfl) ?_
    refine op_move (ev_hit hN rfl) ?_
    refine g_true (j := 6) (dj := 128) (b := true) rfl rfl rfl (ev_hit hN rfl) ?_
    refine op_move (ev_hit hN rfl) ?_
    refine g_true (j := 6) (dj := 128) (b := true) rfl rfl rfl (ev_hit hN rfl) ?_
    refine op_fn (vs := [(ptr k762 0), (Value.int .i64 2)]) ok62 ⟨(ev_hit hN rfl), ⟨rfl, trivial⟩⟩ (DoomedR' (n := 2) hl826 rfl) ?_
    rintro _ w846 ⟨E847, rfl⟩
    have E847 := grown_of_below E847
    have z_w846 := E847.size
    have hA := hA.keep0 E847
    have hB := hB.keep0 E847
    have hO757 := hO757.keep0 E847
    have hB798 := hB798.keep0 E847
    have hO809 := hO809.keep0 E847
    have hl826 := hl826.keepG (Gr.of0 E847 NoB) (fun _ _ h => h)
    have hO826 := hO826.keep0 E847
    have hO838 := hO838.keep0 E847
    have hb := below_step0 hb E847 hb.size
    refine g_true (j := 6) (dj := 128) (b := true) rfl rfl rfl (ev_hit hN rfl) ?_
    refine op_move (ev_hit hN rfl) ?_
    refine g_true (j := 6) (dj := 128) (b := true) rfl rfl rfl (ev_hit hN rfl) ?_
    refine op_eqb Try.underlying4 (ev_hit hN rfl) (ev_hit hN rfl) ?_
    refine op_pick_t (ev_hit hN rfl) (ev_hit hN rfl) ?_
    refine op_move (ev_hit hN rfl) ?_
    refine g_true (j := 12) (dj := 134) (b := true) rfl rfl rfl (ev_hit hN rfl) ?_
    refine op_move (ev_hit hN rfl) ?_
    refine g_true (j := 12) (dj := 134) (b := true) rfl rfl rfl (ev_hit hN rfl) ?_
    refine op_len_rd Try.underlying35 (ev_hit hN rfl) hO826.rdw ?_
    refine g_true (j := 12) (dj := 134) (b := true) rfl rfl rfl (ev_hit hN rfl) ?_
    refine op_eql (ev_hit hN rfl) rfl (fun c137 => ?_) (fun c137 => ?_)
    · -- 137T
     exact absurd c137 (by simp)
    · -- 137F
     refine g_true (j := 12) (dj := 134) (b := true) rfl rfl rfl (ev_hit hN rfl) ?_
     refine op_move (ev_hit hN rfl) ?_
     refine g_true (j := 12) (dj := 134) (b := true) rfl rfl rfl (ev_hit hN rfl) ?_
     refine op_eqb Try.underlying4 (ev_hit hN rfl) (ev_hit hN rfl) ?_
     refine op_pick_t (ev_hit hN rfl) (ev_hit hN rfl) ?_
     refine op_assign (ev_hit hN rfl) ?_
     refine reg_nil ?_
     refine hK845 _ _ ?_
     refine wp_ret ?_
     refine ret1 rfl hd (ev_hit hN rfl) ⟨_, rfl, ?_⟩
     -- path 25T 29T 37F 137F
     exact ⟨hb, rfl⟩
  · -- 29F
   rw [c29]
   refine g_true (j := 3) (dj := 27) (b := false) rfl rfl rfl (ev_hit hN rfl) ?_
   refine op_not (ev_hit hN rfl) ?_
   refine op_pick_f (ev_hit hN rfl) (ev_hit hN rfl) ?_
   refine op_move (ev_hit hN rfl) ?_
   skip
   refine g_false (j := 8) (dj := 32) (b := false) rfl rfl rfl (ev_hit hN rfl) rfl rfl ?_
   refine g_false (j := 8) (dj := 32) (b := false) rfl rfl rfl (ev_hit hN rfl) rfl rfl ?_
   refine g_false (j := 8) (dj := 32) (b := false) rfl rfl rfl (ev_hit hN rfl) rfl rfl ?_
   refine g_false (j := 8) (dj := 32) (b := false) rfl rfl rfl (ev_hit hN rfl) rfl rfl ?_
   refine g_false (j := 8) (dj := 32) (b := false) rfl rfl rfl (ev_hit hN rfl) rfl rfl ?_
   refine op_pick_t (ev_hit hN rfl) rfl ?_
   refine reg_nil ?_
   refine hK752 _ _ ?_
   refine wp_cond_true (ev_hit hN rfl) ?_
   refine seq_any fun K848 hK848 => ?_
   refine one_reg ?_
   refine op_assign rfl ?_
   refine reg_nil ?_
   refine hK848 _ _ ?_
   refine wp_ret (then_ret ( ?_))
   refine ret1 rfl hd (ev_hit hN rfl) ⟨_, rfl, ?_⟩
   -- path 25T 29F
   exact ⟨hb, rfl⟩
 · -- 25F
  rw [c25]
  refine op_not (ev_hit hN rfl) ?_
  refine op_move (ev_hit hN rfl) ?_
  refine g_false (j := 3) (dj := 27) (b := false) rfl rfl rfl (ev_hit hN rfl) rfl rfl ?_
  refine g_false (j := 3) (dj := 27) (b := false) rfl rfl rfl (ev_hit hN rfl) rfl rfl ?_
  refine g_false (j := 3) (dj := 27) (b := false) rfl rfl rfl (ev_hit hN rfl) rfl rfl ?_
  refine op_pick_t (ev_hit hN rfl) rfl ?_
  refine op_move (ev_hit hN rfl) ?_
  skip
  refine g_false (j := 8) (dj := 32) (b := false) rfl rfl rfl (ev_hit hN rfl) rfl rfl ?_
  refine g_false (j := 8) (dj := 32) (b := false) rfl rfl rfl (ev_hit hN rfl) rfl rfl ?_
  refine g_false (j := 8) (dj := 32) (b := false) rfl rfl rfl (ev_hit hN rfl) rfl rfl ?_
  refine g_false (j := 8) (dj := 32) (b := false) rfl rfl rfl (ev_hit hN rfl) rfl rfl ?_
  refine g_false (j := 8) (dj := 32) (b := false) rfl rfl rfl (ev_hit hN rfl) rfl rfl ?_
  refine op_pick_t (ev_hit hN rfl) rfl ?_
  refine reg_nil ?_
  refine hK752 _ _ ?_
  refine wp_cond_true (ev_hit hN rfl) ?_
  refine seq_any fun K849 hK849 => ?_
  refine one_reg ?_
  refine op_assign rfl ?_
  refine reg_nil ?_
  refine hK849 _ _ ?_
  refine wp_ret (then_ret ( ?_))
  refine ret1 rfl hd (ev_hit hN rfl) ⟨_, rfl, ?_⟩
  -- path 25F
  exact ⟨hb, rfl⟩

theorem LockDooms_ttt_eq (aL bL : List UInt16) (vA vB : Value) (w : World) (hal : aL.length ≤ 9223372036854775807) (hbl : bL.length ≤ 9223372036854775807) (hA : RdC w 0 w.heap.size 1 vA aL.length (aL.map u16v)) (hB : RdC w 0 w.heap.size 1 vB bL.length (bL.map u16v)) (hg : flowsL bL aL = true) : Ret Try.prog 13 #[vA, vB, (Value.bool true), (Value.bool true), (Value.bool true)] w (fun v' w' => Below w.heap.size w w' ∧ v' = .bool true) := by
 have hb := Below.refl w.heap.size w
 refine enter (N := 141) Try.func13 rfl rfl (by simp) fun a0 hN hd hA => ?_
 have s0 : a0.tmps.getD 0 undef = vA := hA 0 (by simp)
 have s1 : a0.tmps.getD 1 undef = vB := hA 1 (by simp)
 have s2 : a0.tmps.getD 2 undef = (Value.bool true) := hA 2 (by simp)
 have s3 : a0.tmps.getD 3 undef = (Value.bool true) := hA 3 (by simp)
 have s4 : a0.tmps.getD 4 undef = (Value.bool true) := hA 4 (by simp)
 clear hA
 refine seq_any fun K850 hK850 => ?_
 refine one_reg ?_
 refine op_assign rfl ?_
 refine reg_nil ?_
 refine hK850 _ _ ?_
 refine seq_any fun K851 hK851 => ?_
 refine seq_any fun K852 hK852 => ?_
 refine one_reg ?_
 refine op_fn (vs := []) ok52 trivial (begun19_ret _) ?_
 rintro _ w853 ⟨E854, rfl⟩
 have E854 := grown_of_below E854
 have z_w853 := E854.size
 have hA := hA.keep0 E854
 have hB := hB.keep0 E854
 have hb := below_step0 hb E854 hb.size
 refine op_not (ev_hit hN rfl) ?_
 refine reg_nil ?_
 refine hK852 _ _ ?_
 refine wp_cond_false (ev_hit hN rfl) ?_
 refine wp_skip ?_
 refine hK851 _ _ ?_
 refine seq_any fun K855 hK855 => ?_
 refine seq_any fun K856 hK856 => ?_
 refine one_reg ?_
 refine op_move (ev_base hN rfl s0) ?_
 refine op_fn (vs := [vA]) ok33 ⟨(ev_hit hN rfl), trivial⟩ (refMay_ret aL _ _ (by first | assumption | omega | (simp only [List.length_append, List.length_cons, List.length_nil, List.length_drop, List.length_take]; omega) | (dsimp only; omega) | decide | (simp [keyV, be8_len]; done)) (show RdC w853 0 w853.heap.size 1 vA aL.length (aL.map u16v) from by have hh : RdC w853 0 w853.heap.size 1 _ _ _ := (hA.mono (L' := 0) (B' := w853.heap.size) (Nat.zero_le _) (by omega)); first | exact hh | exact hh.cast (by first | omega | (simp; try omega)) (by first | rfl | simp [u16v]))) ?_
 rintro _ w857 ⟨E858, rfl⟩
 have E858 := grown_of_below E858
 have z_w857 := E858.size
 have hA := hA.keep0 E858
 have hB := hB.keep0 E858
 have hb := below_step0 hb E858 hb.size
 rcases Bool.eq_false_or_eq_true ((mayL aL)) with c25 | c25
 · -- 25T
  rw [c25]
  refine op_not (ev_hit hN rfl) ?_
  refine op_move (ev_hit hN rfl) ?_
  refine g_true (j := 3) (dj := 27) (b := false) rfl rfl rfl (ev_hit hN rfl) ?_
  refine op_move (ev_base hN rfl s1) ?_
  refine g_true (j := 3) (dj := 27) (b := false) rfl rfl rfl (ev_hit hN rfl) ?_
  refine op_fn (vs := [vB]) ok33 ⟨(ev_hit hN rfl), trivial⟩ (refMay_ret bL _ _ (by first | assumption | omega | (simp only [List.length_append, List.length_cons, List.length_nil, List.length_drop, List.length_take]; omega) | (dsimp only; omega) | decide | (simp [keyV, be8_len]; done)) (show RdC w857 0 w857.heap.size 1 vB bL.length (bL.map u16v) from by have hh : RdC w857 0 w857.heap.size 1 _ _ _ := (hB.mono (L' := 0) (B' := w857.heap.size) (Nat.zero_le _) (by omega)); first | exact hh | exact hh.cast (by first | omega | (simp; try omega)) (by first | rfl | simp [u16v]))) ?_
  rintro _ w859 ⟨E860, rfl⟩
  have E860 := grown_of_below E860
  have z_w859 := E860.size
  have hA := hA.keep0 E860
  have hB := hB.keep0 E860
  have hb := below_step0 hb E860 hb.size
  rcases Bool.eq_false_or_eq_true ((mayL bL)) with c29 | c29
  · -- 29T
   rw [c29]
   refine g_true (j := 3) (dj := 27) (b := false) rfl rfl rfl (ev_hit hN rfl) ?_
   refine op_not (ev_hit hN rfl) ?_
   refine op_pick_f (ev_hit hN rfl) (ev_hit hN rfl) ?_
   refine op_move (ev_hit hN rfl) ?_
   have ha8 := mayL_len c25
   have hb8 := mayL_len c29
   refine g_true (j := 8) (dj := 32) (b := false) rfl rfl rfl (ev_hit hN rfl) ?_
   refine op_move (ev_base hN rfl s0) ?_
   refine g_true (j := 8) (dj := 32) (b := false) rfl rfl rfl (ev_hit hN rfl) ?_
   refine op_move (ev_base hN rfl s1) ?_
   refine g_true (j := 8) (dj := 32) (b := false) rfl rfl rfl (ev_hit hN rfl) ?_
   refine op_fn (vs := [vA, vB]) ok51 ⟨(ev_hit hN rfl), ⟨(ev_hit hN rfl), trivial⟩⟩ (rjoinW_ret aL bL _ _ _ (by first | assumption | omega | (simp only [List.length_append, List.length_cons, List.length_nil, List.length_drop, List.length_take]; omega) | (dsimp only; omega) | decide | (simp [keyV, be8_len]; done)) (by first | assumption | omega | (simp only [List.length_append, List.length_cons, List.length_nil, List.length_drop, List.length_take]; omega) | (dsimp only; omega) | decide | (simp [keyV, be8_len]; done)) (show RdC w859 0 w859.heap.size 1 vA aL.length (aL.map u16v) from by have hh : RdC w859 0 w859.heap.size 1 _ _ _ := (hA.mono (L' := 0) (B' := w859.heap.size) (Nat.zero_le _) (by omega)); first | exact hh | exact hh.cast (by first | omega | (simp; try omega)) (by first | rfl | simp [u16v])) (show RdC w859 0 w859.heap.size 1 vB bL.length (bL.map u16v) from by have hh : RdC w859 0 w859.heap.size 1 _ _ _ := (hB.mono (L' := 0) (B' := w859.heap.size) (Nat.zero_le _) (by omega)); first | exact hh | exact hh.cast (by first | omega | (simp; try omega)) (by first | rfl | simp [u16v]))) ?_
   rintro v861 w862 ⟨E863, hO861⟩
   have E863 := grown_of_below E863
   have z_w862 := E863.size
   have hA := hA.keep0 E863
   have hB := hB.keep0 E863
   have hb := below_step0 hb E863 hb.size
   have hO861 := hO861.mono (base' := w.heap.size) (by omega)
   refine g_true (j := 8) (dj := 32) (b := false) rfl rfl rfl (ev_hit hN rfl) ?_
   refine op_len_rd Try.underlying54 (ev_hit hN rfl) hO861.rdw ?_
   refine g_true (j := 8) (dj := 32) (b := false) rfl rfl rfl (ev_hit hN rfl) ?_
   refine op_gtr (ev_hit hN rfl) rfl (fun c37 => ?_) (fun c37 => ?_)
   · -- 37T
    refine op_pick_f (ev_hit hN rfl) (ev_hit hN rfl) ?_
    refine reg_nil ?_
    refine hK856 _ _ ?_
    refine wp_cond_true (ev_hit hN rfl) ?_
    refine seq_any fun K864 hK864 => ?_
    refine one_reg ?_
    refine op_assign rfl ?_
    refine reg_nil ?_
    refine hK864 _ _ ?_
    refine wp_ret (then_ret ( ?_))
    refine ret1 rfl hd (ev_hit hN rfl) ⟨_, rfl, ?_⟩
    -- path 25T 29T 37T
    exact ⟨hb, rfl⟩
   · -- 37F
    refine op_pick_f (ev_hit hN rfl) (ev_hit hN rfl) ?_
    refine reg_nil ?_
    refine hK856 _ _ ?_
    refine wp_cond_false (ev_hit hN rfl) ?_
    refine wp_skip ?_
    refine hK855 _ _ ?_
    refine seq_any fun K865 hK865 => ?_
    refine one_reg ?_
    have hjl : (joinL aL bL).length ≤ 8 := by omega
    have hs2 : joinL aL bL = aL := (join_self_iff c25).2 hg
    have hfl : flowsL aL aL = true := flows_refl
    have hfj : flowsL aL (joinL aL bL) = true := flows_joinl
    have hrf : flowsL aL aL = true := flows_refl
    have hdm : dmB aL (joinL aL bL) aL [116] [[116]] = false := by simp [dmB, hs2, hfj, hrf]
    refine op_fn (vs := []) ok53 trivial (lockNewR) ?_
    rintro _ w867 ⟨E868, k866, F866, rfl, hl866⟩
    have lo_F866 : ∀ x, F866 x → w862.heap.size ≤ x := fun x hx => (hl866.lt x hx).1
    have dj869 : Dj (Bl v861) F866 := Dj.fresh (fun k hk => (hO861.lt k hk).2) lo_F866
    have E868 := grown_of_below E868
    have z_w867 := E868.size
    have hA := hA.keep0 E868
    have hB := hB.keep0 E868
    have hO861 := hO861.keep0 E868
    have hb := below_step0 hb E868 hb.size
    have hl866 : LocksR w867 w.heap.size k866 ([] : TM) F866 := hl866.mono (by omega)
    refine op_assign (ev_hit hN rfl) ?_
    refine reg_nil ?_
    refine hK865 _ _ ?_
    refine seq_any fun K870 hK870 => ?_
    refine one_reg ?_
    refine op_move (ev_hit hN rfl) ?_
    refine op_move (ev_base hN rfl s0) ?_
    refine op_fn (vs := [(ptr k866 0), (Value.int .i64 1), vA, (Value.int .u64 1)]) ok54 ⟨(ev_hit hN rfl), ⟨rfl, ⟨(ev_hit hN rfl), ⟨rfl, trivial⟩⟩⟩⟩ (lk_conv (EnterR (n := 1) (s := 1) (l := aL) (by omega) (lo := w.heap.size) hA (Nat.le_refl _) (by first | decide | omega) hl866) (A' := (Value.int .i64 0)) (M2 := ([(1, (⟨aL, 1, [], [], false⟩ : TX))] : TM)) (by rfl) (by rfl)) ?_
    rintro _ w872 ⟨E873, rfl, F871, hl871, hN871⟩
    have bd874 := hO861.lt
    have hl866_old := hl866
    have z_w872 := E873.size
    have hA := hA.keepG E873 (fun k hk => .inr (by have := hl866_old.lt k hk; omega))
    have hB := hB.keepG E873 (fun k hk => .inr (by have := hl866_old.lt k hk; omega))
    have hO861 := hO861.keepG E873 dj869
    have hb := below_stepG hb E873 hb.size (fun k hk => (hl866_old.lt k hk).1)
    have dj875 : Dj (Bl v861) F871 := Dj.stepF hN871 (fun k hk => (bd874 k hk).2) dj869
    refine reg_nil ?_
    refine hK870 _ _ ?_
    refine seq_any fun K876 hK876 => ?_
    refine one_reg ?_
    refine op_move (ev_hit hN rfl) ?_
    refine op_move (ev_base hN rfl s1) ?_
    refine op_fn (vs := [(ptr k866 0), (Value.int .i64 2), vB, (Value.int .u64 2)]) ok54 ⟨(ev_hit hN rfl), ⟨rfl, ⟨(ev_hit hN rfl), ⟨rfl, trivial⟩⟩⟩⟩ (lk_conv (EnterR (n := 2) (s := 2) (l := bL) (by omega) (lo := w.heap.size) hB (Nat.le_refl _) (by first | decide | omega) hl871) (A' := (Value.int .i64 0)) (M2 := (st2 aL bL 2 [] [])) (by rfl) (by rfl)) ?_
    rintro _ w878 ⟨E879, rfl, F877, hl877, hN877⟩
    have bd880 := hO861.lt
    have hl871_old := hl871
    have z_w878 := E879.size
    have hA := hA.keepG E879 (fun k hk => .inr (by have := hl871_old.lt k hk; omega))
    have hB := hB.keepG E879 (fun k hk => .inr (by have := hl871_old.lt k hk; omega))
    have hO861 := hO861.keepG E879 dj875
    have hb := below_stepG hb E879 hb.size (fun k hk => (hl871_old.lt k hk).1)
    have dj881 : Dj (Bl v861) F877 := Dj.stepF hN877 (fun k hk => (bd880 k hk).2) dj875
    refine reg_nil ?_
    refine hK876 _ _ ?_
    refine seq_any fun K882 hK882 => ?_
    refine seq_any fun K883 hK883 => ?_
    refine one_reg ?_
    refine op_move (ev_base hN rfl s4) ?_
    refine reg_nil ?_
    refine hK883 _ _ ?_
    refine wp_cond_true (ev_hit hN rfl) ?_
    refine seq_any fun K884 hK884 => ?_
    refine one_reg ?_
    refine op_move (ev_hit hN rfl) ?_
    refine op_fn (vs := [(ptr k866 0), (Value.int .i64 2)]) ok57 ⟨(ev_hit hN rfl), ⟨rfl, trivial⟩⟩ (lk_conv (LeaveR (n := 2) (by omega) hl877) (A' := (Value.int .i64 0)) (M2 := ([(1, (⟨aL, 1, [], [], false⟩ : TX))] : TM)) (by rfl) (by rfl)) ?_
    rintro _ w886 ⟨E887, rfl, F885, hl885, hN885⟩
    have bd888 := hO861.lt
    have hl877_old := hl877
    have z_w886 := E887.size
    have hA := hA.keepG E887 (fun k hk => .inr (by have := hl877_old.lt k hk; omega))
    have hB := hB.keepG E887 (fun k hk => .inr (by have := hl877_old.lt k hk; omega))
    have hO861 := hO861.keepG E887 dj881
    have hb := below_stepG hb E887 hb.size (fun k hk => (hl877_old.lt k hk).1)
    have dj889 : Dj (Bl v861) F885 := Dj.stepF hN885 (fun k hk => (bd888 k hk).2) dj881
    refine reg_nil ?_
    refine hK884 _ _ ?_
    refine one_reg ?_
    refine op_move (ev_hit hN rfl) ?_
    refine op_move (ev_base hN rfl s0) ?_
    refine op_fn (vs := [(ptr k866 0), (Value.int .i64 2), vA, (Value.int .u64 2)]) ok54 ⟨(ev_hit hN rfl), ⟨rfl, ⟨(ev_hit hN rfl), ⟨rfl, trivial⟩⟩⟩⟩ (lk_conv (EnterR (n := 2) (s := 2) (l := aL) (by omega) (lo := w.heap.size) hA (Nat.le_refl _) (by first | decide | omega) hl885) (A' := (Value.int .i64 0)) (M2 := (st2 aL aL 2 [] [])) (by rfl) (by rfl)) ?_
    rintro _ w891 ⟨E892, rfl, F890, hl890, hN890⟩
    have bd893 := hO861.lt
    have hl885_old := hl885
    have z_w891 := E892.size
    have hA := hA.keepG E892 (fun k hk => .inr (by have := hl885_old.lt k hk; omega))
    have hB := hB.keepG E892 (fun k hk => .inr (by have := hl885_old.lt k hk; omega))
    have hO861 := hO861.keepG E892 dj889
    have hb := below_stepG hb E892 hb.size (fun k hk => (hl885_old.lt k hk).1)
    have dj894 : Dj (Bl v861) F890 := Dj.stepF hN890 (fun k hk => (bd893 k hk).2) dj889
    refine reg_nil ?_
    refine hK882 _ _ ?_
    refine seq_any fun K895 hK895 => ?_
    refine one_reg ?_
    refine op_assign rfl ?_
    refine reg_nil ?_
    refine hK895 _ _ ?_
    refine seq_any fun K896 hK896 => ?_
    refine seq_any fun K897 hK897 => ?_
    refine one_reg ?_
    refine op_move (ev_base hN rfl s2) ?_
    refine op_not (ev_hit hN rfl) ?_
    refine reg_nil ?_
    refine hK897 _ _ ?_
    refine wp_cond_false (ev_hit hN rfl) ?_
    refine wp_skip ?_
    refine hK896 _ _ ?_
    refine seq_any fun K898 hK898 => ?_
    refine one_reg ?_
    refine op_move (ev_hit hN rfl) ?_
    refine op_move (ev_hit hN rfl) ?_
    refine op_bslice (e := 9) (pv := [(0, (Value.string (bs [116])))]) (cs := [(Value.string (bs [116]))]) ⟨rfl, (ev_hit hN rfl), trivial⟩ (by kernel_rfl) ?_
    intro w899 b900 lo_b900 hi_b900 hB902 E901
    have dj903 : ¬ F890 b900 := fun hf => by have := (hl890.lt _ hf).2; omega
    have z_w899 := E901.size
    have hA := hA.keep0 E901
    have hB := hB.keep0 E901
    have hO861 := hO861.keep0 E901
    have hl890 := hl890.keepG (Gr.of0 E901 NoB) (fun _ _ h => h)
    have hb := below_step0 hb E901 hb.size
    refine op_fn (vs := [(ptr k866 0), (Value.int .i64 2), (Value.slice (some ⟨b900, 0, none⟩) 1 1), (Value.string (bs []))]) ok55 ⟨(ev_hit hN rfl), ⟨rfl, ⟨(ev_hit hN rfl), ⟨rfl, trivial⟩⟩⟩⟩ (lk_conv (AskR (n := 2) (Rs := [[116]]) (x := []) (by omega) (by unfold MOk TOk; simp [st2, wf_i64, hjl, ha8, hb8]) (by unfold MSm; simp [st2]) (by decide) (Lr := b900) (Br := b900 + 1) (RdC.ofBx (sz := 1) (n := 1) hB902 rfl (by decide)) (by have := hB902.lt; omega) (fun y hy => Nat.lt_or_gt_of_ne (fun e => dj903 (e ▸ hy))) hl890) (A' := (Value.tuple #[(Value.int .i64 1), (Value.int .i64 0)])) (M2 := (st2 aL aL 2 [([116], aL)] [])) (by rw [ask2_v]; rfl) ask2_m) ?_
    rintro _ w905 ⟨E906, rfl, F904, hl904, hN904⟩
    have bd907 := hO861.lt
    have bd908 := hB902.lt
    have hl890_old := hl890
    have z_w905 := E906.size
    have hA := hA.keepG E906 (fun k hk => .inr (by have := hl890_old.lt k hk; omega))
    have hB := hB.keepG E906 (fun k hk => .inr (by have := hl890_old.lt k hk; omega))
    have hO861 := hO861.keepG E906 dj894
    have hB902 := hB902.keepG E906 dj903
    have hb := below_stepG hb E906 hb.size (fun k hk => (hl890_old.lt k hk).1)
    have dj909 : Dj (Bl v861) F904 := Dj.stepF hN904 (fun k hk => (bd907 k hk).2) dj894
    have dj910 : ¬ F904 b900 := ne_stepF hN904 bd908 dj903
    refine op_move (ev_hit hN rfl) ?_
    refine op_extract (ev_hit hN rfl) rfl ?_
    refine op_extract (ev_hit hN rfl) rfl ?_
    refine op_assign (ev_hit hN rfl) ?_
    refine op_assign (ev_hit hN rfl) ?_
    refine reg_nil ?_
    refine hK898 _ _ ?_
    refine seq_any fun K911 hK911 => ?_
    refine seq_any fun K912 hK912 => ?_
    refine one_reg ?_
    refine op_move (ev_base hN rfl s4) ?_
    refine op_move (ev_hit hN rfl) ?_
    refine g_true (j := 1) (dj := 62) (b := true) rfl rfl rfl (ev_hit hN rfl) ?_
    refine op_move (ev_hit hN rfl) ?_
    refine g_true (j := 1) (dj := 62) (b := true) rfl rfl rfl (ev_hit hN rfl) ?_
    refine op_move (ev_base hN rfl s0) ?_
    refine g_true (j := 1) (dj := 62) (b := true) rfl rfl rfl (ev_hit hN rfl) ?_
    refine op_move (ev_base hN rfl s1) ?_
    refine g_true (j := 1) (dj := 62) (b := true) rfl rfl rfl (ev_hit hN rfl) ?_
    refine op_fn (vs := [vA, vB]) ok51 ⟨(ev_hit hN rfl), ⟨(ev_hit hN rfl), trivial⟩⟩ (rjoinW_ret aL bL _ _ _ (by first | assumption | omega | (simp only [List.length_append, List.length_cons, List.length_nil, List.length_drop, List.length_take]; omega) | (dsimp only; omega) | decide | (simp [keyV, be8_len]; done)) (by first | assumption | omega | (simp only [List.length_append, List.length_cons, List.length_nil, List.length_drop, List.length_take]; omega) | (dsimp only; omega) | decide | (simp [keyV, be8_len]; done)) (show RdC w905 0 w905.heap.size 1 vA aL.length (aL.map u16v) from by have hh : RdC w905 0 w905.heap.size 1 _ _ _ := (hA.mono (L' := 0) (B' := w905.heap.size) (Nat.zero_le _) (by omega)); first | exact hh | exact hh.cast (by first | omega | (simp; try omega)) (by first | rfl | simp [u16v])) (show RdC w905 0 w905.heap.size 1 vB bL.length (bL.map u16v) from by have hh : RdC w905 0 w905.heap.size 1 _ _ _ := (hB.mono (L' := 0) (B' := w905.heap.size) (Nat.zero_le _) (by omega)); first | exact hh | exact hh.cast (by first | omega | (simp; try omega)) (by first | rfl | simp [u16v]))) ?_
    rintro v913 w914 ⟨E915, hO913⟩
    have dj916 : DJ v913 v861 := fun k hk hg => by have q1 := (hO913.lt k hk).1; have q2 := (hO861.lt k hg).2; omega
    have dj917 : Dj F904 (Bl v913) := Dj.fresh (fun k hk => (hl904.lt k hk).2) (fun k hk => (hO913.lt k hk).1)
    have E915 := grown_of_below E915
    have z_w914 := E915.size
    have hA := hA.keep0 E915
    have hB := hB.keep0 E915
    have hO861 := hO861.keep0 E915
    have hB902 := hB902.keep0 E915
    have hl904 := hl904.keepG (Gr.of0 E915 NoB) (fun _ _ h => h)
    have hb := below_step0 hb E915 hb.size
    have hO913 := hO913.mono (base' := w.heap.size) (by omega)
    refine g_true (j := 1) (dj := 62) (b := true) rfl rfl rfl (ev_hit hN rfl) ?_
    refine op_fn (vs := [(ptr k866 0), (Value.int .i64 2), v913, (Value.int .u64 3)]) ok59 ⟨(ev_hit hN rfl), ⟨rfl, ⟨(ev_hit hN rfl), ⟨rfl, trivial⟩⟩⟩⟩ (lk_conv (MoveR (n := 2) (s := 3) (l := (joinL aL bL)) (by omega) (hO913.rdw.mono (Nat.zero_le _) (by omega)) (by first | decide | omega) hl904) (A' := (Value.int .i64 0)) (M2 := (st2 aL (joinL aL bL) 3 [([116], aL)] [])) (by rfl) (by rfl)) ?_
    rintro _ w919 ⟨E920, rfl, F918, hl918, hN918⟩
    have bd921 := hO861.lt
    have bd922 := hB902.lt
    have bd923 := hO913.lt
    have hl904_old := hl904
    have z_w919 := E920.size
    have hA := hA.keepG E920 (fun k hk => .inr (by have := hl904_old.lt k hk; omega))
    have hB := hB.keepG E920 (fun k hk => .inr (by have := hl904_old.lt k hk; omega))
    have hO861 := hO861.keepG E920 dj909
    have hB902 := hB902.keepG E920 dj910
    have hO913 := hO913.keepG E920 dj917.symm
    have hb := below_stepG hb E920 hb.size (fun k hk => (hl904_old.lt k hk).1)
    have dj924 : Dj (Bl v861) F918 := Dj.stepF hN918 (fun k hk => (bd921 k hk).2) dj909
    have dj925 : ¬ F918 b900 := ne_stepF hN918 bd922 dj910
    have dj926 : Dj (Bl v913) F918 := Dj.stepF hN918 (fun k hk => (bd923 k hk).2) dj917.symm
    refine g_true (j := 1) (dj := 62) (b := true) rfl rfl rfl (ev_hit hN rfl) ?_
    refine op_bin (v := .bool false) (ev_hit hN rfl) rfl (by rw [binOp_neq]; rfl) ?_
    refine op_pick_t (ev_hit hN rfl) (ev_hit hN rfl) ?_
    refine reg_nil ?_
    refine hK912 _ _ ?_
    refine wp_cond_false (ev_hit hN rfl) ?_
    refine wp_skip ?_
    refine hK911 _ _ ?_
    refine seq_any fun K927 hK927 => ?_
    refine seq_any fun K928 hK928 => ?_
    refine one_reg ?_
    refine op_move (ev_base hN rfl s3) ?_
    refine reg_nil ?_
    refine hK928 _ _ ?_
    refine wp_cond_true (ev_hit hN rfl) ?_
    refine seq_any fun K929 hK929 => ?_
    refine one_reg ?_
    refine op_move (ev_hit hN rfl) ?_
    refine op_fn (vs := [(ptr k866 0), (Value.int .i64 1), (Value.slice none 0 0), (Value.string (bs [116]))]) ok55 ⟨(ev_hit hN rfl), ⟨rfl, ⟨rfl, ⟨rfl, trivial⟩⟩⟩⟩ (lk_conv (AskR (n := 1) (Rs := ([] : List (List UInt8))) (x := ([116])) (by omega) (by unfold MOk TOk; simp [st2, wf_i64, hjl, ha8, hb8]) (by unfold MSm; simp [st2]) (by decide) (RdC.nil _ 0 0 _) (Nat.zero_le _) (fun _ _ => .inr (Nat.zero_le _)) hl918) (A' := (Value.tuple #[(Value.int .i64 2), (Value.int .i64 0)])) (M2 := (st2 aL (joinL aL bL) 3 [([116], aL)] [])) (by rw [(ask1_wait hs2 rfl hfl (by decide)).1]; rfl) (ask1_wait hs2 rfl hfl (by decide)).2) ?_
    rintro _ w931 ⟨E932, rfl, F930, hl930, hN930⟩
    have bd933 := hO861.lt
    have bd934 := hB902.lt
    have bd935 := hO913.lt
    have hl918_old := hl918
    have z_w931 := E932.size
    have hA := hA.keepG E932 (fun k hk => .inr (by have := hl918_old.lt k hk; omega))
    have hB := hB.keepG E932 (fun k hk => .inr (by have := hl918_old.lt k hk; omega))
    have hO861 := hO861.keepG E932 dj924
    have hB902 := hB902.keepG E932 dj925
    have hO913 := hO913.keepG E932 dj926
    have hb := below_stepG hb E932 hb.size (fun k hk => (hl918_old.lt k hk).1)
    have dj936 : Dj (Bl v861) F930 := Dj.stepF hN930 (fun k hk => (bd933 k hk).2) dj924
    have dj937 : ¬ F930 b900 := ne_stepF hN930 bd934 dj925
    have dj938 : Dj (Bl v913) F930 := Dj.stepF hN930 (fun k hk => (bd935 k hk).2) dj926
    refine op_move (ev_hit hN rfl) ?_
    refine op_extract (ev_hit hN rfl) rfl ?_
    refine op_extract (ev_hit hN rfl) rfl ?_
    refine op_assign (ev_hit hN rfl) ?_
    refine op_assign (ev_hit hN rfl) ?_
    refine reg_nil ?_
    refine hK929 _ _ ?_
    refine seq_any fun K939 hK939 => ?_
    refine one_reg ?_
    refine op_move (ev_base hN rfl s4) ?_
    refine op_not (ev_hit hN rfl) ?_
    refine op_move (ev_hit hN rfl) ?_
    refine g_false (j := 2) (dj := 78) (b := true) rfl rfl rfl (ev_hit hN rfl) rfl rfl ?_
    refine g_false (j := 2) (dj := 78) (b := true) rfl rfl rfl (ev_hit hN rfl) rfl rfl ?_
    refine g_false (j := 2) (dj := 78) (b := true) rfl rfl rfl (ev_hit hN rfl) rfl rfl ?_
    refine op_pick_f (ev_hit hN rfl) rfl ?_
    refine op_move (ev_hit hN rfl) ?_
    refine g_true (j := 7) (dj := 83) (b := false) rfl rfl rfl (ev_hit hN rfl) ?_
    refine op_move (ev_base hN rfl s4) ?_
    refine g_true (j := 7) (dj := 83) (b := false) rfl rfl rfl (ev_hit hN rfl) ?_
    refine op_move (ev_hit hN rfl) ?_
    refine g_true (j := 9) (dj := 85) (b := true) rfl rfl rfl (ev_hit hN rfl) ?_
    refine op_move (ev_base hN rfl s1) ?_
    refine g_true (j := 9) (dj := 85) (b := true) rfl rfl rfl (ev_hit hN rfl) ?_
    refine op_move (ev_base hN rfl s0) ?_
    refine g_true (j := 9) (dj := 85) (b := true) rfl rfl rfl (ev_hit hN rfl) ?_
    refine op_fn (vs := [vB, vA]) ok50 ⟨(ev_hit hN rfl), ⟨(ev_hit hN rfl), trivial⟩⟩ (rflowsW_ret bL aL _ _ _ (by first | assumption | omega | (simp only [List.length_append, List.length_cons, List.length_nil, List.length_drop, List.length_take]; omega) | (dsimp only; omega) | decide | (simp [keyV, be8_len]; done)) (by first | assumption | omega | (simp only [List.length_append, List.length_cons, List.length_nil, List.length_drop, List.length_take]; omega) | (dsimp only; omega) | decide | (simp [keyV, be8_len]; done)) (show RdC w931 0 w931.heap.size 1 vB bL.length (bL.map u16v) from by have hh : RdC w931 0 w931.heap.size 1 _ _ _ := (hB.mono (L' := 0) (B' := w931.heap.size) (Nat.zero_le _) (by omega)); first | exact hh | exact hh.cast (by first | omega | (simp; try omega)) (by first | rfl | simp [u16v])) (show RdC w931 0 w931.heap.size 1 vA aL.length (aL.map u16v) from by have hh : RdC w931 0 w931.heap.size 1 _ _ _ := (hA.mono (L' := 0) (B' := w931.heap.size) (Nat.zero_le _) (by omega)); first | exact hh | exact hh.cast (by first | omega | (simp; try omega)) (by first | rfl | simp [u16v]))) ?_
    rintro _ w940 ⟨E941, rfl⟩
    have E941 := grown_of_below E941
    have z_w940 := E941.size
    have hA := hA.keep0 E941
    have hB := hB.keep0 E941
    have hO861 := hO861.keep0 E941
    have hB902 := hB902.keep0 E941
    have hO913 := hO913.keep0 E941
    have hl930 := hl930.keepG (Gr.of0 E941 NoB) (fun _ _ h => h)
    have hb := below_step0 hb E941 hb.size
    rcases Bool.eq_false_or_eq_true ((flowsL bL aL)) with c88 | c88
    · -- 88T
     rw [c88]
     refine g_true (j := 7) (dj := 83) (b := false) rfl rfl rfl (ev_hit hN rfl) ?_
     refine op_pick_t (ev_hit hN rfl) (ev_hit hN rfl) ?_
     refine op_pick_f (ev_hit hN rfl) (ev_hit hN rfl) ?_
     refine op_assign (ev_hit hN rfl) ?_
     refine reg_nil ?_
     refine hK939 _ _ ?_
     refine seq_any fun K942 hK942 => ?_
     refine seq_any fun K943 hK943 => ?_
     refine one_reg ?_
     refine op_move (ev_hit hN rfl) ?_
     refine op_move (ev_hit hN rfl) ?_
     refine g_true (j := 1) (dj := 92) (b := true) rfl rfl rfl (ev_hit hN rfl) ?_
     refine op_move (ev_base hN rfl s2) ?_
     refine op_pick_t (ev_hit hN rfl) (ev_hit hN rfl) ?_
     refine reg_nil ?_
     refine hK943 _ _ ?_
     refine wp_cond_true (ev_hit hN rfl) ?_
     refine seq_any fun K944 hK944 => ?_
     refine one_reg ?_
     refine op_move (ev_hit hN rfl) ?_
     refine op_bin (v := .bool true) (ev_hit hN rfl) rfl (by rw [binOp_eql]; rfl) ?_
     refine op_move (ev_hit hN rfl) ?_
     refine g_true (j := 2) (dj := 97) (b := true) rfl rfl rfl (ev_hit hN rfl) ?_
     refine op_move (ev_hit hN rfl) ?_
     refine g_true (j := 2) (dj := 97) (b := true) rfl rfl rfl (ev_hit hN rfl) ?_
     refine op_bin (v := .bool true) (ev_hit hN rfl) rfl (by rw [binOp_eql]; rfl) ?_
     refine op_pick_t (ev_hit hN rfl) (ev_hit hN rfl) ?_
     refine op_assign (ev_hit hN rfl) ?_
     refine reg_nil ?_
     refine hK944 _ _ ?_
     refine wp_ret (then_ret (then_ret ( ?_)))
     refine ret1 rfl hd (ev_hit hN rfl) ⟨_, rfl, ?_⟩
     -- path 25T 29T 37F 88T
     exact ⟨hb, rfl⟩
    · -- 88F
     rw [hg] at c88; cases c88
  · -- 29F
   rw [c29]
   refine g_true (j := 3) (dj := 27) (b := false) rfl rfl rfl (ev_hit hN rfl) ?_
   refine op_not (ev_hit hN rfl) ?_
   refine op_pick_f (ev_hit hN rfl) (ev_hit hN rfl) ?_
   refine op_move (ev_hit hN rfl) ?_
   skip
   refine g_false (j := 8) (dj := 32) (b := false) rfl rfl rfl (ev_hit hN rfl) rfl rfl ?_
   refine g_false (j := 8) (dj := 32) (b := false) rfl rfl rfl (ev_hit hN rfl) rfl rfl ?_
   refine g_false (j := 8) (dj := 32) (b := false) rfl rfl rfl (ev_hit hN rfl) rfl rfl ?_
   refine g_false (j := 8) (dj := 32) (b := false) rfl rfl rfl (ev_hit hN rfl) rfl rfl ?_
   refine g_false (j := 8) (dj := 32) (b := false) rfl rfl rfl (ev_hit hN rfl) rfl rfl ?_
   refine op_pick_t (ev_hit hN rfl) rfl ?_
   refine reg_nil ?_
   refine hK856 _ _ ?_
   refine wp_cond_true (ev_hit hN rfl) ?_
   refine seq_any fun K945 hK945 => ?_
   refine one_reg ?_
   refine op_assign rfl ?_
   refine reg_nil ?_
   refine hK945 _ _ ?_
   refine wp_ret (then_ret ( ?_))
   refine ret1 rfl hd (ev_hit hN rfl) ⟨_, rfl, ?_⟩
   -- path 25T 29F
   exact ⟨hb, rfl⟩
 · -- 25F
  rw [c25]
  refine op_not (ev_hit hN rfl) ?_
  refine op_move (ev_hit hN rfl) ?_
  refine g_false (j := 3) (dj := 27) (b := false) rfl rfl rfl (ev_hit hN rfl) rfl rfl ?_
  refine g_false (j := 3) (dj := 27) (b := false) rfl rfl rfl (ev_hit hN rfl) rfl rfl ?_
  refine g_false (j := 3) (dj := 27) (b := false) rfl rfl rfl (ev_hit hN rfl) rfl rfl ?_
  refine op_pick_t (ev_hit hN rfl) rfl ?_
  refine op_move (ev_hit hN rfl) ?_
  skip
  refine g_false (j := 8) (dj := 32) (b := false) rfl rfl rfl (ev_hit hN rfl) rfl rfl ?_
  refine g_false (j := 8) (dj := 32) (b := false) rfl rfl rfl (ev_hit hN rfl) rfl rfl ?_
  refine g_false (j := 8) (dj := 32) (b := false) rfl rfl rfl (ev_hit hN rfl) rfl rfl ?_
  refine g_false (j := 8) (dj := 32) (b := false) rfl rfl rfl (ev_hit hN rfl) rfl rfl ?_
  refine g_false (j := 8) (dj := 32) (b := false) rfl rfl rfl (ev_hit hN rfl) rfl rfl ?_
  refine op_pick_t (ev_hit hN rfl) rfl ?_
  refine reg_nil ?_
  refine hK856 _ _ ?_
  refine wp_cond_true (ev_hit hN rfl) ?_
  refine seq_any fun K946 hK946 => ?_
  refine one_reg ?_
  refine op_assign rfl ?_
  refine reg_nil ?_
  refine hK946 _ _ ?_
  refine wp_ret (then_ret ( ?_))
  refine ret1 rfl hd (ev_hit hN rfl) ⟨_, rfl, ?_⟩
  -- path 25F
  exact ⟨hb, rfl⟩

theorem LockDooms_ttt_up (aL bL : List UInt16) (vA vB : Value) (w : World) (hal : aL.length ≤ 9223372036854775807) (hbl : bL.length ≤ 9223372036854775807) (hA : RdC w 0 w.heap.size 1 vA aL.length (aL.map u16v)) (hB : RdC w 0 w.heap.size 1 vB bL.length (bL.map u16v)) (hg : flowsL bL aL = false) : Ret Try.prog 13 #[vA, vB, (Value.bool true), (Value.bool true), (Value.bool true)] w (fun v' w' => Below w.heap.size w w' ∧ v' = .bool true) := by
 have hb := Below.refl w.heap.size w
 refine enter (N := 141) Try.func13 rfl rfl (by simp) fun a0 hN hd hA => ?_
 have s0 : a0.tmps.getD 0 undef = vA := hA 0 (by simp)
 have s1 : a0.tmps.getD 1 undef = vB := hA 1 (by simp)
 have s2 : a0.tmps.getD 2 undef = (Value.bool true) := hA 2 (by simp)
 have s3 : a0.tmps.getD 3 undef = (Value.bool true) := hA 3 (by simp)
 have s4 : a0.tmps.getD 4 undef = (Value.bool true) := hA 4 (by simp)
 clear hA
 refine seq_any fun K947 hK947 => ?_
 refine one_reg ?_
 refine op_assign rfl ?_
 refine reg_nil ?_
 refine hK947 _ _ ?_
 refine seq_any fun K948 hK948 => ?_
 refine seq_any fun K949 hK949 => ?_
 refine one_reg ?_
 refine op_fn (vs := []) ok52 trivial (begun19_ret _) ?_
 rintro _ w950 ⟨E951, rfl⟩
 have E951 := grown_of_below E951
 have z_w950 := E951.size
 have hA := hA.keep0 E951
 have hB := hB.keep0 E951
 have hb := below_step0 hb E951 hb.size
 refine op_not (ev_hit hN rfl) ?_
 refine reg_nil ?_
 refine hK949 _ _ ?_
 refine wp_cond_false (ev_hit hN rfl) ?_
 refine wp_skip ?_
 refine hK948 _ _ ?_
 refine seq_any fun K952 hK952 => ?_
 refine seq_any fun K953 hK953 => ?_
 refine one_reg ?_
 refine op_move (ev_base hN rfl s0) ?_
 refine op_fn (vs := [vA]) ok33 ⟨(ev_hit hN rfl), trivial⟩ (refMay_ret aL _ _ (by first | assumption | omega | (simp only [List.length_append, List.length_cons, List.length_nil, List.length_drop, List.length_take]; omega) | (dsimp only; omega) | decide | (simp [keyV, be8_len]; done)) (show RdC w950 0 w950.heap.size 1 vA aL.length (aL.map u16v) from by have hh : RdC w950 0 w950.heap.size 1 _ _ _ := (hA.mono (L' := 0) (B' := w950.heap.size) (Nat.zero_le _) (by omega)); first | exact hh | exact hh.cast (by first | omega | (simp; try omega)) (by first | rfl | simp [u16v]))) ?_
 rintro _ w954 ⟨E955, rfl⟩
 have E955 := grown_of_below E955
 have z_w954 := E955.size
 have hA := hA.keep0 E955
 have hB := hB.keep0 E955
 have hb := below_step0 hb E955 hb.size
 rcases Bool.eq_false_or_eq_true ((mayL aL)) with c25 | c25
 · -- 25T
  rw [c25]
  refine op_not (ev_hit hN rfl) ?_
  refine op_move (ev_hit hN rfl) ?_
  refine g_true (j := 3) (dj := 27) (b := false) rfl rfl rfl (ev_hit hN rfl) ?_
  refine op_move (ev_base hN rfl s1) ?_
  refine g_true (j := 3) (dj := 27) (b := false) rfl rfl rfl (ev_hit hN rfl) ?_
  refine op_fn (vs := [vB]) ok33 ⟨(ev_hit hN rfl), trivial⟩ (refMay_ret bL _ _ (by first | assumption | omega | (simp only [List.length_append, List.length_cons, List.length_nil, List.length_drop, List.length_take]; omega) | (dsimp only; omega) | decide | (simp [keyV, be8_len]; done)) (show RdC w954 0 w954.heap.size 1 vB bL.length (bL.map u16v) from by have hh : RdC w954 0 w954.heap.size 1 _ _ _ := (hB.mono (L' := 0) (B' := w954.heap.size) (Nat.zero_le _) (by omega)); first | exact hh | exact hh.cast (by first | omega | (simp; try omega)) (by first | rfl | simp [u16v]))) ?_
  rintro _ w956 ⟨E957, rfl⟩
  have E957 := grown_of_below E957
  have z_w956 := E957.size
  have hA := hA.keep0 E957
  have hB := hB.keep0 E957
  have hb := below_step0 hb E957 hb.size
  rcases Bool.eq_false_or_eq_true ((mayL bL)) with c29 | c29
  · -- 29T
   rw [c29]
   refine g_true (j := 3) (dj := 27) (b := false) rfl rfl rfl (ev_hit hN rfl) ?_
   refine op_not (ev_hit hN rfl) ?_
   refine op_pick_f (ev_hit hN rfl) (ev_hit hN rfl) ?_
   refine op_move (ev_hit hN rfl) ?_
   have ha8 := mayL_len c25
   have hb8 := mayL_len c29
   refine g_true (j := 8) (dj := 32) (b := false) rfl rfl rfl (ev_hit hN rfl) ?_
   refine op_move (ev_base hN rfl s0) ?_
   refine g_true (j := 8) (dj := 32) (b := false) rfl rfl rfl (ev_hit hN rfl) ?_
   refine op_move (ev_base hN rfl s1) ?_
   refine g_true (j := 8) (dj := 32) (b := false) rfl rfl rfl (ev_hit hN rfl) ?_
   refine op_fn (vs := [vA, vB]) ok51 ⟨(ev_hit hN rfl), ⟨(ev_hit hN rfl), trivial⟩⟩ (rjoinW_ret aL bL _ _ _ (by first | assumption | omega | (simp only [List.length_append, List.length_cons, List.length_nil, List.length_drop, List.length_take]; omega) | (dsimp only; omega) | decide | (simp [keyV, be8_len]; done)) (by first | assumption | omega | (simp only [List.length_append, List.length_cons, List.length_nil, List.length_drop, List.length_take]; omega) | (dsimp only; omega) | decide | (simp [keyV, be8_len]; done)) (show RdC w956 0 w956.heap.size 1 vA aL.length (aL.map u16v) from by have hh : RdC w956 0 w956.heap.size 1 _ _ _ := (hA.mono (L' := 0) (B' := w956.heap.size) (Nat.zero_le _) (by omega)); first | exact hh | exact hh.cast (by first | omega | (simp; try omega)) (by first | rfl | simp [u16v])) (show RdC w956 0 w956.heap.size 1 vB bL.length (bL.map u16v) from by have hh : RdC w956 0 w956.heap.size 1 _ _ _ := (hB.mono (L' := 0) (B' := w956.heap.size) (Nat.zero_le _) (by omega)); first | exact hh | exact hh.cast (by first | omega | (simp; try omega)) (by first | rfl | simp [u16v]))) ?_
   rintro v958 w959 ⟨E960, hO958⟩
   have E960 := grown_of_below E960
   have z_w959 := E960.size
   have hA := hA.keep0 E960
   have hB := hB.keep0 E960
   have hb := below_step0 hb E960 hb.size
   have hO958 := hO958.mono (base' := w.heap.size) (by omega)
   refine g_true (j := 8) (dj := 32) (b := false) rfl rfl rfl (ev_hit hN rfl) ?_
   refine op_len_rd Try.underlying54 (ev_hit hN rfl) hO958.rdw ?_
   refine g_true (j := 8) (dj := 32) (b := false) rfl rfl rfl (ev_hit hN rfl) ?_
   refine op_gtr (ev_hit hN rfl) rfl (fun c37 => ?_) (fun c37 => ?_)
   · -- 37T
    refine op_pick_f (ev_hit hN rfl) (ev_hit hN rfl) ?_
    refine reg_nil ?_
    refine hK953 _ _ ?_
    refine wp_cond_true (ev_hit hN rfl) ?_
    refine seq_any fun K961 hK961 => ?_
    refine one_reg ?_
    refine op_assign rfl ?_
    refine reg_nil ?_
    refine hK961 _ _ ?_
    refine wp_ret (then_ret ( ?_))
    refine ret1 rfl hd (ev_hit hN rfl) ⟨_, rfl, ?_⟩
    -- path 25T 29T 37T
    exact ⟨hb, rfl⟩
   · -- 37F
    refine op_pick_f (ev_hit hN rfl) (ev_hit hN rfl) ?_
    refine reg_nil ?_
    refine hK953 _ _ ?_
    refine wp_cond_false (ev_hit hN rfl) ?_
    refine wp_skip ?_
    refine hK952 _ _ ?_
    refine seq_any fun K962 hK962 => ?_
    refine one_reg ?_
    have hjl : (joinL aL bL).length ≤ 8 := by omega
    have hs2 : ¬ joinL aL bL = aL := fun h => by rw [(join_self_iff c25).1 h] at hg; cases hg
    have hok1 : ¬ ((joinL aL bL) = aL ∧ ([116] : List UInt8) = [116]) := fun h => hs2 h.1
    have hfj : flowsL aL (joinL aL bL) = true := flows_joinl
    have hrf : flowsL aL aL = true := flows_refl
    have hdm : dmB aL (joinL aL bL) aL [116] [[116]] = true := by simp [dmB, hs2, hfj, hrf]
    refine op_fn (vs := []) ok53 trivial (lockNewR) ?_
    rintro _ w964 ⟨E965, k963, F963, rfl, hl963⟩
    have lo_F963 : ∀ x, F963 x → w959.heap.size ≤ x := fun x hx => (hl963.lt x hx).1
    have dj966 : Dj (Bl v958) F963 := Dj.fresh (fun k hk => (hO958.lt k hk).2) lo_F963
    have E965 := grown_of_below E965
    have z_w964 := E965.size
    have hA := hA.keep0 E965
    have hB := hB.keep0 E965
    have hO958 := hO958.keep0 E965
    have hb := below_step0 hb E965 hb.size
    have hl963 : LocksR w964 w.heap.size k963 ([] : TM) F963 := hl963.mono (by omega)
    refine op_assign (ev_hit hN rfl) ?_
    refine reg_nil ?_
    refine hK962 _ _ ?_
    refine seq_any fun K967 hK967 => ?_
    refine one_reg ?_
    refine op_move (ev_hit hN rfl) ?_
    refine op_move (ev_base hN rfl s0) ?_
    refine op_fn (vs := [(ptr k963 0), (Value.int .i64 1), vA, (Value.int .u64 1)]) ok54 ⟨(ev_hit hN rfl), ⟨rfl, ⟨(ev_hit hN rfl), ⟨rfl, trivial⟩⟩⟩⟩ (lk_conv (EnterR (n := 1) (s := 1) (l := aL) (by omega) (lo := w.heap.size) hA (Nat.le_refl _) (by first | decide | omega) hl963) (A' := (Value.int .i64 0)) (M2 := ([(1, (⟨aL, 1, [], [], false⟩ : TX))] : TM)) (by rfl) (by rfl)) ?_
    rintro _ w969 ⟨E970, rfl, F968, hl968, hN968⟩
    have bd971 := hO958.lt
    have hl963_old := hl963
    have z_w969 := E970.size
    have hA := hA.keepG E970 (fun k hk => .inr (by have := hl963_old.lt k hk; omega))
    have hB := hB.keepG E970 (fun k hk => .inr (by have := hl963_old.lt k hk; omega))
    have hO958 := hO958.keepG E970 dj966
    have hb := below_stepG hb E970 hb.size (fun k hk => (hl963_old.lt k hk).1)
    have dj972 : Dj (Bl v958) F968 := Dj.stepF hN968 (fun k hk => (bd971 k hk).2) dj966
    refine reg_nil ?_
    refine hK967 _ _ ?_
    refine seq_any fun K973 hK973 => ?_
    refine one_reg ?_
    refine op_move (ev_hit hN rfl) ?_
    refine op_move (ev_base hN rfl s1) ?_
    refine op_fn (vs := [(ptr k963 0), (Value.int .i64 2), vB, (Value.int .u64 2)]) ok54 ⟨(ev_hit hN rfl), ⟨rfl, ⟨(ev_hit hN rfl), ⟨rfl, trivial⟩⟩⟩⟩ (lk_conv (EnterR (n := 2) (s := 2) (l := bL) (by omega) (lo := w.heap.size) hB (Nat.le_refl _) (by first | decide | omega) hl968) (A' := (Value.int .i64 0)) (M2 := (st2 aL bL 2 [] [])) (by rfl) (by rfl)) ?_
    rintro _ w975 ⟨E976, rfl, F974, hl974, hN974⟩
    have bd977 := hO958.lt
    have hl968_old := hl968
    have z_w975 := E976.size
    have hA := hA.keepG E976 (fun k hk => .inr (by have := hl968_old.lt k hk; omega))
    have hB := hB.keepG E976 (fun k hk => .inr (by have := hl968_old.lt k hk; omega))
    have hO958 := hO958.keepG E976 dj972
    have hb := below_stepG hb E976 hb.size (fun k hk => (hl968_old.lt k hk).1)
    have dj978 : Dj (Bl v958) F974 := Dj.stepF hN974 (fun k hk => (bd977 k hk).2) dj972
    refine reg_nil ?_
    refine hK973 _ _ ?_
    refine seq_any fun K979 hK979 => ?_
    refine seq_any fun K980 hK980 => ?_
    refine one_reg ?_
    refine op_move (ev_base hN rfl s4) ?_
    refine reg_nil ?_
    refine hK980 _ _ ?_
    refine wp_cond_true (ev_hit hN rfl) ?_
    refine seq_any fun K981 hK981 => ?_
    refine one_reg ?_
    refine op_move (ev_hit hN rfl) ?_
    refine op_fn (vs := [(ptr k963 0), (Value.int .i64 2)]) ok57 ⟨(ev_hit hN rfl), ⟨rfl, trivial⟩⟩ (lk_conv (LeaveR (n := 2) (by omega) hl974) (A' := (Value.int .i64 0)) (M2 := ([(1, (⟨aL, 1, [], [], false⟩ : TX))] : TM)) (by rfl) (by rfl)) ?_
    rintro _ w983 ⟨E984, rfl, F982, hl982, hN982⟩
    have bd985 := hO958.lt
    have hl974_old := hl974
    have z_w983 := E984.size
    have hA := hA.keepG E984 (fun k hk => .inr (by have := hl974_old.lt k hk; omega))
    have hB := hB.keepG E984 (fun k hk => .inr (by have := hl974_old.lt k hk; omega))
    have hO958 := hO958.keepG E984 dj978
    have hb := below_stepG hb E984 hb.size (fun k hk => (hl974_old.lt k hk).1)
    have dj986 : Dj (Bl v958) F982 := Dj.stepF hN982 (fun k hk => (bd985 k hk).2) dj978
    refine reg_nil ?_
    refine hK981 _ _ ?_
    refine one_reg ?_
    refine op_move (ev_hit hN rfl) ?_
    refine op_move (ev_base hN rfl s0) ?_
    refine op_fn (vs := [(ptr k963 0), (Value.int .i64 2), vA, (Value.int .u64 2)]) ok54 ⟨(ev_hit hN rfl), ⟨rfl, ⟨(ev_hit hN rfl), ⟨rfl, trivial⟩⟩⟩⟩ (lk_conv (EnterR (n := 2) (s := 2) (l := aL) (by omega) (lo := w.heap.size) hA (Nat.le_refl _) (by first | decide | omega) hl982) (A' := (Value.int .i64 0)) (M2 := (st2 aL aL 2 [] [])) (by rfl) (by rfl)) ?_
    rintro _ w988 ⟨E989, rfl, F987, hl987, hN987⟩
    have bd990 := hO958.lt
    have hl982_old := hl982
    have z_w988 := E989.size
    have hA := hA.keepG E989 (fun k hk => .inr (by have := hl982_old.lt k hk; omega))
    have hB := hB.keepG E989 (fun k hk => .inr (by have := hl982_old.lt k hk; omega))
    have hO958 := hO958.keepG E989 dj986
    have hb := below_stepG hb E989 hb.size (fun k hk => (hl982_old.lt k hk).1)
    have dj991 : Dj (Bl v958) F987 := Dj.stepF hN987 (fun k hk => (bd990 k hk).2) dj986
    refine reg_nil ?_
    refine hK979 _ _ ?_
    refine seq_any fun K992 hK992 => ?_
    refine one_reg ?_
    refine op_assign rfl ?_
    refine reg_nil ?_
    refine hK992 _ _ ?_
    refine seq_any fun K993 hK993 => ?_
    refine seq_any fun K994 hK994 => ?_
    refine one_reg ?_
    refine op_move (ev_base hN rfl s2) ?_
    refine op_not (ev_hit hN rfl) ?_
    refine reg_nil ?_
    refine hK994 _ _ ?_
    refine wp_cond_false (ev_hit hN rfl) ?_
    refine wp_skip ?_
    refine hK993 _ _ ?_
    refine seq_any fun K995 hK995 => ?_
    refine one_reg ?_
    refine op_move (ev_hit hN rfl) ?_
    refine op_move (ev_hit hN rfl) ?_
    refine op_bslice (e := 9) (pv := [(0, (Value.string (bs [116])))]) (cs := [(Value.string (bs [116]))]) ⟨rfl, (ev_hit hN rfl), trivial⟩ (by kernel_rfl) ?_
    intro w996 b997 lo_b997 hi_b997 hB999 E998
    have dj1000 : ¬ F987 b997 := fun hf => by have := (hl987.lt _ hf).2; omega
    have z_w996 := E998.size
    have hA := hA.keep0 E998
    have hB := hB.keep0 E998
    have hO958 := hO958.keep0 E998
    have hl987 := hl987.keepG (Gr.of0 E998 NoB) (fun _ _ h => h)
    have hb := below_step0 hb E998 hb.size
    refine op_fn (vs := [(ptr k963 0), (Value.int .i64 2), (Value.slice (some ⟨b997, 0, none⟩) 1 1), (Value.string (bs []))]) ok55 ⟨(ev_hit hN rfl), ⟨rfl, ⟨(ev_hit hN rfl), ⟨rfl, trivial⟩⟩⟩⟩ (lk_conv (AskR (n := 2) (Rs := [[116]]) (x := []) (by omega) (by unfold MOk TOk; simp [st2, wf_i64, hjl, ha8, hb8]) (by unfold MSm; simp [st2]) (by decide) (Lr := b997) (Br := b997 + 1) (RdC.ofBx (sz := 1) (n := 1) hB999 rfl (by decide)) (by have := hB999.lt; omega) (fun y hy => Nat.lt_or_gt_of_ne (fun e => dj1000 (e ▸ hy))) hl987) (A' := (Value.tuple #[(Value.int .i64 1), (Value.int .i64 0)])) (M2 := (st2 aL aL 2 [([116], aL)] [])) (by rw [ask2_v]; rfl) ask2_m) ?_
    rintro _ w1002 ⟨E1003, rfl, F1001, hl1001, hN1001⟩
    have bd1004 := hO958.lt
    have bd1005 := hB999.lt
    have hl987_old := hl987
    have z_w1002 := E1003.size
    have hA := hA.keepG E1003 (fun k hk => .inr (by have := hl987_old.lt k hk; omega))
    have hB := hB.keepG E1003 (fun k hk => .inr (by have := hl987_old.lt k hk; omega))
    have hO958 := hO958.keepG E1003 dj991
    have hB999 := hB999.keepG E1003 dj1000
    have hb := below_stepG hb E1003 hb.size (fun k hk => (hl987_old.lt k hk).1)
    have dj1006 : Dj (Bl v958) F1001 := Dj.stepF hN1001 (fun k hk => (bd1004 k hk).2) dj991
    have dj1007 : ¬ F1001 b997 := ne_stepF hN1001 bd1005 dj1000
    refine op_move (ev_hit hN rfl) ?_
    refine op_extract (ev_hit hN rfl) rfl ?_
    refine op_extract (ev_hit hN rfl) rfl ?_
    refine op_assign (ev_hit hN rfl) ?_
    refine op_assign (ev_hit hN rfl) ?_
    refine reg_nil ?_
    refine hK995 _ _ ?_
    refine seq_any fun K1008 hK1008 => ?_
    refine seq_any fun K1009 hK1009 => ?_
    refine one_reg ?_
    refine op_move (ev_base hN rfl s4) ?_
    refine op_move (ev_hit hN rfl) ?_
    refine g_true (j := 1) (dj := 62) (b := true) rfl rfl rfl (ev_hit hN rfl) ?_
    refine op_move (ev_hit hN rfl) ?_
    refine g_true (j := 1) (dj := 62) (b := true) rfl rfl rfl (ev_hit hN rfl) ?_
    refine op_move (ev_base hN rfl s0) ?_
    refine g_true (j := 1) (dj := 62) (b := true) rfl rfl rfl (ev_hit hN rfl) ?_
    refine op_move (ev_base hN rfl s1) ?_
    refine g_true (j := 1) (dj := 62) (b := true) rfl rfl rfl (ev_hit hN rfl) ?_
    refine op_fn (vs := [vA, vB]) ok51 ⟨(ev_hit hN rfl), ⟨(ev_hit hN rfl), trivial⟩⟩ (rjoinW_ret aL bL _ _ _ (by first | assumption | omega | (simp only [List.length_append, List.length_cons, List.length_nil, List.length_drop, List.length_take]; omega) | (dsimp only; omega) | decide | (simp [keyV, be8_len]; done)) (by first | assumption | omega | (simp only [List.length_append, List.length_cons, List.length_nil, List.length_drop, List.length_take]; omega) | (dsimp only; omega) | decide | (simp [keyV, be8_len]; done)) (show RdC w1002 0 w1002.heap.size 1 vA aL.length (aL.map u16v) from by have hh : RdC w1002 0 w1002.heap.size 1 _ _ _ := (hA.mono (L' := 0) (B' := w1002.heap.size) (Nat.zero_le _) (by omega)); first | exact hh | exact hh.cast (by first | omega | (simp; try omega)) (by first | rfl | simp [u16v])) (show RdC w1002 0 w1002.heap.size 1 vB bL.length (bL.map u16v) from by have hh : RdC w1002 0 w1002.heap.size 1 _ _ _ := (hB.mono (L' := 0) (B' := w1002.heap.size) (Nat.zero_le _) (by omega)); first | exact hh | exact hh.cast (by first | omega | (simp; try omega)) (by first | rfl | simp [u16v]))) ?_
    rintro v1010 w1011 ⟨E1012, hO1010⟩
    have dj1013 : DJ v1010 v958 := fun k hk hg => by have q1 := (hO1010.lt k hk).1; have q2 := (hO958.lt k hg).2; omega
    have dj1014 : Dj F1001 (Bl v1010) := Dj.fresh (fun k hk => (hl1001.lt k hk).2) (fun k hk => (hO1010.lt k hk).1)
    have E1012 := grown_of_below E1012
    have z_w1011 := E1012.size
    have hA := hA.keep0 E1012
    have hB := hB.keep0 E1012
    have hO958 := hO958.keep0 E1012
    have hB999 := hB999.keep0 E1012
    have hl1001 := hl1001.keepG (Gr.of0 E1012 NoB) (fun _ _ h => h)
    have hb := below_step0 hb E1012 hb.size
    have hO1010 := hO1010.mono (base' := w.heap.size) (by omega)
    refine g_true (j := 1) (dj := 62) (b := true) rfl rfl rfl (ev_hit hN rfl) ?_
    refine op_fn (vs := [(ptr k963 0), (Value.int .i64 2), v1010, (Value.int .u64 3)]) ok59 ⟨(ev_hit hN rfl), ⟨rfl, ⟨(ev_hit hN rfl), ⟨rfl, trivial⟩⟩⟩⟩ (lk_conv (MoveR (n := 2) (s := 3) (l := (joinL aL bL)) (by omega) (hO1010.rdw.mono (Nat.zero_le _) (by omega)) (by first | decide | omega) hl1001) (A' := (Value.int .i64 0)) (M2 := (st2 aL (joinL aL bL) 3 [([116], aL)] [])) (by rfl) (by rfl)) ?_
    rintro _ w1016 ⟨E1017, rfl, F1015, hl1015, hN1015⟩
    have bd1018 := hO958.lt
    have bd1019 := hB999.lt
    have bd1020 := hO1010.lt
    have hl1001_old := hl1001
    have z_w1016 := E1017.size
    have hA := hA.keepG E1017 (fun k hk => .inr (by have := hl1001_old.lt k hk; omega))
    have hB := hB.keepG E1017 (fun k hk => .inr (by have := hl1001_old.lt k hk; omega))
    have hO958 := hO958.keepG E1017 dj1006
    have hB999 := hB999.keepG E1017 dj1007
    have hO1010 := hO1010.keepG E1017 dj1014.symm
    have hb := below_stepG hb E1017 hb.size (fun k hk => (hl1001_old.lt k hk).1)
    have dj1021 : Dj (Bl v958) F1015 := Dj.stepF hN1015 (fun k hk => (bd1018 k hk).2) dj1006
    have dj1022 : ¬ F1015 b997 := ne_stepF hN1015 bd1019 dj1007
    have dj1023 : Dj (Bl v1010) F1015 := Dj.stepF hN1015 (fun k hk => (bd1020 k hk).2) dj1014.symm
    refine g_true (j := 1) (dj := 62) (b := true) rfl rfl rfl (ev_hit hN rfl) ?_
    refine op_bin (v := .bool false) (ev_hit hN rfl) rfl (by rw [binOp_neq]; rfl) ?_
    refine op_pick_t (ev_hit hN rfl) (ev_hit hN rfl) ?_
    refine reg_nil ?_
    refine hK1009 _ _ ?_
    refine wp_cond_false (ev_hit hN rfl) ?_
    refine wp_skip ?_
    refine hK1008 _ _ ?_
    refine seq_any fun K1024 hK1024 => ?_
    refine seq_any fun K1025 hK1025 => ?_
    refine one_reg ?_
    refine op_move (ev_base hN rfl s3) ?_
    refine reg_nil ?_
    refine hK1025 _ _ ?_
    refine wp_cond_true (ev_hit hN rfl) ?_
    refine seq_any fun K1026 hK1026 => ?_
    refine one_reg ?_
    refine op_move (ev_hit hN rfl) ?_
    refine op_fn (vs := [(ptr k963 0), (Value.int .i64 1), (Value.slice none 0 0), (Value.string (bs [116]))]) ok55 ⟨(ev_hit hN rfl), ⟨rfl, ⟨rfl, ⟨rfl, trivial⟩⟩⟩⟩ (lk_conv (AskR (n := 1) (Rs := ([] : List (List UInt8))) (x := ([116])) (by omega) (by unfold MOk TOk; simp [st2, wf_i64, hjl, ha8, hb8]) (by unfold MSm; simp [st2]) (by decide) (RdC.nil _ 0 0 _) (Nat.zero_le _) (fun _ _ => .inr (Nat.zero_le _)) hl1015) (A' := (Value.tuple #[(Value.int .i64 1), (Value.int .i64 0)])) (M2 := (st2 aL (joinL aL bL) 3 [([116], aL)] [[116]])) (by rw [(ask1_ok hok1).1]; rfl) (ask1_ok hok1).2) ?_
    rintro _ w1028 ⟨E1029, rfl, F1027, hl1027, hN1027⟩
    have bd1030 := hO958.lt
    have bd1031 := hB999.lt
    have bd1032 := hO1010.lt
    have hl1015_old := hl1015
    have z_w1028 := E1029.size
    have hA := hA.keepG E1029 (fun k hk => .inr (by have := hl1015_old.lt k hk; omega))
    have hB := hB.keepG E1029 (fun k hk => .inr (by have := hl1015_old.lt k hk; omega))
    have hO958 := hO958.keepG E1029 dj1021
    have hB999 := hB999.keepG E1029 dj1022
    have hO1010 := hO1010.keepG E1029 dj1023
    have hb := below_stepG hb E1029 hb.size (fun k hk => (hl1015_old.lt k hk).1)
    have dj1033 : Dj (Bl v958) F1027 := Dj.stepF hN1027 (fun k hk => (bd1030 k hk).2) dj1021
    have dj1034 : ¬ F1027 b997 := ne_stepF hN1027 bd1031 dj1022
    have dj1035 : Dj (Bl v1010) F1027 := Dj.stepF hN1027 (fun k hk => (bd1032 k hk).2) dj1023
    refine op_move (ev_hit hN rfl) ?_
    refine op_extract (ev_hit hN rfl) rfl ?_
    refine op_extract (ev_hit hN rfl) rfl ?_
    refine op_assign (ev_hit hN rfl) ?_
    refine op_assign (ev_hit hN rfl) ?_
    refine reg_nil ?_
    refine hK1026 _ _ ?_
    refine seq_any fun K1036 hK1036 => ?_
    refine one_reg ?_
    refine op_move (ev_base hN rfl s4) ?_
    refine op_not (ev_hit hN rfl) ?_
    refine op_move (ev_hit hN rfl) ?_
    refine g_false (j := 2) (dj := 78) (b := true) rfl rfl rfl (ev_hit hN rfl) rfl rfl ?_
    refine g_false (j := 2) (dj := 78) (b := true) rfl rfl rfl (ev_hit hN rfl) rfl rfl ?_
    refine g_false (j := 2) (dj := 78) (b := true) rfl rfl rfl (ev_hit hN rfl) rfl rfl ?_
    refine op_pick_f (ev_hit hN rfl) rfl ?_
    refine op_move (ev_hit hN rfl) ?_
    refine g_true (j := 7) (dj := 83) (b := false) rfl rfl rfl (ev_hit hN rfl) ?_
    refine op_move (ev_base hN rfl s4) ?_
    refine g_true (j := 7) (dj := 83) (b := false) rfl rfl rfl (ev_hit hN rfl) ?_
    refine op_move (ev_hit hN rfl) ?_
    refine g_true (j := 9) (dj := 85) (b := true) rfl rfl rfl (ev_hit hN rfl) ?_
    refine op_move (ev_base hN rfl s1) ?_
    refine g_true (j := 9) (dj := 85) (b := true) rfl rfl rfl (ev_hit hN rfl) ?_
    refine op_move (ev_base hN rfl s0) ?_
    refine g_true (j := 9) (dj := 85) (b := true) rfl rfl rfl (ev_hit hN rfl) ?_
    refine op_fn (vs := [vB, vA]) ok50 ⟨(ev_hit hN rfl), ⟨(ev_hit hN rfl), trivial⟩⟩ (rflowsW_ret bL aL _ _ _ (by first | assumption | omega | (simp only [List.length_append, List.length_cons, List.length_nil, List.length_drop, List.length_take]; omega) | (dsimp only; omega) | decide | (simp [keyV, be8_len]; done)) (by first | assumption | omega | (simp only [List.length_append, List.length_cons, List.length_nil, List.length_drop, List.length_take]; omega) | (dsimp only; omega) | decide | (simp [keyV, be8_len]; done)) (show RdC w1028 0 w1028.heap.size 1 vB bL.length (bL.map u16v) from by have hh : RdC w1028 0 w1028.heap.size 1 _ _ _ := (hB.mono (L' := 0) (B' := w1028.heap.size) (Nat.zero_le _) (by omega)); first | exact hh | exact hh.cast (by first | omega | (simp; try omega)) (by first | rfl | simp [u16v])) (show RdC w1028 0 w1028.heap.size 1 vA aL.length (aL.map u16v) from by have hh : RdC w1028 0 w1028.heap.size 1 _ _ _ := (hA.mono (L' := 0) (B' := w1028.heap.size) (Nat.zero_le _) (by omega)); first | exact hh | exact hh.cast (by first | omega | (simp; try omega)) (by first | rfl | simp [u16v]))) ?_
    rintro _ w1037 ⟨E1038, rfl⟩
    have E1038 := grown_of_below E1038
    have z_w1037 := E1038.size
    have hA := hA.keep0 E1038
    have hB := hB.keep0 E1038
    have hO958 := hO958.keep0 E1038
    have hB999 := hB999.keep0 E1038
    have hO1010 := hO1010.keep0 E1038
    have hl1027 := hl1027.keepG (Gr.of0 E1038 NoB) (fun _ _ h => h)
    have hb := below_step0 hb E1038 hb.size
    rcases Bool.eq_false_or_eq_true ((flowsL bL aL)) with c88 | c88
    · -- 88T
     rw [hg] at c88; cases c88
    · -- 88F
     rw [c88]
     refine g_true (j := 7) (dj := 83) (b := false) rfl rfl rfl (ev_hit hN rfl) ?_
     refine op_pick_t (ev_hit hN rfl) (ev_hit hN rfl) ?_
     refine op_pick_f (ev_hit hN rfl) (ev_hit hN rfl) ?_
     refine op_assign (ev_hit hN rfl) ?_
     refine reg_nil ?_
     refine hK1036 _ _ ?_
     refine seq_any fun K1039 hK1039 => ?_
     refine seq_any fun K1040 hK1040 => ?_
     refine one_reg ?_
     refine op_move (ev_hit hN rfl) ?_
     refine op_move (ev_hit hN rfl) ?_
     refine g_false (j := 1) (dj := 92) (b := true) rfl rfl rfl (ev_hit hN rfl) rfl rfl ?_
     refine op_pick_f (ev_hit hN rfl) rfl ?_
     refine reg_nil ?_
     refine hK1040 _ _ ?_
     refine wp_cond_false (ev_hit hN rfl) ?_
     refine wp_skip ?_
     refine hK1039 _ _ ?_
     refine seq_any fun K1041 hK1041 => ?_
     refine one_reg ?_
     refine op_move (ev_hit hN rfl) ?_
     refine op_bin (v := .bool false) (ev_hit hN rfl) rfl (by rw [binOp_neq]; rfl) ?_
     refine reg_nil ?_
     refine hK1041 _ _ ?_
     refine wp_cond_false (ev_hit hN rfl) ?_
     refine wp_skip ?_
     refine hK1024 _ _ ?_
     refine seq_any fun K1042 hK1042 => ?_
     refine one_reg ?_
     refine op_move (ev_hit hN rfl) ?_
     refine op_fn (vs := [(ptr k963 0), (Value.int .i64 1)]) ok60 ⟨(ev_hit hN rfl), ⟨rfl, trivial⟩⟩ (CommitR' (n := 1) (L := [2]) (M2 := ([(2, ⟨(joinL aL bL), 3, [([116], aL)], [], true⟩)] : TM)) (E2 := 0) (by omega) (by unfold MOk TOk; simp [st2, wf_i64, hjl, ha8, hb8]) hl1027 (com1_l.trans (by rw [hdm]; rfl)) (com1_m.trans (by rw [hdm])) rfl) ?_
     rintro _ w1044 ⟨E1045, v1043, rfl, hO1043, F1043, hl1043, hN1043, hd1043⟩
     have bd1046 := hO958.lt
     have bd1047 := hB999.lt
     have bd1048 := hO1010.lt
     have hl1027_old := hl1027
     have z_w1044 := E1045.size
     have hA := hA.keepG E1045 (fun k hk => .inr (by have := hl1027_old.lt k hk; omega))
     have hB := hB.keepG E1045 (fun k hk => .inr (by have := hl1027_old.lt k hk; omega))
     have hO958 := hO958.keepG E1045 dj1033
     have hB999 := hB999.keepG E1045 dj1034
     have hO1010 := hO1010.keepG E1045 dj1035
     have hb := below_stepG hb E1045 hb.size (fun k hk => (hl1027_old.lt k hk).1)
     have dj1049 : Dj (Bl v958) F1043 := Dj.stepF hN1043 (fun k hk => (bd1046 k hk).2) dj1033
     have dj1050 : ¬ F1043 b997 := ne_stepF hN1043 bd1047 dj1034
     have dj1051 : Dj (Bl v1010) F1043 := Dj.stepF hN1043 (fun k hk => (bd1048 k hk).2) dj1035
     have hO1043 := hO1043.mono (base' := w.heap.size) (by omega)
     have hl1043 : LocksR w1044 w.heap.size k963 ([(2, ⟨(joinL aL bL), 3, [([116], aL)], [], true⟩)] : TM) F1043 := hl1043
     refine op_move (ev_hit hN rfl) ?_
     refine op_extract (ev_hit hN rfl) rfl ?_
     refine op_extract (ev_hit hN rfl) rfl ?_
     refine op_assign (ev_hit hN rfl) ?_
     refine op_assign (ev_hit hN rfl) ?_
     refine reg_nil ?_
     refine hK1042 _ _ ?_
     refine seq_any fun K1052 hK1052 => ?_
     refine one_reg ?_
     refine op_move (ev_base hN rfl s1) ?_
     refine op_assign (ev_hit hN rfl) ?_
     refine reg_nil ?_
     refine hK1052 _ _ ?_
     refine seq_any fun K1053 hK1053 => ?_
     refine seq_any fun K1054 hK1054 => ?_
     refine one_reg ?_
     refine op_move (ev_base hN rfl s4) ?_
     refine reg_nil ?_
     refine hK1054 _ _ ?_
     refine wp_cond_true (ev_hit hN rfl) ?_
     refine one_reg ?_
     refine op_move (ev_base hN rfl s0) ?_
     refine op_move (ev_base hN rfl s1) ?_
     refine op_fn (vs := [vA, vB]) ok51 ⟨(ev_hit hN rfl), ⟨(ev_hit hN rfl), trivial⟩⟩ (rjoinW_ret aL bL _ _ _ (by first | assumption | omega | (simp only [List.length_append, List.length_cons, List.length_nil, List.length_drop, List.length_take]; omega) | (dsimp only; omega) | decide | (simp [keyV, be8_len]; done)) (by first | assumption | omega | (simp only [List.length_append, List.length_cons, List.length_nil, List.length_drop, List.length_take]; omega) | (dsimp only; omega) | decide | (simp [keyV, be8_len]; done)) (show RdC w1044 0 w1044.heap.size 1 vA aL.length (aL.map u16v) from by have hh : RdC w1044 0 w1044.heap.size 1 _ _ _ := (hA.mono (L' := 0) (B' := w1044.heap.size) (Nat.zero_le _) (by omega)); first | exact hh | exact hh.cast (by first | omega | (simp; try omega)) (by first | rfl | simp [u16v])) (show RdC w1044 0 w1044.heap.size 1 vB bL.length (bL.map u16v) from by have hh : RdC w1044 0 w1044.heap.size 1 _ _ _ := (hB.mono (L' := 0) (B' := w1044.heap.size) (Nat.zero_le _) (by omega)); first | exact hh | exact hh.cast (by first | omega | (simp; try omega)) (by first | rfl | simp [u16v]))) ?_
     rintro v1055 w1056 ⟨E1057, hO1055⟩
     have dj1058 : DJ v1055 v958 := fun k hk hg => by have q1 := (hO1055.lt k hk).1; have q2 := (hO958.lt k hg).2; omega
     have dj1059 : DJ v1055 v1010 := fun k hk hg => by have q1 := (hO1055.lt k hk).1; have q2 := (hO1010.lt k hg).2; omega
     have dj1060 : Dj F1043 (Bl v1055) := Dj.fresh (fun k hk => (hl1043.lt k hk).2) (fun k hk => (hO1055.lt k hk).1)
     have E1057 := grown_of_below E1057
     have z_w1056 := E1057.size
     have hA := hA.keep0 E1057
     have hB := hB.keep0 E1057
     have hO958 := hO958.keep0 E1057
     have hB999 := hB999.keep0 E1057
     have hO1010 := hO1010.keep0 E1057
     have hl1043 := hl1043.keepG (Gr.of0 E1057 NoB) (fun _ _ h => h)
     have hO1043 := hO1043.keep0 E1057
     have hb := below_step0 hb E1057 hb.size
     have hO1055 := hO1055.mono (base' := w.heap.size) (by omega)
     refine op_assign (ev_hit hN rfl) ?_
     refine reg_nil ?_
     refine hK1053 _ _ ?_
     refine seq_any fun K1061 hK1061 => ?_
     refine one_reg ?_
     refine op_move (ev_base hN rfl s2) ?_
     refine op_move (ev_hit hN rfl) ?_
     refine g_true (j := 1) (dj := 114) (b := true) rfl rfl rfl (ev_hit hN rfl) ?_
     refine op_move (ev_base hN rfl s3) ?_
     refine op_pick_t (ev_hit hN rfl) (ev_hit hN rfl) ?_
     refine op_move (ev_hit hN rfl) ?_
     refine g_true (j := 4) (dj := 117) (b := true) rfl rfl rfl (ev_hit hN rfl) ?_
     refine op_move (ev_base hN rfl s0) ?_
     refine g_true (j := 4) (dj := 117) (b := true) rfl rfl rfl (ev_hit hN rfl) ?_
     refine op_move (ev_hit hN rfl) ?_
     refine g_true (j := 4) (dj := 117) (b := true) rfl rfl rfl (ev_hit hN rfl) ?_
     refine op_fn (vs := [vA, v1055]) ok61 ⟨(ev_hit hN rfl), ⟨(ev_hit hN rfl), trivial⟩⟩ (raboveW_ret aL (joinL aL bL) _ _ _ (by first | assumption | omega | (simp only [List.length_append, List.length_cons, List.length_nil, List.length_drop, List.length_take]; omega) | (dsimp only; omega) | decide | (simp [keyV, be8_len]; done)) (by first | assumption | omega | (simp only [List.length_append, List.length_cons, List.length_nil, List.length_drop, List.length_take]; omega) | (dsimp only; omega) | decide | (simp [keyV, be8_len]; done)) (show RdC w1056 0 w1056.heap.size 1 vA aL.length (aL.map u16v) from by have hh : RdC w1056 0 w1056.heap.size 1 _ _ _ := (hA.mono (L' := 0) (B' := w1056.heap.size) (Nat.zero_le _) (by omega)); first | exact hh | exact hh.cast (by first | omega | (simp; try omega)) (by first | rfl | simp [u16v])) (show RdC w1056 0 w1056.heap.size 1 v1055 (joinL aL bL).length ((joinL aL bL).map u16v) from by have hh : RdC w1056 0 w1056.heap.size 1 _ _ _ := (hO1055.rdw.mono (L' := 0) (B' := w1056.heap.size) (Nat.zero_le _) (by omega)); first | exact hh | exact hh.cast (by first | omega | (simp; try omega)) (by first | rfl | simp [u16v]))) ?_
     rintro _ w1062 ⟨E1063, rfl⟩
     have E1063 := grown_of_below E1063
     have z_w1062 := E1063.size
     have hA := hA.keep0 E1063
     have hB := hB.keep0 E1063
     have hO958 := hO958.keep0 E1063
     have hB999 := hB999.keep0 E1063
     have hO1010 := hO1010.keep0 E1063
     have hl1043 := hl1043.keepG (Gr.of0 E1063 NoB) (fun _ _ h => h)
     have hO1043 := hO1043.keep0 E1063
     have hO1055 := hO1055.keep0 E1063
     have hb := below_step0 hb E1063 hb.size
     rcases Bool.eq_false_or_eq_true ((flowsL aL (joinL aL bL) && !decide (aL = (joinL aL bL)))) with c120 | c120
     · -- 120T
      rw [c120]
      refine op_pick_t (ev_hit hN rfl) (ev_hit hN rfl) ?_
      refine op_assign (ev_hit hN rfl) ?_
      refine reg_nil ?_
      refine hK1061 _ _ ?_
      refine seq_any fun K1064 hK1064 => ?_
      refine one_reg ?_
      refine op_move (ev_hit hN rfl) ?_
      refine op_bin (v := .bool true) (ev_hit hN rfl) rfl (by rw [binOp_eql]; rfl) ?_
      refine op_move (ev_hit hN rfl) ?_
      refine g_true (j := 2) (dj := 124) (b := true) rfl rfl rfl (ev_hit hN rfl) ?_
      refine op_move (ev_hit hN rfl) ?_
      refine g_true (j := 2) (dj := 124) (b := true) rfl rfl rfl (ev_hit hN rfl) ?_
      refine op_bin (v := .bool true) (ev_hit hN rfl) rfl (by rw [binOp_eql]; rfl) ?_
      refine op_pick_t (ev_hit hN rfl) (ev_hit hN rfl) ?_
      refine op_move (ev_hit hN rfl) ?_
      refine g_true (j := 6) (dj := 128) (b := true) rfl rfl rfl (ev_hit hN rfl) ?_
      refine op_move (ev_hit hN rfl) ?_
      refine g_true (j := 6) (dj := 128) (b := true) rfl rfl rfl (ev_hit hN rfl) ?_
      refine op_fn (vs := [(ptr k963 0), (Value.int .i64 2)]) ok62 ⟨(ev_hit hN rfl), ⟨rfl, trivial⟩⟩ (DoomedR' (n := 2) hl1043 rfl) ?_
      rintro _ w1065 ⟨E1066, rfl⟩
      have E1066 := grown_of_below E1066
      have z_w1065 := E1066.size
      have hA := hA.keep0 E1066
      have hB := hB.keep0 E1066
      have hO958 := hO958.keep0 E1066
      have hB999 := hB999.keep0 E1066
      have hO1010 := hO1010.keep0 E1066
      have hl1043 := hl1043.keepG (Gr.of0 E1066 NoB) (fun _ _ h => h)
      have hO1043 := hO1043.keep0 E1066
      have hO1055 := hO1055.keep0 E1066
      have hb := below_step0 hb E1066 hb.size
      refine g_true (j := 6) (dj := 128) (b := true) rfl rfl rfl (ev_hit hN rfl) ?_
      refine op_move (ev_hit hN rfl) ?_
      refine g_true (j := 6) (dj := 128) (b := true) rfl rfl rfl (ev_hit hN rfl) ?_
      refine op_eqb Try.underlying4 (ev_hit hN rfl) (ev_hit hN rfl) ?_
      refine op_pick_t (ev_hit hN rfl) (ev_hit hN rfl) ?_
      refine op_move (ev_hit hN rfl) ?_
      refine g_true (j := 12) (dj := 134) (b := true) rfl rfl rfl (ev_hit hN rfl) ?_
      refine op_move (ev_hit hN rfl) ?_
      refine g_true (j := 12) (dj := 134) (b := true) rfl rfl rfl (ev_hit hN rfl) ?_
      refine op_len_rd Try.underlying35 (ev_hit hN rfl) hO1043.rdw ?_
      refine g_true (j := 12) (dj := 134) (b := true) rfl rfl rfl (ev_hit hN rfl) ?_
      refine op_eql (ev_hit hN rfl) rfl (fun c137 => ?_) (fun c137 => ?_)
      · -- 137T
       refine g_true (j := 12) (dj := 134) (b := true) rfl rfl rfl (ev_hit hN rfl) ?_
       refine op_move (ev_hit hN rfl) ?_
       refine g_true (j := 12) (dj := 134) (b := true) rfl rfl rfl (ev_hit hN rfl) ?_
       refine op_eqb Try.underlying4 (ev_hit hN rfl) (ev_hit hN rfl) ?_
       refine op_pick_t (ev_hit hN rfl) (ev_hit hN rfl) ?_
       refine op_assign (ev_hit hN rfl) ?_
       refine reg_nil ?_
       refine hK1064 _ _ ?_
       refine wp_ret ?_
       refine ret1 rfl hd (ev_hit hN rfl) ⟨_, rfl, ?_⟩
       -- path 25T 29T 37F 88F 120T 137T
       exact ⟨hb, rfl⟩
      · -- 137F
       exact absurd rfl c137
     · -- 120F
      simp [hs2, hfj] at c120; exact absurd c120.symm hs2
  · -- 29F
   rw [c29]
   refine g_true (j := 3) (dj := 27) (b := false) rfl rfl rfl (ev_hit hN rfl) ?_
   refine op_not (ev_hit hN rfl) ?_
   refine op_pick_f (ev_hit hN rfl) (ev_hit hN rfl) ?_
   refine op_move (ev_hit hN rfl) ?_
   skip
   refine g_false (j := 8) (dj := 32) (b := false) rfl rfl rfl (ev_hit hN rfl) rfl rfl ?_
   refine g_false (j := 8) (dj := 32) (b := false) rfl rfl rfl (ev_hit hN rfl) rfl rfl ?_
   refine g_false (j := 8) (dj := 32) (b := false) rfl rfl rfl (ev_hit hN rfl) rfl rfl ?_
   refine g_false (j := 8) (dj := 32) (b := false) rfl rfl rfl (ev_hit hN rfl) rfl rfl ?_
   refine g_false (j := 8) (dj := 32) (b := false) rfl rfl rfl (ev_hit hN rfl) rfl rfl ?_
   refine op_pick_t (ev_hit hN rfl) rfl ?_
   refine reg_nil ?_
   refine hK953 _ _ ?_
   refine wp_cond_true (ev_hit hN rfl) ?_
   refine seq_any fun K1067 hK1067 => ?_
   refine one_reg ?_
   refine op_assign rfl ?_
   refine reg_nil ?_
   refine hK1067 _ _ ?_
   refine wp_ret (then_ret ( ?_))
   refine ret1 rfl hd (ev_hit hN rfl) ⟨_, rfl, ?_⟩
   -- path 25T 29F
   exact ⟨hb, rfl⟩
 · -- 25F
  rw [c25]
  refine op_not (ev_hit hN rfl) ?_
  refine op_move (ev_hit hN rfl) ?_
  refine g_false (j := 3) (dj := 27) (b := false) rfl rfl rfl (ev_hit hN rfl) rfl rfl ?_
  refine g_false (j := 3) (dj := 27) (b := false) rfl rfl rfl (ev_hit hN rfl) rfl rfl ?_
  refine g_false (j := 3) (dj := 27) (b := false) rfl rfl rfl (ev_hit hN rfl) rfl rfl ?_
  refine op_pick_t (ev_hit hN rfl) rfl ?_
  refine op_move (ev_hit hN rfl) ?_
  skip
  refine g_false (j := 8) (dj := 32) (b := false) rfl rfl rfl (ev_hit hN rfl) rfl rfl ?_
  refine g_false (j := 8) (dj := 32) (b := false) rfl rfl rfl (ev_hit hN rfl) rfl rfl ?_
  refine g_false (j := 8) (dj := 32) (b := false) rfl rfl rfl (ev_hit hN rfl) rfl rfl ?_
  refine g_false (j := 8) (dj := 32) (b := false) rfl rfl rfl (ev_hit hN rfl) rfl rfl ?_
  refine g_false (j := 8) (dj := 32) (b := false) rfl rfl rfl (ev_hit hN rfl) rfl rfl ?_
  refine op_pick_t (ev_hit hN rfl) rfl ?_
  refine reg_nil ?_
  refine hK953 _ _ ?_
  refine wp_cond_true (ev_hit hN rfl) ?_
  refine seq_any fun K1068 hK1068 => ?_
  refine one_reg ?_
  refine op_assign rfl ?_
  refine reg_nil ?_
  refine hK1068 _ _ ?_
  refine wp_ret (then_ret ( ?_))
  refine ret1 rfl hd (ev_hit hN rfl) ⟨_, rfl, ?_⟩
  -- path 25F
  exact ⟨hb, rfl⟩

end Go.Proofs.Ytmhdbphpmgjpcaa

/- Whom a commit dooms: all ways. -/
namespace Go.Proofs.Ytmhdbphpmgjpcaa
open Go.Gx Go.RowKit
theorem LockDooms_ret (rd wr mv : Bool) (aL bL : List UInt16) (vA vB : Value) (w : World) (hal : aL.length ≤ 9223372036854775807) (hbl : bL.length ≤ 9223372036854775807) (hA : RdC w 0 w.heap.size 1 vA aL.length (aL.map u16v)) (hB : RdC w 0 w.heap.size 1 vB bL.length (bL.map u16v)) : Ret Try.prog 13 #[vA, vB, .bool rd, .bool wr, .bool mv] w (fun v' w' => Below w.heap.size w w' ∧ v' = .bool true) := by
  cases mv <;> cases rd <;> cases wr
  · exact LockDooms_fff_any aL bL vA vB w hal hbl hA hB
  · exact LockDooms_fft_any aL bL vA vB w hal hbl hA hB
  · exact LockDooms_ftf_any aL bL vA vB w hal hbl hA hB
  · by_cases hs : bL = aL
    · exact LockDooms_ftt_eq aL bL vA vB w hal hbl hA hB hs
    · cases hf : flowsL aL bL
      · exact LockDooms_ftt_no aL bL vA vB w hal hbl hA hB hs hf
      · exact LockDooms_ftt_up aL bL vA vB w hal hbl hA hB hs hf
  · exact LockDooms_tff_any aL bL vA vB w hal hbl hA hB
  · exact LockDooms_tft_any aL bL vA vB w hal hbl hA hB
  · exact LockDooms_ttf_any aL bL vA vB w hal hbl hA hB
  · cases hg : flowsL bL aL
    · exact LockDooms_ttt_up aL bL vA vB w hal hbl hA hB hg
    · exact LockDooms_ttt_eq aL bL vA vB w hal hbl hA hB hg
end Go.Proofs.Ytmhdbphpmgjpcaa

/- What the arguments of the laws are, told by their types. -/
namespace Go.Proofs.Ytmhdbphpmgjpcaa
open Go.Gx Go.RowKit
theorem rd_le {w : World} {L B sz n : Nat} {v : Value} {cs : List Value} (h : RdC w L B sz v n cs) : n ≤ 9223372036854775807 := by obtain ⟨_, _, _, _, hq, hm, _⟩ := h; exact Nat.le_trans hq hm
theorem cells46 : Try.prog.cellsOf 46 = 1 := by kernel_rfl
theorem flat_u16v (l : List UInt16) : l.flatMap (fun c => [u16v c]) = l.map u16v := by induction l with | nil => rfl | cons c l ih => simp [ih]
theorem dec54 {H : Type} {enc : TypeId × Value → H} {w : World} {base : Nat} {spare : Nat → Bool} {held : Bool} : Dec enc Try.prog w base spare held 54 (fun p : Value × List UInt16 => [p.1]) (fun p => RdC w 0 w.heap.size 1 p.1 p.2.length (p.2.map u16v)) :=
  (Dec.slice Try.underlying54 (by rw [cells46]; decide) (Dec.u16 Try.underlying46) (fun _ _ => by rw [cells46]; rfl)).map fun p hp => ⟨p, rfl, by have hq := hp.1; rwa [cells46, flat_u16v] at hq⟩
end Go.Proofs.Ytmhdbphpmgjpcaa
