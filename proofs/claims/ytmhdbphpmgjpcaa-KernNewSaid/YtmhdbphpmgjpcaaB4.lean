/- Walks, written by a program: what each function of the translation hands back. -/
import Derived.Test.YtmhdbphpmgjpcaaB3
namespace Go.Proofs.Ytmhdbphpmgjpcaa
open Go.Gx Go.RowKit
attribute [local irreducible] wpList wpStill Code.wp Calls
open Go.Sort (insertionSort insOuter insInner swp siftDown heapSort heapBuild heapPop scanUp scanDown partition partLoop partitionEqual partEqLoop scanSorted partialIns bitsLen partialInsertionSort shiftDown shiftUp SortedIn reverseRange reverseLoop fixDown fixUp)
set_option maxHeartbeats 2000000 in
theorem partialW_ret (d : Ar) (v : Value) (n base : Nat) (a b : Nat) (w : World) (hd : d.size = n) (hn : n ≤ 4000000000000000000) (O : Own w base 46 1 v n (d.toList.map u16v)) (hab : a < b) (hbn : b ≤ n) : Ret Try.prog 158 #[v, (Value.int .i64 ((a : Nat) : Int)), (Value.int .i64 ((b : Nat) : Int))] w (fun v' w' => w.grownBy w' v.ownBlock ∧ v' = .bool (partialInsertionSort ltT d a b).2 ∧ Own w' base 46 1 v n ((partialInsertionSort ltT d a b).1.toList.map u16v)) := by
 have hb := grown_refl w v.ownBlock
 refine enter (N := 133) Try.func158 rfl rfl (by simp) fun a0 hN hd hA => ?_
 have s0 : a0.tmps.getD 0 undef = v := hA 0 (by simp)
 have s1 : a0.tmps.getD 1 undef = (Value.int .i64 ((a : Nat) : Int)) := hA 1 (by simp)
 have s2 : a0.tmps.getD 2 undef = (Value.int .i64 ((b : Nat) : Int)) := hA 2 (by simp)
 clear hA
 refine seq_any fun K1 hK1 => ?_
 refine one_reg ?_
 refine op_assign rfl ?_
 refine reg_nil ?_
 refine hK1 _ _ ?_
 refine seq_any fun K2 hK2 => ?_
 refine one_reg ?_
 refine op_move (ev_base hN rfl s1) ?_
 refine op_add (ev_hit hN rfl) rfl (add64 (by omega)) ?_
 refine op_assign (ev_hit hN rfl) ?_
 refine reg_nil ?_
 refine hK2 _ _ ?_
 refine seq_any fun K3 hK3 => ?_
 refine seq_any fun K4 hK4 => ?_
 refine one_reg ?_
 refine op_assign rfl ?_
 refine reg_nil ?_
 refine hK4 _ _ ?_
 refine wp_block ?_
 refine loop_m (fun mz_ az_ w' => ∃ (s ii : Nat) (dk : Ar), mz_ = (5 - s) ∧ (az_.tmps.getD 0 undef = v) ∧ (az_.tmps.getD 1 undef = (Value.int .i64 ((a : Nat) : Int))) ∧ (az_.tmps.getD 2 undef = (Value.int .i64 ((b : Nat) : Int))) ∧ (az_.tmps.getD 8 undef = (Value.int .i64 ((s : Nat) : Int))) ∧ (az_.tmps.getD 7 undef = (Value.int .i64 ((ii : Nat) : Int))) ∧ (dk.size = n) ∧ (s ≤ 5 ∧ a + 1 ≤ ii ∧ ii ≤ b) ∧ (partialIns ltT a b 5 (a + 1) d = partialIns ltT a b (5 - s) ii dk) ∧ (w.grownBy w' v.ownBlock) ∧ (w.heap.size ≤ w'.heap.size) ∧ (Own w' base 46 1 v n (dk.toList.map u16v))) _ hN hd ⟨0, (a + 1), _, rfl, (sl_base hN rfl s0), (sl_base hN rfl s1), (sl_base hN rfl s2), (sl_hit hN rfl).trans (congrArg (Value.int .i64) (by omega)), (sl_hit hN rfl).trans (congrArg (Value.int .i64) (by omega)), (by first | assumption | (simp only [Array.size_setIfInBounds, swp_sz, siftDown_size]; assumption)), (by omega), rfl, hb, (Nat.le_refl _), O⟩ ?_
 rintro _ a5 w5 hN5 hd5 ⟨s, ii, dk, rfl, s5_0, s5_1, s5_2, s5_8, s5_7, hdk, hr1, hs, hb, zl_w5, hO6⟩
 have z_w5 := hb.size
 refine seq_any fun K7 hK7 => ?_
 refine seq_any fun K8 hK8 => ?_
 refine one_reg ?_
 refine op_move (ev_base hN5 rfl s5_8) ?_
 refine op_lss (ev_hit hN5 rfl) rfl (fun c14 => ?_) (fun c14 => ?_)
 · -- 14T
  refine reg_nil ?_
  refine hK8 _ _ ?_
  refine wp_cond_true (ev_hit hN5 rfl) ?_
  refine wp_skip ?_
  refine hK7 _ _ ?_
  refine seq_any fun K9 hK9 => ?_
  refine wp_block ?_
  refine seq_join1 (N := 133) (fun az_ w' => ∃ (i2 : Nat), (az_.tmps.getD 0 undef = v) ∧ (az_.tmps.getD 1 undef = (Value.int .i64 ((a : Nat) : Int))) ∧ (az_.tmps.getD 2 undef = (Value.int .i64 ((b : Nat) : Int))) ∧ (az_.tmps.getD 8 undef = (Value.int .i64 ((s : Nat) : Int))) ∧ (az_.tmps.getD 7 undef = (Value.int .i64 ((i2 : Nat) : Int))) ∧ (ii ≤ i2 ∧ i2 ≤ b) ∧ (scanSorted ltT dk b ii = i2) ∧ (w.grownBy w' v.ownBlock) ∧ (w5.heap.size ≤ w'.heap.size) ∧ (Own w' base 46 1 v n (dk.toList.map u16v))) (fun hJ10 => ?_) ?_
  ·
   refine seq_any fun K11 hK11 => ?_
   refine wp_block ?_
   refine loop_m (fun mz_ az_ w' => ∃ (i2 : Nat), mz_ = (b + 1 - i2) ∧ (az_.tmps.getD 0 undef = v) ∧ (az_.tmps.getD 1 undef = (Value.int .i64 ((a : Nat) : Int))) ∧ (az_.tmps.getD 2 undef = (Value.int .i64 ((b : Nat) : Int))) ∧ (az_.tmps.getD 8 undef = (Value.int .i64 ((s : Nat) : Int))) ∧ (az_.tmps.getD 7 undef = (Value.int .i64 ((i2 : Nat) : Int))) ∧ (ii ≤ i2 ∧ i2 ≤ b) ∧ (scanSorted ltT dk b ii = scanSorted ltT dk b i2) ∧ (w.grownBy w' v.ownBlock) ∧ (w5.heap.size ≤ w'.heap.size) ∧ (Own w' base 46 1 v n (dk.toList.map u16v))) _ hN5 hd5 ⟨ii, rfl, (sl_base hN5 rfl s5_0), (sl_base hN5 rfl s5_1), (sl_base hN5 rfl s5_2), (sl_base hN5 rfl s5_8), (sl_base hN5 rfl s5_7).trans (congrArg (Value.int .i64) (by omega)), (by omega), rfl, hb, (Nat.le_refl _), hO6⟩ ?_
   rintro _ a12 w12 hN12 hd12 ⟨i2, rfl, s12_0, s12_1, s12_2, s12_8, s12_7, hr2, hq1, hb, zl_w12, hO6⟩
   have z_w12 := hb.size
   refine seq_any fun K13 hK13 => ?_
   refine seq_any fun K14 hK14 => ?_
   refine reg_still mixed (by kernel_rfl) ?_
   intro w16 E15
   have z_w16 := E15.size
   have hO6 := hO6.keep0 E15
   have hb := grow_step0 hb E15
   refine st_step rfl (fun _ h9 => op_move (ev_base hN12 rfl s12_7) h9) ?_
   refine st_step rfl (fun _ h9 => op_move (ev_base hN12 rfl s12_2) h9) ?_
   by_cases g19 : ((i2 : Nat) : Int) < ((b : Nat) : Int)
   · -- 19T
    refine st_step rfl (fun _ h9 => op_cmp (b := true) (ev_hit hN12 rfl) (ev_hit hN12 rfl) (b_lss (decide_eq_true g19)) h9) ?_
    refine st_step rfl (fun _ h9 => op_move (ev_hit hN12 rfl) h9) ?_
    refine st_g_true (j := 3) (dj := 20) (b := true) rfl rfl rfl (ev_hit hN12 rfl) ?_
    refine st_step rfl (fun _ h9 => op_move (ev_base hN12 rfl s12_0) h9) ?_
    refine st_g_true (j := 3) (dj := 20) (b := true) rfl rfl rfl (ev_hit hN12 rfl) ?_
    refine st_step rfl (fun _ h9 => op_move (ev_base hN12 rfl s12_7) h9) ?_
    refine st_g_true (j := 3) (dj := 20) (b := true) rfl rfl rfl (ev_hit hN12 rfl) ?_
    refine st_index_rd slt45 (ev_hit hN12 rfl) hO6.rdw (ev_hit hN12 rfl) (by omega) (by omega) ?_
    intro b17 o18 h0b17 h1b17 hc19
    refine st_g_true (j := 3) (dj := 20) (b := true) rfl rfl rfl (ev_hit hN12 rfl) ?_
    refine st_step rfl (fun _ h9 => op_load1 (v := (Value.int .u16 (dk[i2]!.toNat : Int))) one46 (ev_hit hN12 rfl) (by have := hc19 0 (Value.int .u16 (dk[i2]!.toNat : Int)) (by decide) (el_arr (i := i2) (by omega) (by first | omega | (simp only [Array.size_setIfInBounds, swp_sz, siftDown_size]; omega))); simpa using this) h9) ?_
    refine st_g_true (j := 3) (dj := 20) (b := true) rfl rfl rfl (ev_hit hN12 rfl) ?_
    refine st_step rfl (fun _ h9 => op_move (ev_base hN12 rfl s12_0) h9) ?_
    refine st_g_true (j := 3) (dj := 20) (b := true) rfl rfl rfl (ev_hit hN12 rfl) ?_
    refine st_step rfl (fun _ h9 => op_move (ev_base hN12 rfl s12_7) h9) ?_
    refine st_g_true (j := 3) (dj := 20) (b := true) rfl rfl rfl (ev_hit hN12 rfl) ?_
    refine st_step rfl (fun _ h9 => op_sub (ev_hit hN12 rfl) rfl (sub64 (by omega)) h9) ?_
    refine st_g_true (j := 3) (dj := 20) (b := true) rfl rfl rfl (ev_hit hN12 rfl) ?_
    refine st_index_rd slt45 (ev_hit hN12 rfl) hO6.rdw (ev_hit hN12 rfl) (by omega) (by omega) ?_
    intro b20 o21 h0b20 h1b20 hc22
    refine st_g_true (j := 3) (dj := 20) (b := true) rfl rfl rfl (ev_hit hN12 rfl) ?_
    refine st_step rfl (fun _ h9 => op_load1 (v := (Value.int .u16 (dk[(i2 - 1)]!.toNat : Int))) one46 (ev_hit hN12 rfl) (by have := hc22 0 (Value.int .u16 (dk[(i2 - 1)]!.toNat : Int)) (by decide) (el_arr (i := (i2 - 1)) (by omega) (by first | omega | (simp only [Array.size_setIfInBounds, swp_sz, siftDown_size]; omega))); simpa using this) h9) ?_
    refine st_g_true (j := 3) (dj := 20) (b := true) rfl rfl rfl (ev_hit hN12 rfl) ?_
    refine st_fn (vs := [(Value.int .u16 (dk[i2]!.toNat : Int)), (Value.int .u16 (dk[(i2 - 1)]!.toNat : Int))]) ok159 (⟨(ev_hit hN12 rfl), ⟨(ev_hit hN12 rfl), trivial⟩⟩) (Less16_ret dk[i2]! dk[(i2 - 1)]! _) ?_
    refine st_g_true (j := 3) (dj := 20) (b := true) rfl rfl rfl (ev_hit hN12 rfl) ?_
    refine st_step rfl (fun _ h9 => op_not (ev_hit hN12 rfl) h9) ?_
    refine st_step rfl (fun _ h9 => op_pick_t (ev_hit hN12 rfl) (ev_hit hN12 rfl) h9) ?_
    refine st_nil ?_
    refine hK14 _ _ ?_
    refine wp_cond_split (ev_hit hN12 rfl) (fun c32 => ?_) (fun c32 => ?_)
    · -- 32T
     refine wp_skip ?_
     refine hK13 _ _ ?_
     refine wp_block ?_
     refine one_reg ?_
     refine op_move (ev_base hN12 rfl s12_7) ?_
     refine op_add (ev_hit hN12 rfl) rfl (add64 (by omega)) ?_
     refine op_assign (ev_hit hN12 rfl) ?_
     refine reg_nil ?_
     refine blk_normal ?_
     -- round 14T 19T 32T
     exact loop_next _ hN12 hd12 ⟨(i2 + 1), rfl, (sl_base hN12 rfl s12_0), (sl_base hN12 rfl s12_1), (sl_base hN12 rfl s12_2), (sl_base hN12 rfl s12_8), (sl_hit hN12 rfl).trans (congrArg (Value.int .i64) (by omega)), (by omega), (hq1.trans (scanSorted_go (by omega) (not_t c32))), hb, (by omega), hO6⟩ (by omega)
    · -- 32F
     refine wp_exit (then_exit (then_exit (blk_hit ?_)))
     refine hK11 _ _ ?_
     exact hJ10 _ _ _ hN12 hd12 ⟨i2, (sl_base hN12 rfl s12_0), (sl_base hN12 rfl s12_1), (sl_base hN12 rfl s12_2), (sl_base hN12 rfl s12_8), (sl_base hN12 rfl s12_7), (by omega), (hq1.trans (scanSorted_stop (.inr (not_f c32)))), hb, (by omega), hO6⟩
   · -- 19F
    refine st_step rfl (fun _ h9 => op_cmp (b := false) (ev_hit hN12 rfl) (ev_hit hN12 rfl) (b_lss (decide_eq_false g19)) h9) ?_
    refine st_step rfl (fun _ h9 => op_move (ev_hit hN12 rfl) h9) ?_
    refine st_g_false (j := 3) (dj := 20) (b := true) rfl rfl rfl (ev_hit hN12 rfl) rfl rfl ?_
    refine st_g_false (j := 3) (dj := 20) (b := true) rfl rfl rfl (ev_hit hN12 rfl) rfl rfl ?_
    refine st_g_false (j := 3) (dj := 20) (b := true) rfl rfl rfl (ev_hit hN12 rfl) rfl rfl ?_
    refine st_g_false (j := 3) (dj := 20) (b := true) rfl rfl rfl (ev_hit hN12 rfl) rfl rfl ?_
    refine st_g_false (j := 3) (dj := 20) (b := true) rfl rfl rfl (ev_hit hN12 rfl) rfl rfl ?_
    refine st_g_false (j := 3) (dj := 20) (b := true) rfl rfl rfl (ev_hit hN12 rfl) rfl rfl ?_
    refine st_g_false (j := 3) (dj := 20) (b := true) rfl rfl rfl (ev_hit hN12 rfl) rfl rfl ?_
    refine st_g_false (j := 3) (dj := 20) (b := true) rfl rfl rfl (ev_hit hN12 rfl) rfl rfl ?_
    refine st_g_false (j := 3) (dj := 20) (b := true) rfl rfl rfl (ev_hit hN12 rfl) rfl rfl ?_
    refine st_g_false (j := 3) (dj := 20) (b := true) rfl rfl rfl (ev_hit hN12 rfl) rfl rfl ?_
    refine st_g_false (j := 3) (dj := 20) (b := true) rfl rfl rfl (ev_hit hN12 rfl) rfl rfl ?_
    refine st_step rfl (fun _ h9 => op_pick_f (ev_hit hN12 rfl) rfl h9) ?_
    refine st_nil ?_
    refine hK14 _ _ ?_
    refine wp_cond_false (ev_hit hN12 rfl) ?_
    refine wp_exit (then_exit (then_exit (blk_hit ?_)))
    refine hK11 _ _ ?_
    exact hJ10 _ _ _ hN12 hd12 ⟨i2, (sl_base hN12 rfl s12_0), (sl_base hN12 rfl s12_1), (sl_base hN12 rfl s12_2), (sl_base hN12 rfl s12_8), (sl_base hN12 rfl s12_7), (by omega), (hq1.trans (scanSorted_stop (.inl (by omega)))), hb, (by omega), hO6⟩
  ·
   rintro a10 w10 hN10 hd10 ⟨i2, s10_0, s10_1, s10_2, s10_8, s10_7, hr2, hq2, hb, zl_w10, hO6⟩
   have z_w10 := hb.size
   refine seq_any fun K23 hK23 => ?_
   refine seq_any fun K24 hK24 => ?_
   refine one_reg ?_
   refine op_move (ev_base hN10 rfl s10_7) ?_
   refine op_move (ev_base hN10 rfl s10_2) ?_
   refine op_eql (ev_hit hN10 rfl) (ev_hit hN10 rfl) (fun c37 => ?_) (fun c37 => ?_)
   · -- 37T
    refine reg_nil ?_
    refine hK24 _ _ ?_
    refine wp_cond_true (ev_hit hN10 rfl) ?_
    refine seq_any fun K25 hK25 => ?_
    refine one_reg ?_
    refine op_assign rfl ?_
    refine reg_nil ?_
    refine hK25 _ _ ?_
    refine wp_ret (then_ret (blk_ret (then_ret (then_ret (blk_ret (then_ret ( ?_)))))))
    refine ret1 rfl hd10 (ev_hit hN10 rfl) ⟨_, rfl, ?_⟩
    -- path 14T 37T
    have hq : partialInsertionSort ltT d a b = (dk, true) := hs.trans (pi_true (by omega) hq2 (by omega))
    exact ⟨hb, by rw [hq]; rfl, hO6.cast rfl (by rw [hq])⟩
   · -- 37F
    refine reg_nil ?_
    refine hK24 _ _ ?_
    refine wp_cond_false (ev_hit hN10 rfl) ?_
    refine wp_skip ?_
    refine hK23 _ _ ?_
    refine seq_any fun K26 hK26 => ?_
    refine seq_any fun K27 hK27 => ?_
    refine one_reg ?_
    refine op_move (ev_base hN10 rfl s10_2) ?_
    refine op_move (ev_base hN10 rfl s10_1) ?_
    refine op_sub (ev_hit hN10 rfl) (ev_hit hN10 rfl) (sub64 (by omega)) ?_
    refine op_lss (ev_hit hN10 rfl) rfl (fun c41 => ?_) (fun c41 => ?_)
    · -- 41T
     refine reg_nil ?_
     refine hK27 _ _ ?_
     refine wp_cond_true (ev_hit hN10 rfl) ?_
     refine seq_any fun K28 hK28 => ?_
     refine one_reg ?_
     refine op_assign rfl ?_
     refine reg_nil ?_
     refine hK28 _ _ ?_
     refine wp_ret (then_ret (blk_ret (then_ret (then_ret (blk_ret (then_ret ( ?_)))))))
     refine ret1 rfl hd10 (ev_hit hN10 rfl) ⟨_, rfl, ?_⟩
     -- path 14T 37F 41T
     have hq : partialInsertionSort ltT d a b = (dk, false) := hs.trans (pi_short (by omega) hq2 (by omega) (by omega))
     exact ⟨hb, by rw [hq]; rfl, hO6.cast rfl (by rw [hq])⟩
    · -- 41F
     refine reg_nil ?_
     refine hK27 _ _ ?_
     refine wp_cond_false (ev_hit hN10 rfl) ?_
     refine wp_skip ?_
     refine hK26 _ _ ?_
     refine seq_any fun K29 hK29 => ?_
     refine reg_mid (e := 46) (sz := 1) (base := base) (n := n) (v := v) (Φ := phiL [(fun uz _ => uz = v), (fun uz _ => uz = (Value.int .i64 ((i2 : Nat) : Int))), (fun uz _ => uz = v), (fun uz _ => uz = (Value.int .i64 ((i2 : Nat) : Int))), (fun uz _ => uz = (Value.int .i64 (((i2 : Nat) : Int) - 1))), (fun uz _ => uz = v), (fun uz _ => uz = (Value.int .i64 ((i2 : Nat) : Int))), (fun uz _ => uz = (Value.int .i64 (((i2 : Nat) : Int) - 1))), (fun uz _ => ∃ bz oz, uz = ptr bz oz ∧ AtV v (i2 - 1) bz oz), (fun uz _ => uz = (Value.int .u16 (dk[(i2 - 1)]!.toNat : Int))), (fun uz _ => uz = v), (fun uz _ => uz = (Value.int .i64 ((i2 : Nat) : Int))), (fun uz _ => ∃ bz oz, uz = ptr bz oz ∧ AtV v i2 bz oz), (fun uz _ => uz = (Value.int .u16 (dk[i2]!.toNat : Int))), (fun uz _ => ∃ bz oz, uz = ptr bz oz ∧ AtV v i2 bz oz), (fun _ _ => True), (fun uz _ => ∃ bz oz, uz = ptr bz oz ∧ AtV v (i2 - 1) bz oz), (fun _ _ => True)]) [15, 17] [(dk.toList.map u16v), ((dk.setIfInBounds i2 dk[(i2 - 1)]!).toList.map u16v), (((dk.setIfInBounds i2 dk[(i2 - 1)]!).setIfInBounds (i2 - 1) dk[i2]!).toList.map u16v)] mixed (by kernel_rfl) (by kernel_rfl) (by kernel_rfl) (by kernel_rfl) hN10 hO6 (StL.get (StL.eq (StL.eq (StL.eq (StL.eq (StL.eq (StL.eq (StL.eq (StL.eq (StL.at (StL.eq (StL.eq (StL.eq (StL.at (StL.eq (StL.at (StL.cons (fun _ _ _ _ h => h) (StL.at (StL.cons (fun _ _ _ _ h => h) (StL.nil _)))))))))))))))))))) (ObRs.get (ObRs.cons ?_ (ObRs.cons ?_ (ObRs.cons ?_ (ObRs.cons ?_ (ObRs.cons ?_ (ObRs.cons ?_ (ObRs.cons ?_ (ObRs.cons ?_ (ObRs.cons ?_ (ObRs.cons ?_ (ObRs.cons ?_ (ObRs.cons ?_ (ObRs.cons ?_ (ObRs.cons ?_ (ObRs.cons ?_ (ObRs.pass rfl (ObRs.cons ?_ (ObRs.pass rfl (ObRs.nil)))))))))))))))))))) (ObWs.get (ObWs.cons ?_ (ObWs.cons ?_ (ObWs.nil)))) ?_
     ·
      intro aA wA cA hNA hRA hckA hOA hbsA hdpA
      have qA_0 := (hbsA 0 rfl).trans (sl_base hN10 rfl s10_0)
      clear hbsA hdpA
      refine op_move (ev_base hNA rfl qA_0) ?_
      exact obR_end rfl rfl (grown_refl _ _)
     ·
      intro aA wA cA hNA hRA hckA hOA hbsA hdpA
      have qA_7 := (hbsA 7 rfl).trans (sl_base hN10 rfl s10_7)
      clear hbsA hdpA
      refine op_move (ev_base hNA rfl qA_7) ?_
      exact obR_end rfl rfl (grown_refl _ _)
     ·
      intro aA wA cA hNA hRA hckA hOA hbsA hdpA
      have qA_0 := (hbsA 0 rfl).trans (sl_base hN10 rfl s10_0)
      clear hbsA hdpA
      refine op_move (ev_base hNA rfl qA_0) ?_
      exact obR_end rfl rfl (grown_refl _ _)
     ·
      intro aA wA cA hNA hRA hckA hOA hbsA hdpA
      have qA_7 := (hbsA 7 rfl).trans (sl_base hN10 rfl s10_7)
      clear hbsA hdpA
      refine op_move (ev_base hNA rfl qA_7) ?_
      exact obR_end rfl rfl (grown_refl _ _)
     ·
      intro aA wA cA hNA hRA hckA hOA hbsA hdpA
      have qA_45 : Sl aA 45 (Value.int .i64 ((i2 : Nat) : Int)) := hdpA 3 _ 45 (by kernel_rfl) rfl rfl
      clear hbsA hdpA
      refine op_sub (ev_base hNA rfl qA_45) rfl (sub64 (by omega)) ?_
      exact obR_end rfl rfl (grown_refl _ _)
     ·
      intro aA wA cA hNA hRA hckA hOA hbsA hdpA
      have qA_0 := (hbsA 0 rfl).trans (sl_base hN10 rfl s10_0)
      clear hbsA hdpA
      refine op_move (ev_base hNA rfl qA_0) ?_
      exact obR_end rfl rfl (grown_refl _ _)
     ·
      intro aA wA cA hNA hRA hckA hOA hbsA hdpA
      have qA_7 := (hbsA 7 rfl).trans (sl_base hN10 rfl s10_7)
      clear hbsA hdpA
      refine op_move (ev_base hNA rfl qA_7) ?_
      exact obR_end rfl rfl (grown_refl _ _)
     ·
      intro aA wA cA hNA hRA hckA hOA hbsA hdpA
      have qA_48 : Sl aA 48 (Value.int .i64 ((i2 : Nat) : Int)) := hdpA 6 _ 48 (by kernel_rfl) rfl rfl
      clear hbsA hdpA
      refine op_sub (ev_base hNA rfl qA_48) rfl (sub64 (by omega)) ?_
      exact obR_end rfl rfl (grown_refl _ _)
     ·
      intro aA wA cA hNA hRA hckA hOA hbsA hdpA
      have qA_47 : Sl aA 47 v := hdpA 5 _ 47 (by kernel_rfl) rfl rfl
      have qA_49 : Sl aA 49 (Value.int .i64 (((i2 : Nat) : Int) - 1)) := hdpA 7 _ 49 (by kernel_rfl) rfl rfl
      clear hbsA hdpA
      refine op_index_own (i := (i2 - 1)) slt45 (ev_base hNA rfl qA_47) hOA (ev_base hNA rfl qA_49) (by omega) (by omega) ?_
      intro b_ o_ _ hA_
      exact obR_end rfl ⟨b_, o_, rfl, by simpa using hA_⟩ (grown_refl _ _)
     ·
      intro aA wA cA hNA hRA hckA hOA hbsA hdpA
      obtain ⟨bA_50, oA_50, qA_50, hAA_50⟩ := hdpA 8 _ 50 (by kernel_rfl) rfl rfl
      clear hbsA hdpA
      obtain rfl : cA = 0 := Nat.le_zero.1 (hckA 0 15 rfl (by kernel_rfl))
      have hOA : Own wA base 46 1 v n (dk.toList.map u16v) := hOA
      refine op_load1 (v := (Value.int .u16 (dk[(i2 - 1)]!.toNat : Int))) one46 (ev_base hNA rfl qA_50) (by have := hOA.cellAt hAA_50 0 _ (el_at (i := (i2 - 1)) (by first | omega | (simp only [Array.size_setIfInBounds, swp_sz, siftDown_size]; omega))); simpa using this) ?_
      exact obR_end rfl rfl (grown_refl _ _)
     ·
      intro aA wA cA hNA hRA hckA hOA hbsA hdpA
      have qA_0 := (hbsA 0 rfl).trans (sl_base hN10 rfl s10_0)
      clear hbsA hdpA
      refine op_move (ev_base hNA rfl qA_0) ?_
      exact obR_end rfl rfl (grown_refl _ _)
     ·
      intro aA wA cA hNA hRA hckA hOA hbsA hdpA
      have qA_7 := (hbsA 7 rfl).trans (sl_base hN10 rfl s10_7)
      clear hbsA hdpA
      refine op_move (ev_base hNA rfl qA_7) ?_
      exact obR_end rfl rfl (grown_refl _ _)
     ·
      intro aA wA cA hNA hRA hckA hOA hbsA hdpA
      have qA_52 : Sl aA 52 v := hdpA 10 _ 52 (by kernel_rfl) rfl rfl
      have qA_53 : Sl aA 53 (Value.int .i64 ((i2 : Nat) : Int)) := hdpA 11 _ 53 (by kernel_rfl) rfl rfl
      clear hbsA hdpA
      refine op_index_own (i := i2) slt45 (ev_base hNA rfl qA_52) hOA (ev_base hNA rfl qA_53) (by omega) (by omega) ?_
      intro b_ o_ _ hA_
      exact obR_end rfl ⟨b_, o_, rfl, by simpa using hA_⟩ (grown_refl _ _)
     ·
      intro aA wA cA hNA hRA hckA hOA hbsA hdpA
      obtain ⟨bA_54, oA_54, qA_54, hAA_54⟩ := hdpA 12 _ 54 (by kernel_rfl) rfl rfl
      clear hbsA hdpA
      obtain rfl : cA = 0 := Nat.le_zero.1 (hckA 0 15 rfl (by kernel_rfl))
      have hOA : Own wA base 46 1 v n (dk.toList.map u16v) := hOA
      refine op_load1 (v := (Value.int .u16 (dk[i2]!.toNat : Int))) one46 (ev_base hNA rfl qA_54) (by have := hOA.cellAt hAA_54 0 _ (el_at (i := i2) (by first | omega | (simp only [Array.size_setIfInBounds, swp_sz, siftDown_size]; omega))); simpa using this) ?_
      exact obR_end rfl rfl (grown_refl _ _)
     ·
      intro aA wA cA hNA hRA hckA hOA hbsA hdpA
      have qA_42 : Sl aA 42 v := hdpA 0 _ 42 (by kernel_rfl) rfl rfl
      have qA_43 : Sl aA 43 (Value.int .i64 ((i2 : Nat) : Int)) := hdpA 1 _ 43 (by kernel_rfl) rfl rfl
      clear hbsA hdpA
      refine op_index_own (i := i2) slt45 (ev_base hNA rfl qA_42) hOA (ev_base hNA rfl qA_43) (by omega) (by omega) ?_
      intro b_ o_ _ hA_
      exact obR_end rfl ⟨b_, o_, rfl, by simpa using hA_⟩ (grown_refl _ _)
     ·
      intro aA wA cA hNA hRA hckA hOA hbsA hdpA
      have qA_44 : Sl aA 44 v := hdpA 2 _ 44 (by kernel_rfl) rfl rfl
      have qA_46 : Sl aA 46 (Value.int .i64 (((i2 : Nat) : Int) - 1)) := hdpA 4 _ 46 (by kernel_rfl) rfl rfl
      clear hbsA hdpA
      refine op_index_own (i := (i2 - 1)) slt45 (ev_base hNA rfl qA_44) hOA (ev_base hNA rfl qA_46) (by omega) (by omega) ?_
      intro b_ o_ _ hA_
      exact obR_end rfl ⟨b_, o_, rfl, by simpa using hA_⟩ (grown_refl _ _)
     ·
      intro o_ ho_; obtain rfl := Option.some.inj ho_; intro aA wA hNA hRA hbsA hdpA hOA
      obtain ⟨bA_56, oA_56, qA_56, hAA_56⟩ := hdpA 14 _ 56 (by kernel_rfl) rfl rfl
      have qA_51 : Sl aA 51 (Value.int .u16 (dk[(i2 - 1)]!.toNat : Int)) := hdpA 9 _ 51 (by kernel_rfl) rfl rfl
      clear hbsA hdpA
      have hOA : Own wA base 46 1 v n (dk.toList.map u16v) := hOA
      refine op_store_own (vs := [(Value.int .u16 (dk[(i2 - 1)]!.toNat : Int))]) size46 (ev_base hNA rfl qA_56) (ev_base hNA rfl qA_51) rfl rfl rfl hOA hAA_56 (by have := hOA.1; simp at this ⊢; omega) ?_
      intro w_ hO_ E_
      exact obW_end rfl (hO_.cast rfl (set_arr (by first | omega | (simp only [Array.size_setIfInBounds, swp_sz, siftDown_size]; omega)))) E_
     ·
      intro o_ ho_; obtain rfl := Option.some.inj ho_; intro aA wA hNA hRA hbsA hdpA hOA
      obtain ⟨bA_57, oA_57, qA_57, hAA_57⟩ := hdpA 16 _ 57 (by kernel_rfl) rfl rfl
      have qA_55 : Sl aA 55 (Value.int .u16 (dk[i2]!.toNat : Int)) := hdpA 13 _ 55 (by kernel_rfl) rfl rfl
      clear hbsA hdpA
      have hOA : Own wA base 46 1 v n ((dk.setIfInBounds i2 dk[(i2 - 1)]!).toList.map u16v) := hOA
      refine op_store_own (vs := [(Value.int .u16 (dk[i2]!.toNat : Int))]) size46 (ev_base hNA rfl qA_57) (ev_base hNA rfl qA_55) rfl rfl rfl hOA hAA_57 (by have := hOA.1; simp at this ⊢; omega) ?_
      intro w_ hO_ E_
      exact obW_end rfl (hO_.cast rfl (set_arr (by first | omega | (simp only [Array.size_setIfInBounds, swp_sz, siftDown_size]; omega)))) E_
     ·
      intro a30 w30 hN30 hd30 hbs30 hph30 hO30 E30
      have hd30 := hd30.trans hd10
      have s30_0 := (hbs30 0 rfl).trans (sl_base hN10 rfl s10_0)
      have s30_1 := (hbs30 1 rfl).trans (sl_base hN10 rfl s10_1)
      have s30_2 := (hbs30 2 rfl).trans (sl_base hN10 rfl s10_2)
      have s30_7 := (hbs30 7 rfl).trans (sl_base hN10 rfl s10_7)
      have s30_8 := (hbs30 8 rfl).trans (sl_base hN10 rfl s10_8)
      clear hbs30 hph30
      have hO30 : Own w30 base 46 1 v n (((dk.setIfInBounds i2 dk[(i2 - 1)]!).setIfInBounds (i2 - 1) dk[i2]!).toList.map u16v) := hO30
      have z_w30 := E30.size
      have hb := grow_stepX hb E30 rfl
      refine hK29 _ _ ?_
      refine seq_join1 (N := 133) (fun az_ w' => ∃ (d3 : Ar), (az_.tmps.getD 0 undef = v) ∧ (az_.tmps.getD 1 undef = (Value.int .i64 ((a : Nat) : Int))) ∧ (az_.tmps.getD 2 undef = (Value.int .i64 ((b : Nat) : Int))) ∧ (az_.tmps.getD 7 undef = (Value.int .i64 ((i2 : Nat) : Int))) ∧ (az_.tmps.getD 8 undef = (Value.int .i64 ((s : Nat) : Int))) ∧ (d3 = fixDown ltT a i2 (swp dk i2 (i2 - 1))) ∧ (d3.size = n) ∧ (w.grownBy w' v.ownBlock) ∧ (w30.heap.size ≤ w'.heap.size) ∧ (Own w' base 46 1 v n (d3.toList.map u16v))) (fun hJ31 => ?_) ?_
      ·
       refine seq_any fun K33 hK33 => ?_
       refine seq_any fun K34 hK34 => ?_
       refine one_reg ?_
       refine op_move (ev_base hN30 rfl s30_7) ?_
       refine op_move (ev_base hN30 rfl s30_1) ?_
       refine op_sub (ev_hit hN30 rfl) (ev_hit hN30 rfl) (sub64 (by omega)) ?_
       refine op_geq (ev_hit hN30 rfl) rfl (fun c61 => ?_) (fun c61 => ?_)
       · -- 61T
        refine reg_nil ?_
        refine hK34 _ _ ?_
        refine wp_cond_true (ev_hit hN30 rfl) ?_
        refine seq_any fun K35 hK35 => ?_
        refine one_reg ?_
        refine op_move (ev_base hN30 rfl s30_7) ?_
        refine op_sub (r := ((i2 - 1 : Nat) : Int)) (ev_hit hN30 rfl) rfl (by rw [IntKind.wrap_i64]; omega) ?_
        refine op_assign (ev_hit hN30 rfl) ?_
        refine reg_nil ?_
        refine hK35 _ _ ?_
        refine wp_block ?_
        refine loop_m (fun mz_ az_ w' => ∃ (j3 : Nat) (d2 : Ar), mz_ = (j3 + 1) ∧ (az_.tmps.getD 0 undef = v) ∧ (az_.tmps.getD 1 undef = (Value.int .i64 ((a : Nat) : Int))) ∧ (az_.tmps.getD 2 undef = (Value.int .i64 ((b : Nat) : Int))) ∧ (az_.tmps.getD 7 undef = (Value.int .i64 ((i2 : Nat) : Int))) ∧ (az_.tmps.getD 8 undef = (Value.int .i64 ((s : Nat) : Int))) ∧ (az_.tmps.getD 9 undef = (Value.int .i64 ((j3 : Nat) : Int))) ∧ (d2.size = n) ∧ (j3 ≤ i2 - 1) ∧ (shiftDown ltT (i2 - 1) (swp dk i2 (i2 - 1)) = shiftDown ltT j3 d2) ∧ (w.grownBy w' v.ownBlock) ∧ (w30.heap.size ≤ w'.heap.size) ∧ (Own w' base 46 1 v n (d2.toList.map u16v))) _ hN30 hd30 ⟨(i2 - 1), _, rfl, (sl_base hN30 rfl s30_0), (sl_base hN30 rfl s30_1), (sl_base hN30 rfl s30_2), (sl_base hN30 rfl s30_7), (sl_base hN30 rfl s30_8), (sl_hit hN30 rfl).trans (congrArg (Value.int .i64) (by omega)), (by first | assumption | (simp only [Array.size_setIfInBounds, swp_sz, siftDown_size]; assumption)), (by omega), rfl, hb, (Nat.le_refl _), hO30⟩ ?_
        rintro _ a36 w36 hN36 hd36 ⟨j3, d2, rfl, s36_0, s36_1, s36_2, s36_7, s36_8, s36_9, hd2, hr3, hdn, hb, zl_w36, hO37⟩
        have z_w36 := hb.size
        refine seq_any fun K38 hK38 => ?_
        refine seq_any fun K39 hK39 => ?_
        refine one_reg ?_
        refine op_move (ev_base hN36 rfl s36_9) ?_
        refine op_geq (ev_hit hN36 rfl) rfl (fun c65 => ?_) (fun c65 => ?_)
        · -- 65T
         refine reg_nil ?_
         refine hK39 _ _ ?_
         refine wp_cond_true (ev_hit hN36 rfl) ?_
         refine wp_skip ?_
         refine hK38 _ _ ?_
         refine seq_any fun K40 hK40 => ?_
         refine wp_block ?_
         refine seq_any fun K41 hK41 => ?_
         refine seq_any fun K42 hK42 => ?_
         refine reg_still mixed (by kernel_rfl) ?_
         intro w44 E43
         have z_w44 := E43.size
         have hO37 := hO37.keep0 E43
         have hb := grow_step0 hb E43
         refine st_step rfl (fun _ h9 => op_move (ev_base hN36 rfl s36_0) h9) ?_
         refine st_step rfl (fun _ h9 => op_move (ev_base hN36 rfl s36_9) h9) ?_
         refine st_index_rd slt45 (ev_hit hN36 rfl) hO37.rdw (ev_hit hN36 rfl) (by omega) (by omega) ?_
         intro b45 o46 h0b45 h1b45 hc47
         refine st_step rfl (fun _ h9 => op_load1 (v := (Value.int .u16 (d2[j3]!.toNat : Int))) one46 (ev_hit hN36 rfl) (by have := hc47 0 (Value.int .u16 (d2[j3]!.toNat : Int)) (by decide) (el_arr (i := j3) (by omega) (by first | omega | (simp only [Array.size_setIfInBounds, swp_sz, siftDown_size]; omega))); simpa using this) h9) ?_
         refine st_step rfl (fun _ h9 => op_move (ev_base hN36 rfl s36_0) h9) ?_
         refine st_step rfl (fun _ h9 => op_move (ev_base hN36 rfl s36_9) h9) ?_
         refine st_step rfl (fun _ h9 => op_sub (ev_hit hN36 rfl) rfl (sub64 (by omega)) h9) ?_
         refine st_index_rd slt45 (ev_hit hN36 rfl) hO37.rdw (ev_hit hN36 rfl) (by omega) (by omega) ?_
         intro b48 o49 h0b48 h1b48 hc50
         refine st_step rfl (fun _ h9 => op_load1 (v := (Value.int .u16 (d2[(j3 - 1)]!.toNat : Int))) one46 (ev_hit hN36 rfl) (by have := hc50 0 (Value.int .u16 (d2[(j3 - 1)]!.toNat : Int)) (by decide) (el_arr (i := (j3 - 1)) (by omega) (by first | omega | (simp only [Array.size_setIfInBounds, swp_sz, siftDown_size]; omega))); simpa using this) h9) ?_
         refine st_fn (vs := [(Value.int .u16 (d2[j3]!.toNat : Int)), (Value.int .u16 (d2[(j3 - 1)]!.toNat : Int))]) ok159 (⟨(ev_hit hN36 rfl), ⟨(ev_hit hN36 rfl), trivial⟩⟩) (Less16_ret d2[j3]! d2[(j3 - 1)]! _) ?_
         refine st_step rfl (fun _ h9 => op_not (ev_hit hN36 rfl) h9) ?_
         refine st_nil ?_
         refine hK42 _ _ ?_
         refine wp_cond_split (ev_hit hN36 rfl) (fun c78 => ?_) (fun c78 => ?_)
         · -- 78T
          refine wp_exit (then_exit (blk_miss (by decide) (then_exit (then_exit (blk_hit ?_)))))
          refine hK33 _ _ ?_
          exact hJ31 _ _ _ hN36 hd36 ⟨_, (sl_base hN36 rfl s36_0), (sl_base hN36 rfl s36_1), (sl_base hN36 rfl s36_2), (sl_base hN36 rfl s36_7), (sl_base hN36 rfl s36_8), ((fixDown_t (by omega)).trans (hdn.trans (shiftDown_stop (.inr (not_t c78))))).symm, (by first | assumption | (simp only [Array.size_setIfInBounds, swp_sz, siftDown_size]; assumption)), hb, (by omega), hO37⟩
         · -- 78F
          refine wp_skip ?_
          refine hK41 _ _ ?_
          refine reg_mid (e := 46) (sz := 1) (base := base) (n := n) (v := v) (Φ := phiL [(fun uz _ => uz = v), (fun uz _ => uz = (Value.int .i64 ((j3 : Nat) : Int))), (fun uz _ => uz = v), (fun uz _ => uz = (Value.int .i64 ((j3 : Nat) : Int))), (fun uz _ => uz = (Value.int .i64 (((j3 : Nat) : Int) - 1))), (fun uz _ => uz = v), (fun uz _ => uz = (Value.int .i64 ((j3 : Nat) : Int))), (fun uz _ => uz = (Value.int .i64 (((j3 : Nat) : Int) - 1))), (fun uz _ => ∃ bz oz, uz = ptr bz oz ∧ AtV v (j3 - 1) bz oz), (fun uz _ => uz = (Value.int .u16 (d2[(j3 - 1)]!.toNat : Int))), (fun uz _ => uz = v), (fun uz _ => uz = (Value.int .i64 ((j3 : Nat) : Int))), (fun uz _ => ∃ bz oz, uz = ptr bz oz ∧ AtV v j3 bz oz), (fun uz _ => uz = (Value.int .u16 (d2[j3]!.toNat : Int))), (fun uz _ => ∃ bz oz, uz = ptr bz oz ∧ AtV v j3 bz oz), (fun _ _ => True), (fun uz _ => ∃ bz oz, uz = ptr bz oz ∧ AtV v (j3 - 1) bz oz), (fun _ _ => True)]) [15, 17] [(d2.toList.map u16v), ((d2.setIfInBounds j3 d2[(j3 - 1)]!).toList.map u16v), (((d2.setIfInBounds j3 d2[(j3 - 1)]!).setIfInBounds (j3 - 1) d2[j3]!).toList.map u16v)] mixed (by kernel_rfl) (by kernel_rfl) (by kernel_rfl) (by kernel_rfl) hN36 hO37 (StL.get (StL.eq (StL.eq (StL.eq (StL.eq (StL.eq (StL.eq (StL.eq (StL.eq (StL.at (StL.eq (StL.eq (StL.eq (StL.at (StL.eq (StL.at (StL.cons (fun _ _ _ _ h => h) (StL.at (StL.cons (fun _ _ _ _ h => h) (StL.nil _)))))))))))))))))))) (ObRs.get (ObRs.cons ?_ (ObRs.cons ?_ (ObRs.cons ?_ (ObRs.cons ?_ (ObRs.cons ?_ (ObRs.cons ?_ (ObRs.cons ?_ (ObRs.cons ?_ (ObRs.cons ?_ (ObRs.cons ?_ (ObRs.cons ?_ (ObRs.cons ?_ (ObRs.cons ?_ (ObRs.cons ?_ (ObRs.cons ?_ (ObRs.pass rfl (ObRs.cons ?_ (ObRs.pass rfl (ObRs.nil)))))))))))))))))))) (ObWs.get (ObWs.cons ?_ (ObWs.cons ?_ (ObWs.nil)))) ?_
          ·
           intro aA wA cA hNA hRA hckA hOA hbsA hdpA
           have qA_0 := (hbsA 0 rfl).trans (sl_base hN36 rfl s36_0)
           clear hbsA hdpA
           refine op_move (ev_base hNA rfl qA_0) ?_
           exact obR_end rfl rfl (grown_refl _ _)
          ·
           intro aA wA cA hNA hRA hckA hOA hbsA hdpA
           have qA_9 := (hbsA 9 rfl).trans (sl_base hN36 rfl s36_9)
           clear hbsA hdpA
           refine op_move (ev_base hNA rfl qA_9) ?_
           exact obR_end rfl rfl (grown_refl _ _)
          ·
           intro aA wA cA hNA hRA hckA hOA hbsA hdpA
           have qA_0 := (hbsA 0 rfl).trans (sl_base hN36 rfl s36_0)
           clear hbsA hdpA
           refine op_move (ev_base hNA rfl qA_0) ?_
           exact obR_end rfl rfl (grown_refl _ _)
          ·
           intro aA wA cA hNA hRA hckA hOA hbsA hdpA
           have qA_9 := (hbsA 9 rfl).trans (sl_base hN36 rfl s36_9)
           clear hbsA hdpA
           refine op_move (ev_base hNA rfl qA_9) ?_
           exact obR_end rfl rfl (grown_refl _ _)
          ·
           intro aA wA cA hNA hRA hckA hOA hbsA hdpA
           have qA_82 : Sl aA 82 (Value.int .i64 ((j3 : Nat) : Int)) := hdpA 3 _ 82 (by kernel_rfl) rfl rfl
           clear hbsA hdpA
           refine op_sub (ev_base hNA rfl qA_82) rfl (sub64 (by omega)) ?_
           exact obR_end rfl rfl (grown_refl _ _)
          ·
           intro aA wA cA hNA hRA hckA hOA hbsA hdpA
           have qA_0 := (hbsA 0 rfl).trans (sl_base hN36 rfl s36_0)
           clear hbsA hdpA
           refine op_move (ev_base hNA rfl qA_0) ?_
           exact obR_end rfl rfl (grown_refl _ _)
          ·
           intro aA wA cA hNA hRA hckA hOA hbsA hdpA
           have qA_9 := (hbsA 9 rfl).trans (sl_base hN36 rfl s36_9)
           clear hbsA hdpA
           refine op_move (ev_base hNA rfl qA_9) ?_
           exact obR_end rfl rfl (grown_refl _ _)
          ·
           intro aA wA cA hNA hRA hckA hOA hbsA hdpA
           have qA_85 : Sl aA 85 (Value.int .i64 ((j3 : Nat) : Int)) := hdpA 6 _ 85 (by kernel_rfl) rfl rfl
           clear hbsA hdpA
           refine op_sub (ev_base hNA rfl qA_85) rfl (sub64 (by omega)) ?_
           exact obR_end rfl rfl (grown_refl _ _)
          ·
           intro aA wA cA hNA hRA hckA hOA hbsA hdpA
           have qA_84 : Sl aA 84 v := hdpA 5 _ 84 (by kernel_rfl) rfl rfl
           have qA_86 : Sl aA 86 (Value.int .i64 (((j3 : Nat) : Int) - 1)) := hdpA 7 _ 86 (by kernel_rfl) rfl rfl
           clear hbsA hdpA
           refine op_index_own (i := (j3 - 1)) slt45 (ev_base hNA rfl qA_84) hOA (ev_base hNA rfl qA_86) (by omega) (by omega) ?_
           intro b_ o_ _ hA_
           exact obR_end rfl ⟨b_, o_, rfl, by simpa using hA_⟩ (grown_refl _ _)
          ·
           intro aA wA cA hNA hRA hckA hOA hbsA hdpA
           obtain ⟨bA_87, oA_87, qA_87, hAA_87⟩ := hdpA 8 _ 87 (by kernel_rfl) rfl rfl
           clear hbsA hdpA
           obtain rfl : cA = 0 := Nat.le_zero.1 (hckA 0 15 rfl (by kernel_rfl))
           have hOA : Own wA base 46 1 v n (d2.toList.map u16v) := hOA
           refine op_load1 (v := (Value.int .u16 (d2[(j3 - 1)]!.toNat : Int))) one46 (ev_base hNA rfl qA_87) (by have := hOA.cellAt hAA_87 0 _ (el_at (i := (j3 - 1)) (by first | omega | (simp only [Array.size_setIfInBounds, swp_sz, siftDown_size]; omega))); simpa using this) ?_
           exact obR_end rfl rfl (grown_refl _ _)
          ·
           intro aA wA cA hNA hRA hckA hOA hbsA hdpA
           have qA_0 := (hbsA 0 rfl).trans (sl_base hN36 rfl s36_0)
           clear hbsA hdpA
           refine op_move (ev_base hNA rfl qA_0) ?_
           exact obR_end rfl rfl (grown_refl _ _)
          ·
           intro aA wA cA hNA hRA hckA hOA hbsA hdpA
           have qA_9 := (hbsA 9 rfl).trans (sl_base hN36 rfl s36_9)
           clear hbsA hdpA
           refine op_move (ev_base hNA rfl qA_9) ?_
           exact obR_end rfl rfl (grown_refl _ _)
          ·
           intro aA wA cA hNA hRA hckA hOA hbsA hdpA
           have qA_89 : Sl aA 89 v := hdpA 10 _ 89 (by kernel_rfl) rfl rfl
           have qA_90 : Sl aA 90 (Value.int .i64 ((j3 : Nat) : Int)) := hdpA 11 _ 90 (by kernel_rfl) rfl rfl
           clear hbsA hdpA
           refine op_index_own (i := j3) slt45 (ev_base hNA rfl qA_89) hOA (ev_base hNA rfl qA_90) (by omega) (by omega) ?_
           intro b_ o_ _ hA_
           exact obR_end rfl ⟨b_, o_, rfl, by simpa using hA_⟩ (grown_refl _ _)
          ·
           intro aA wA cA hNA hRA hckA hOA hbsA hdpA
           obtain ⟨bA_91, oA_91, qA_91, hAA_91⟩ := hdpA 12 _ 91 (by kernel_rfl) rfl rfl
           clear hbsA hdpA
           obtain rfl : cA = 0 := Nat.le_zero.1 (hckA 0 15 rfl (by kernel_rfl))
           have hOA : Own wA base 46 1 v n (d2.toList.map u16v) := hOA
           refine op_load1 (v := (Value.int .u16 (d2[j3]!.toNat : Int))) one46 (ev_base hNA rfl qA_91) (by have := hOA.cellAt hAA_91 0 _ (el_at (i := j3) (by first | omega | (simp only [Array.size_setIfInBounds, swp_sz, siftDown_size]; omega))); simpa using this) ?_
           exact obR_end rfl rfl (grown_refl _ _)
          ·
           intro aA wA cA hNA hRA hckA hOA hbsA hdpA
           have qA_79 : Sl aA 79 v := hdpA 0 _ 79 (by kernel_rfl) rfl rfl
           have qA_80 : Sl aA 80 (Value.int .i64 ((j3 : Nat) : Int)) := hdpA 1 _ 80 (by kernel_rfl) rfl rfl
           clear hbsA hdpA
           refine op_index_own (i := j3) slt45 (ev_base hNA rfl qA_79) hOA (ev_base hNA rfl qA_80) (by omega) (by omega) ?_
           intro b_ o_ _ hA_
           exact obR_end rfl ⟨b_, o_, rfl, by simpa using hA_⟩ (grown_refl _ _)
          ·
           intro aA wA cA hNA hRA hckA hOA hbsA hdpA
           have qA_81 : Sl aA 81 v := hdpA 2 _ 81 (by kernel_rfl) rfl rfl
           have qA_83 : Sl aA 83 (Value.int .i64 (((j3 : Nat) : Int) - 1)) := hdpA 4 _ 83 (by kernel_rfl) rfl rfl
           clear hbsA hdpA
           refine op_index_own (i := (j3 - 1)) slt45 (ev_base hNA rfl qA_81) hOA (ev_base hNA rfl qA_83) (by omega) (by omega) ?_
           intro b_ o_ _ hA_
           exact obR_end rfl ⟨b_, o_, rfl, by simpa using hA_⟩ (grown_refl _ _)
          ·
           intro o_ ho_; obtain rfl := Option.some.inj ho_; intro aA wA hNA hRA hbsA hdpA hOA
           obtain ⟨bA_93, oA_93, qA_93, hAA_93⟩ := hdpA 14 _ 93 (by kernel_rfl) rfl rfl
           have qA_88 : Sl aA 88 (Value.int .u16 (d2[(j3 - 1)]!.toNat : Int)) := hdpA 9 _ 88 (by kernel_rfl) rfl rfl
           clear hbsA hdpA
           have hOA : Own wA base 46 1 v n (d2.toList.map u16v) := hOA
           refine op_store_own (vs := [(Value.int .u16 (d2[(j3 - 1)]!.toNat : Int))]) size46 (ev_base hNA rfl qA_93) (ev_base hNA rfl qA_88) rfl rfl rfl hOA hAA_93 (by have := hOA.1; simp at this ⊢; omega) ?_
           intro w_ hO_ E_
           exact obW_end rfl (hO_.cast rfl (set_arr (by first | omega | (simp only [Array.size_setIfInBounds, swp_sz, siftDown_size]; omega)))) E_
          ·
           intro o_ ho_; obtain rfl := Option.some.inj ho_; intro aA wA hNA hRA hbsA hdpA hOA
           obtain ⟨bA_94, oA_94, qA_94, hAA_94⟩ := hdpA 16 _ 94 (by kernel_rfl) rfl rfl
           have qA_92 : Sl aA 92 (Value.int .u16 (d2[j3]!.toNat : Int)) := hdpA 13 _ 92 (by kernel_rfl) rfl rfl
           clear hbsA hdpA
           have hOA : Own wA base 46 1 v n ((d2.setIfInBounds j3 d2[(j3 - 1)]!).toList.map u16v) := hOA
           refine op_store_own (vs := [(Value.int .u16 (d2[j3]!.toNat : Int))]) size46 (ev_base hNA rfl qA_94) (ev_base hNA rfl qA_92) rfl rfl rfl hOA hAA_94 (by have := hOA.1; simp at this ⊢; omega) ?_
           intro w_ hO_ E_
           exact obW_end rfl (hO_.cast rfl (set_arr (by first | omega | (simp only [Array.size_setIfInBounds, swp_sz, siftDown_size]; omega)))) E_
          ·
           intro a51 w51 hN51 hd51 hbs51 hph51 hO51 E51
           have hd51 := hd51.trans hd36
           have s51_0 := (hbs51 0 rfl).trans (sl_base hN36 rfl s36_0)
           have s51_1 := (hbs51 1 rfl).trans (sl_base hN36 rfl s36_1)
           have s51_2 := (hbs51 2 rfl).trans (sl_base hN36 rfl s36_2)
           have s51_7 := (hbs51 7 rfl).trans (sl_base hN36 rfl s36_7)
           have s51_8 := (hbs51 8 rfl).trans (sl_base hN36 rfl s36_8)
           have s51_9 := (hbs51 9 rfl).trans (sl_base hN36 rfl s36_9)
           clear hbs51 hph51
           have hO51 : Own w51 base 46 1 v n (((d2.setIfInBounds j3 d2[(j3 - 1)]!).setIfInBounds (j3 - 1) d2[j3]!).toList.map u16v) := hO51
           have z_w51 := E51.size
           have hb := grow_stepX hb E51 rfl
           refine hK40 _ _ ?_
           refine one_reg ?_
           refine op_move (ev_base hN51 rfl s51_9) ?_
           refine op_sub (ev_hit hN51 rfl) rfl (sub64 (by omega)) ?_
           refine op_assign (ev_hit hN51 rfl) ?_
           refine reg_nil ?_
           -- round 14T 37F 41F 61T 65T 78F
           exact loop_next _ hN51 hd51 ⟨(j3 - 1), _, rfl, (sl_base hN51 rfl s51_0), (sl_base hN51 rfl s51_1), (sl_base hN51 rfl s51_2), (sl_base hN51 rfl s51_7), (sl_base hN51 rfl s51_8), (sl_hit hN51 rfl).trans (congrArg (Value.int .i64) (by omega)), (by first | assumption | (simp only [Array.size_setIfInBounds, swp_sz, siftDown_size]; assumption)), (by omega), (hdn.trans (shiftDown_go (by omega) (not_f c78))), hb, (by omega), hO51⟩ (by omega)
        · -- 65F
         refine reg_nil ?_
         refine hK39 _ _ ?_
         refine wp_cond_false (ev_hit hN36 rfl) ?_
         refine wp_exit (then_exit (then_exit (blk_hit ?_)))
         refine hK33 _ _ ?_
         exact hJ31 _ _ _ hN36 hd36 ⟨_, (sl_base hN36 rfl s36_0), (sl_base hN36 rfl s36_1), (sl_base hN36 rfl s36_2), (sl_base hN36 rfl s36_7), (sl_base hN36 rfl s36_8), ((fixDown_t (by omega)).trans (hdn.trans (shiftDown_stop (.inl (by omega))))).symm, (by first | assumption | (simp only [Array.size_setIfInBounds, swp_sz, siftDown_size]; assumption)), hb, (by omega), hO37⟩
       · -- 61F
        refine reg_nil ?_
        refine hK34 _ _ ?_
        refine wp_cond_false (ev_hit hN30 rfl) ?_
        refine wp_skip ?_
        refine hK33 _ _ ?_
        exact hJ31 _ _ _ hN30 hd30 ⟨_, (sl_base hN30 rfl s30_0), (sl_base hN30 rfl s30_1), (sl_base hN30 rfl s30_2), (sl_base hN30 rfl s30_7), (sl_base hN30 rfl s30_8), (fixDown_f (by omega)).symm, (by first | assumption | (simp only [Array.size_setIfInBounds, swp_sz, siftDown_size]; assumption)), hb, (by omega), hO30⟩
      ·
       rintro a31 w31 hN31 hd31 ⟨d3, s31_0, s31_1, s31_2, s31_7, s31_8, hdd, hz3, hb, zl_w31, hO32⟩
       have z_w31 := hb.size
       refine seq_any fun K52 hK52 => ?_
       refine one_reg ?_
       refine op_move (ev_base hN31 rfl s31_2) ?_
       refine op_move (ev_base hN31 rfl s31_7) ?_
       refine op_sub (ev_hit hN31 rfl) (ev_hit hN31 rfl) (sub64 (by omega)) ?_
       refine op_geq (ev_hit hN31 rfl) rfl (fun c98 => ?_) (fun c98 => ?_)
       · -- 98T
        refine reg_nil ?_
        refine hK52 _ _ ?_
        refine wp_cond_true (ev_hit hN31 rfl) ?_
        refine seq_any fun K53 hK53 => ?_
        refine one_reg ?_
        refine op_move (ev_base hN31 rfl s31_7) ?_
        refine op_add (ev_hit hN31 rfl) rfl (add64 (by omega)) ?_
        refine op_assign (ev_hit hN31 rfl) ?_
        refine reg_nil ?_
        refine hK53 _ _ ?_
        refine wp_block ?_
        refine loop_m (fun mz_ az_ w' => ∃ (j4 : Nat) (d4 : Ar), mz_ = (b + 1 - j4) ∧ (az_.tmps.getD 0 undef = v) ∧ (az_.tmps.getD 1 undef = (Value.int .i64 ((a : Nat) : Int))) ∧ (az_.tmps.getD 2 undef = (Value.int .i64 ((b : Nat) : Int))) ∧ (az_.tmps.getD 7 undef = (Value.int .i64 ((i2 : Nat) : Int))) ∧ (az_.tmps.getD 8 undef = (Value.int .i64 ((s : Nat) : Int))) ∧ (az_.tmps.getD 10 undef = (Value.int .i64 ((j4 : Nat) : Int))) ∧ (d4.size = n) ∧ (i2 + 1 ≤ j4 ∧ j4 ≤ b) ∧ (shiftUp ltT b (i2 + 1) d3 = shiftUp ltT b j4 d4) ∧ (w.grownBy w' v.ownBlock) ∧ (w31.heap.size ≤ w'.heap.size) ∧ (Own w' base 46 1 v n (d4.toList.map u16v))) _ hN31 hd31 ⟨(i2 + 1), _, rfl, (sl_base hN31 rfl s31_0), (sl_base hN31 rfl s31_1), (sl_base hN31 rfl s31_2), (sl_base hN31 rfl s31_7), (sl_base hN31 rfl s31_8), (sl_hit hN31 rfl).trans (congrArg (Value.int .i64) (by omega)), (by first | assumption | (simp only [Array.size_setIfInBounds, swp_sz, siftDown_size]; assumption)), (by omega), rfl, hb, (Nat.le_refl _), hO32⟩ ?_
        rintro _ a54 w54 hN54 hd54 ⟨j4, d4, rfl, s54_0, s54_1, s54_2, s54_7, s54_8, s54_10, hd4, hr4, hup, hb, zl_w54, hO55⟩
        have z_w54 := hb.size
        refine seq_any fun K56 hK56 => ?_
        refine seq_any fun K57 hK57 => ?_
        refine one_reg ?_
        refine op_move (ev_base hN54 rfl s54_10) ?_
        refine op_move (ev_base hN54 rfl s54_2) ?_
        refine op_lss (ev_hit hN54 rfl) (ev_hit hN54 rfl) (fun c103 => ?_) (fun c103 => ?_)
        · -- 103T
         refine reg_nil ?_
         refine hK57 _ _ ?_
         refine wp_cond_true (ev_hit hN54 rfl) ?_
         refine wp_skip ?_
         refine hK56 _ _ ?_
         refine seq_any fun K58 hK58 => ?_
         refine wp_block ?_
         refine seq_any fun K59 hK59 => ?_
         refine seq_any fun K60 hK60 => ?_
         refine reg_still mixed (by kernel_rfl) ?_
         intro w62 E61
         have z_w62 := E61.size
         have hO55 := hO55.keep0 E61
         have hb := grow_step0 hb E61
         refine st_step rfl (fun _ h9 => op_move (ev_base hN54 rfl s54_0) h9) ?_
         refine st_step rfl (fun _ h9 => op_move (ev_base hN54 rfl s54_10) h9) ?_
         refine st_index_rd slt45 (ev_hit hN54 rfl) hO55.rdw (ev_hit hN54 rfl) (by omega) (by omega) ?_
         intro b63 o64 h0b63 h1b63 hc65
         refine st_step rfl (fun _ h9 => op_load1 (v := (Value.int .u16 (d4[j4]!.toNat : Int))) one46 (ev_hit hN54 rfl) (by have := hc65 0 (Value.int .u16 (d4[j4]!.toNat : Int)) (by decide) (el_arr (i := j4) (by omega) (by first | omega | (simp only [Array.size_setIfInBounds, swp_sz, siftDown_size]; omega))); simpa using this) h9) ?_
         refine st_step rfl (fun _ h9 => op_move (ev_base hN54 rfl s54_0) h9) ?_
         refine st_step rfl (fun _ h9 => op_move (ev_base hN54 rfl s54_10) h9) ?_
         refine st_step rfl (fun _ h9 => op_sub (ev_hit hN54 rfl) rfl (sub64 (by omega)) h9) ?_
         refine st_index_rd slt45 (ev_hit hN54 rfl) hO55.rdw (ev_hit hN54 rfl) (by omega) (by omega) ?_
         intro b66 o67 h0b66 h1b66 hc68
         refine st_step rfl (fun _ h9 => op_load1 (v := (Value.int .u16 (d4[(j4 - 1)]!.toNat : Int))) one46 (ev_hit hN54 rfl) (by have := hc68 0 (Value.int .u16 (d4[(j4 - 1)]!.toNat : Int)) (by decide) (el_arr (i := (j4 - 1)) (by omega) (by first | omega | (simp only [Array.size_setIfInBounds, swp_sz, siftDown_size]; omega))); simpa using this) h9) ?_
         refine st_fn (vs := [(Value.int .u16 (d4[j4]!.toNat : Int)), (Value.int .u16 (d4[(j4 - 1)]!.toNat : Int))]) ok159 (⟨(ev_hit hN54 rfl), ⟨(ev_hit hN54 rfl), trivial⟩⟩) (Less16_ret d4[j4]! d4[(j4 - 1)]! _) ?_
         refine st_step rfl (fun _ h9 => op_not (ev_hit hN54 rfl) h9) ?_
         refine st_nil ?_
         refine hK60 _ _ ?_
         refine wp_cond_split (ev_hit hN54 rfl) (fun c116 => ?_) (fun c116 => ?_)
         · -- 116T
          refine wp_exit (then_exit (blk_miss (by decide) (then_exit (then_exit (blk_hit ?_)))))
          refine hK9 _ _ ?_
          refine one_reg ?_
          refine op_move (ev_base hN54 rfl s54_8) ?_
          refine op_add (ev_hit hN54 rfl) rfl (add64 (by omega)) ?_
          refine op_assign (ev_hit hN54 rfl) ?_
          refine reg_nil ?_
          -- round 14T 37F 41F 98T 103T 116T
          exact loop_next _ hN54 hd54 ⟨(s + 1), i2, _, rfl, (sl_base hN54 rfl s54_0), (sl_base hN54 rfl s54_1), (sl_base hN54 rfl s54_2), (sl_hit hN54 rfl).trans (congrArg (Value.int .i64) (by omega)), (sl_base hN54 rfl s54_7).trans (congrArg (Value.int .i64) (by omega)), (by first | assumption | (simp only [Array.size_setIfInBounds, swp_sz, siftDown_size]; assumption)), (by omega), (hs.trans (pi_go (by omega) hq2 (by omega) (by omega) hdd ((fixUp_t (by omega)).trans (hup.trans (shiftUp_stop (.inr (not_t c116))))).symm)), hb, (by omega), hO55⟩ (by omega)
         · -- 116F
          refine wp_skip ?_
          refine hK59 _ _ ?_
          refine reg_mid (e := 46) (sz := 1) (base := base) (n := n) (v := v) (Φ := phiL [(fun uz _ => uz = v), (fun uz _ => uz = (Value.int .i64 ((j4 : Nat) : Int))), (fun uz _ => uz = v), (fun uz _ => uz = (Value.int .i64 ((j4 : Nat) : Int))), (fun uz _ => uz = (Value.int .i64 (((j4 : Nat) : Int) - 1))), (fun uz _ => uz = v), (fun uz _ => uz = (Value.int .i64 ((j4 : Nat) : Int))), (fun uz _ => uz = (Value.int .i64 (((j4 : Nat) : Int) - 1))), (fun uz _ => ∃ bz oz, uz = ptr bz oz ∧ AtV v (j4 - 1) bz oz), (fun uz _ => uz = (Value.int .u16 (d4[(j4 - 1)]!.toNat : Int))), (fun uz _ => uz = v), (fun uz _ => uz = (Value.int .i64 ((j4 : Nat) : Int))), (fun uz _ => ∃ bz oz, uz = ptr bz oz ∧ AtV v j4 bz oz), (fun uz _ => uz = (Value.int .u16 (d4[j4]!.toNat : Int))), (fun uz _ => ∃ bz oz, uz = ptr bz oz ∧ AtV v j4 bz oz), (fun _ _ => True), (fun uz _ => ∃ bz oz, uz = ptr bz oz ∧ AtV v (j4 - 1) bz oz), (fun _ _ => True)]) [15, 17] [(d4.toList.map u16v), ((d4.setIfInBounds j4 d4[(j4 - 1)]!).toList.map u16v), (((d4.setIfInBounds j4 d4[(j4 - 1)]!).setIfInBounds (j4 - 1) d4[j4]!).toList.map u16v)] mixed (by kernel_rfl) (by kernel_rfl) (by kernel_rfl) (by kernel_rfl) hN54 hO55 (StL.get (StL.eq (StL.eq (StL.eq (StL.eq (StL.eq (StL.eq (StL.eq (StL.eq (StL.at (StL.eq (StL.eq (StL.eq (StL.at (StL.eq (StL.at (StL.cons (fun _ _ _ _ h => h) (StL.at (StL.cons (fun _ _ _ _ h => h) (StL.nil _)))))))))))))))))))) (ObRs.get (ObRs.cons ?_ (ObRs.cons ?_ (ObRs.cons ?_ (ObRs.cons ?_ (ObRs.cons ?_ (ObRs.cons ?_ (ObRs.cons ?_ (ObRs.cons ?_ (ObRs.cons ?_ (ObRs.cons ?_ (ObRs.cons ?_ (ObRs.cons ?_ (ObRs.cons ?_ (ObRs.cons ?_ (ObRs.cons ?_ (ObRs.pass rfl (ObRs.cons ?_ (ObRs.pass rfl (ObRs.nil)))))))))))))))))))) (ObWs.get (ObWs.cons ?_ (ObWs.cons ?_ (ObWs.nil)))) ?_
          ·
           intro aA wA cA hNA hRA hckA hOA hbsA hdpA
           have qA_0 := (hbsA 0 rfl).trans (sl_base hN54 rfl s54_0)
           clear hbsA hdpA
           refine op_move (ev_base hNA rfl qA_0) ?_
           exact obR_end rfl rfl (grown_refl _ _)
          ·
           intro aA wA cA hNA hRA hckA hOA hbsA hdpA
           have qA_10 := (hbsA 10 rfl).trans (sl_base hN54 rfl s54_10)
           clear hbsA hdpA
           refine op_move (ev_base hNA rfl qA_10) ?_
           exact obR_end rfl rfl (grown_refl _ _)
          ·
           intro aA wA cA hNA hRA hckA hOA hbsA hdpA
           have qA_0 := (hbsA 0 rfl).trans (sl_base hN54 rfl s54_0)
           clear hbsA hdpA
           refine op_move (ev_base hNA rfl qA_0) ?_
           exact obR_end rfl rfl (grown_refl _ _)
          ·
           intro aA wA cA hNA hRA hckA hOA hbsA hdpA
           have qA_10 := (hbsA 10 rfl).trans (sl_base hN54 rfl s54_10)
           clear hbsA hdpA
           refine op_move (ev_base hNA rfl qA_10) ?_
           exact obR_end rfl rfl (grown_refl _ _)
          ·
           intro aA wA cA hNA hRA hckA hOA hbsA hdpA
           have qA_120 : Sl aA 120 (Value.int .i64 ((j4 : Nat) : Int)) := hdpA 3 _ 120 (by kernel_rfl) rfl rfl
           clear hbsA hdpA
           refine op_sub (ev_base hNA rfl qA_120) rfl (sub64 (by omega)) ?_
           exact obR_end rfl rfl (grown_refl _ _)
          ·
           intro aA wA cA hNA hRA hckA hOA hbsA hdpA
           have qA_0 := (hbsA 0 rfl).trans (sl_base hN54 rfl s54_0)
           clear hbsA hdpA
           refine op_move (ev_base hNA rfl qA_0) ?_
           exact obR_end rfl rfl (grown_refl _ _)
          ·
           intro aA wA cA hNA hRA hckA hOA hbsA hdpA
           have qA_10 := (hbsA 10 rfl).trans (sl_base hN54 rfl s54_10)
           clear hbsA hdpA
           refine op_move (ev_base hNA rfl qA_10) ?_
           exact obR_end rfl rfl (grown_refl _ _)
          ·
           intro aA wA cA hNA hRA hckA hOA hbsA hdpA
           have qA_123 : Sl aA 123 (Value.int .i64 ((j4 : Nat) : Int)) := hdpA 6 _ 123 (by kernel_rfl) rfl rfl
           clear hbsA hdpA
           refine op_sub (ev_base hNA rfl qA_123) rfl (sub64 (by omega)) ?_
           exact obR_end rfl rfl (grown_refl _ _)
          ·
           intro aA wA cA hNA hRA hckA hOA hbsA hdpA
           have qA_122 : Sl aA 122 v := hdpA 5 _ 122 (by kernel_rfl) rfl rfl
           have qA_124 : Sl aA 124 (Value.int .i64 (((j4 : Nat) : Int) - 1)) := hdpA 7 _ 124 (by kernel_rfl) rfl rfl
           clear hbsA hdpA
           refine op_index_own (i := (j4 - 1)) slt45 (ev_base hNA rfl qA_122) hOA (ev_base hNA rfl qA_124) (by omega) (by omega) ?_
           intro b_ o_ _ hA_
           exact obR_end rfl ⟨b_, o_, rfl, by simpa using hA_⟩ (grown_refl _ _)
          ·
           intro aA wA cA hNA hRA hckA hOA hbsA hdpA
           obtain ⟨bA_125, oA_125, qA_125, hAA_125⟩ := hdpA 8 _ 125 (by kernel_rfl) rfl rfl
           clear hbsA hdpA
           obtain rfl : cA = 0 := Nat.le_zero.1 (hckA 0 15 rfl (by kernel_rfl))
           have hOA : Own wA base 46 1 v n (d4.toList.map u16v) := hOA
           refine op_load1 (v := (Value.int .u16 (d4[(j4 - 1)]!.toNat : Int))) one46 (ev_base hNA rfl qA_125) (by have := hOA.cellAt hAA_125 0 _ (el_at (i := (j4 - 1)) (by first | omega | (simp only [Array.size_setIfInBounds, swp_sz, siftDown_size]; omega))); simpa using this) ?_
           exact obR_end rfl rfl (grown_refl _ _)
          ·
           intro aA wA cA hNA hRA hckA hOA hbsA hdpA
           have qA_0 := (hbsA 0 rfl).trans (sl_base hN54 rfl s54_0)
           clear hbsA hdpA
           refine op_move (ev_base hNA rfl qA_0) ?_
           exact obR_end rfl rfl (grown_refl _ _)
          ·
           intro aA wA cA hNA hRA hckA hOA hbsA hdpA
           have qA_10 := (hbsA 10 rfl).trans (sl_base hN54 rfl s54_10)
           clear hbsA hdpA
           refine op_move (ev_base hNA rfl qA_10) ?_
           exact obR_end rfl rfl (grown_refl _ _)
          ·
           intro aA wA cA hNA hRA hckA hOA hbsA hdpA
           have qA_127 : Sl aA 127 v := hdpA 10 _ 127 (by kernel_rfl) rfl rfl
           have qA_128 : Sl aA 128 (Value.int .i64 ((j4 : Nat) : Int)) := hdpA 11 _ 128 (by kernel_rfl) rfl rfl
           clear hbsA hdpA
           refine op_index_own (i := j4) slt45 (ev_base hNA rfl qA_127) hOA (ev_base hNA rfl qA_128) (by omega) (by omega) ?_
           intro b_ o_ _ hA_
           exact obR_end rfl ⟨b_, o_, rfl, by simpa using hA_⟩ (grown_refl _ _)
          ·
           intro aA wA cA hNA hRA hckA hOA hbsA hdpA
           obtain ⟨bA_129, oA_129, qA_129, hAA_129⟩ := hdpA 12 _ 129 (by kernel_rfl) rfl rfl
           clear hbsA hdpA
           obtain rfl : cA = 0 := Nat.le_zero.1 (hckA 0 15 rfl (by kernel_rfl))
           have hOA : Own wA base 46 1 v n (d4.toList.map u16v) := hOA
           refine op_load1 (v := (Value.int .u16 (d4[j4]!.toNat : Int))) one46 (ev_base hNA rfl qA_129) (by have := hOA.cellAt hAA_129 0 _ (el_at (i := j4) (by first | omega | (simp only [Array.size_setIfInBounds, swp_sz, siftDown_size]; omega))); simpa using this) ?_
           exact obR_end rfl rfl (grown_refl _ _)
          ·
           intro aA wA cA hNA hRA hckA hOA hbsA hdpA
           have qA_117 : Sl aA 117 v := hdpA 0 _ 117 (by kernel_rfl) rfl rfl
           have qA_118 : Sl aA 118 (Value.int .i64 ((j4 : Nat) : Int)) := hdpA 1 _ 118 (by kernel_rfl) rfl rfl
           clear hbsA hdpA
           refine op_index_own (i := j4) slt45 (ev_base hNA rfl qA_117) hOA (ev_base hNA rfl qA_118) (by omega) (by omega) ?_
           intro b_ o_ _ hA_
           exact obR_end rfl ⟨b_, o_, rfl, by simpa using hA_⟩ (grown_refl _ _)
          ·
           intro aA wA cA hNA hRA hckA hOA hbsA hdpA
           have qA_119 : Sl aA 119 v := hdpA 2 _ 119 (by kernel_rfl) rfl rfl
           have qA_121 : Sl aA 121 (Value.int .i64 (((j4 : Nat) : Int) - 1)) := hdpA 4 _ 121 (by kernel_rfl) rfl rfl
           clear hbsA hdpA
           refine op_index_own (i := (j4 - 1)) slt45 (ev_base hNA rfl qA_119) hOA (ev_base hNA rfl qA_121) (by omega) (by omega) ?_
           intro b_ o_ _ hA_
           exact obR_end rfl ⟨b_, o_, rfl, by simpa using hA_⟩ (grown_refl _ _)
          ·
           intro o_ ho_; obtain rfl := Option.some.inj ho_; intro aA wA hNA hRA hbsA hdpA hOA
           obtain ⟨bA_131, oA_131, qA_131, hAA_131⟩ := hdpA 14 _ 131 (by kernel_rfl) rfl rfl
           have qA_126 : Sl aA 126 (Value.int .u16 (d4[(j4 - 1)]!.toNat : Int)) := hdpA 9 _ 126 (by kernel_rfl) rfl rfl
           clear hbsA hdpA
           have hOA : Own wA base 46 1 v n (d4.toList.map u16v) := hOA
           refine op_store_own (vs := [(Value.int .u16 (d4[(j4 - 1)]!.toNat : Int))]) size46 (ev_base hNA rfl qA_131) (ev_base hNA rfl qA_126) rfl rfl rfl hOA hAA_131 (by have := hOA.1; simp at this ⊢; omega) ?_
           intro w_ hO_ E_
           exact obW_end rfl (hO_.cast rfl (set_arr (by first | omega | (simp only [Array.size_setIfInBounds, swp_sz, siftDown_size]; omega)))) E_
          ·
           intro o_ ho_; obtain rfl := Option.some.inj ho_; intro aA wA hNA hRA hbsA hdpA hOA
           obtain ⟨bA_132, oA_132, qA_132, hAA_132⟩ := hdpA 16 _ 132 (by kernel_rfl) rfl rfl
           have qA_130 : Sl aA 130 (Value.int .u16 (d4[j4]!.toNat : Int)) := hdpA 13 _ 130 (by kernel_rfl) rfl rfl
           clear hbsA hdpA
           have hOA : Own wA base 46 1 v n ((d4.setIfInBounds j4 d4[(j4 - 1)]!).toList.map u16v) := hOA
           refine op_store_own (vs := [(Value.int .u16 (d4[j4]!.toNat : Int))]) size46 (ev_base hNA rfl qA_132) (ev_base hNA rfl qA_130) rfl rfl rfl hOA hAA_132 (by have := hOA.1; simp at this ⊢; omega) ?_
           intro w_ hO_ E_
           exact obW_end rfl (hO_.cast rfl (set_arr (by first | omega | (simp only [Array.size_setIfInBounds, swp_sz, siftDown_size]; omega)))) E_
          ·
           intro a69 w69 hN69 hd69 hbs69 hph69 hO69 E69
           have hd69 := hd69.trans hd54
           have s69_0 := (hbs69 0 rfl).trans (sl_base hN54 rfl s54_0)
           have s69_1 := (hbs69 1 rfl).trans (sl_base hN54 rfl s54_1)
           have s69_2 := (hbs69 2 rfl).trans (sl_base hN54 rfl s54_2)
           have s69_7 := (hbs69 7 rfl).trans (sl_base hN54 rfl s54_7)
           have s69_8 := (hbs69 8 rfl).trans (sl_base hN54 rfl s54_8)
           have s69_10 := (hbs69 10 rfl).trans (sl_base hN54 rfl s54_10)
           clear hbs69 hph69
           have hO69 : Own w69 base 46 1 v n (((d4.setIfInBounds j4 d4[(j4 - 1)]!).setIfInBounds (j4 - 1) d4[j4]!).toList.map u16v) := hO69
           have z_w69 := E69.size
           have hb := grow_stepX hb E69 rfl
           refine hK58 _ _ ?_
           refine one_reg ?_
           refine op_move (ev_base hN69 rfl s69_10) ?_
           refine op_add (ev_hit hN69 rfl) rfl (add64 (by omega)) ?_
           refine op_assign (ev_hit hN69 rfl) ?_
           refine reg_nil ?_
           -- round 14T 37F 41F 98T 103T 116F
           exact loop_next _ hN69 hd69 ⟨(j4 + 1), _, rfl, (sl_base hN69 rfl s69_0), (sl_base hN69 rfl s69_1), (sl_base hN69 rfl s69_2), (sl_base hN69 rfl s69_7), (sl_base hN69 rfl s69_8), (sl_hit hN69 rfl).trans (congrArg (Value.int .i64) (by omega)), (by first | assumption | (simp only [Array.size_setIfInBounds, swp_sz, siftDown_size]; assumption)), (by omega), (hup.trans (shiftUp_go (by omega) (not_f c116))), hb, (by omega), hO69⟩ (by omega)
        · -- 103F
         refine reg_nil ?_
         refine hK57 _ _ ?_
         refine wp_cond_false (ev_hit hN54 rfl) ?_
         refine wp_exit (then_exit (then_exit (blk_hit ?_)))
         refine hK9 _ _ ?_
         refine one_reg ?_
         refine op_move (ev_base hN54 rfl s54_8) ?_
         refine op_add (ev_hit hN54 rfl) rfl (add64 (by omega)) ?_
         refine op_assign (ev_hit hN54 rfl) ?_
         refine reg_nil ?_
         -- round 14T 37F 41F 98T 103F
         exact loop_next _ hN54 hd54 ⟨(s + 1), i2, _, rfl, (sl_base hN54 rfl s54_0), (sl_base hN54 rfl s54_1), (sl_base hN54 rfl s54_2), (sl_hit hN54 rfl).trans (congrArg (Value.int .i64) (by omega)), (sl_base hN54 rfl s54_7).trans (congrArg (Value.int .i64) (by omega)), (by first | assumption | (simp only [Array.size_setIfInBounds, swp_sz, siftDown_size]; assumption)), (by omega), (hs.trans (pi_go (by omega) hq2 (by omega) (by omega) hdd ((fixUp_t (by omega)).trans (hup.trans (shiftUp_stop (.inl (by omega))))).symm)), hb, (by omega), hO55⟩ (by omega)
       · -- 98F
        refine reg_nil ?_
        refine hK52 _ _ ?_
        refine wp_cond_false (ev_hit hN31 rfl) ?_
        refine wp_skip ?_
        refine hK9 _ _ ?_
        refine one_reg ?_
        refine op_move (ev_base hN31 rfl s31_8) ?_
        refine op_add (ev_hit hN31 rfl) rfl (add64 (by omega)) ?_
        refine op_assign (ev_hit hN31 rfl) ?_
        refine reg_nil ?_
        -- round 14T 37F 41F 98F
        exact loop_next _ hN31 hd31 ⟨(s + 1), i2, _, rfl, (sl_base hN31 rfl s31_0), (sl_base hN31 rfl s31_1), (sl_base hN31 rfl s31_2), (sl_hit hN31 rfl).trans (congrArg (Value.int .i64) (by omega)), (sl_base hN31 rfl s31_7).trans (congrArg (Value.int .i64) (by omega)), (by first | assumption | (simp only [Array.size_setIfInBounds, swp_sz, siftDown_size]; assumption)), (by omega), (hs.trans (pi_go (by omega) hq2 (by omega) (by omega) hdd (fixUp_f (by omega)).symm)), hb, (by omega), hO32⟩ (by omega)
 · -- 14F
  refine reg_nil ?_
  refine hK8 _ _ ?_
  refine wp_cond_false (ev_hit hN5 rfl) ?_
  refine wp_exit (then_exit (then_exit (blk_hit ?_)))
  refine hK3 _ _ ?_
  refine seq_any fun K70 hK70 => ?_
  refine one_reg ?_
  refine op_assign rfl ?_
  refine reg_nil ?_
  refine hK70 _ _ ?_
  refine wp_ret ?_
  refine ret1 rfl hd5 (ev_hit hN5 rfl) ⟨_, rfl, ?_⟩
  -- path 14F
  have hq : partialInsertionSort ltT d a b = (dk, false) := hs.trans (by rw [show 5 - s = 0 by omega]; rfl)
  exact ⟨hb, by rw [hq]; rfl, hO6.cast rfl (by rw [hq])⟩

end Go.Proofs.Ytmhdbphpmgjpcaa

/- Walks, written by a program: what each function of the translation hands back. -/
namespace Go.Proofs.Ytmhdbphpmgjpcaa
open Go.Gx Go.RowKit
attribute [local irreducible] wpList wpStill Code.wp Calls
open Go.Sort (insertionSort insOuter insInner swp siftDown heapSort heapBuild heapPop scanUp scanDown partition partLoop partitionEqual partEqLoop scanSorted partialIns bitsLen partialInsertionSort shiftDown shiftUp SortedIn reverseRange reverseLoop fixDown fixUp)
set_option maxHeartbeats 2000000 in
theorem bpW_ret (d : Ar) (v : Value) (n base : Nat) (a b : Nat) (w : World) (hd : d.size = n) (hn : n ≤ 4000000000000000000) (O : Own w base 46 1 v n (d.toList.map u16v)) (hab : a ≤ b) (hbn : b ≤ n) : Ret Try.prog 155 #[v, (Value.int .i64 ((a : Nat) : Int)), (Value.int .i64 ((b : Nat) : Int))] w (fun v' w' => w.grownBy w' v.ownBlock ∧ v' = .tuple #[] ∧ ∃ d', PI a b d d' ∧ Own w' base 46 1 v n (d'.toList.map u16v)) := by
 have hb := grown_refl w v.ownBlock
 refine enter (N := 65) Try.func155 rfl rfl (by simp) fun a0 hN hd hA => ?_
 have s0 : a0.tmps.getD 0 undef = v := hA 0 (by simp)
 have s1 : a0.tmps.getD 1 undef = (Value.int .i64 ((a : Nat) : Int)) := hA 1 (by simp)
 have s2 : a0.tmps.getD 2 undef = (Value.int .i64 ((b : Nat) : Int)) := hA 2 (by simp)
 clear hA
 refine seq_any fun K1 hK1 => ?_
 refine one_reg ?_
 refine op_move (ev_base hN rfl s2) ?_
 refine op_move (ev_base hN rfl s1) ?_
 refine op_sub (r := (((b - a) : Nat) : Int)) (ev_hit hN rfl) (ev_hit hN rfl) (by rw [IntKind.wrap_i64]; omega) ?_
 refine op_assign (ev_hit hN rfl) ?_
 refine reg_nil ?_
 refine hK1 _ _ ?_
 refine seq_any fun K2 hK2 => ?_
 refine one_reg ?_
 refine op_move (ev_hit hN rfl) ?_
 refine op_geq (ev_hit hN rfl) rfl (fun c15 => ?_) (fun c15 => ?_)
 · -- 15T
  refine reg_nil ?_
  refine hK2 _ _ ?_
  refine wp_cond_true (ev_hit hN rfl) ?_
  refine seq_any fun K3 hK3 => ?_
  refine one_reg ?_
  refine op_move (ev_hit hN rfl) ?_
  refine op_conv (r := (((b - a) : Nat) : Int)) (ev_hit hN rfl) us3 Try.underlying244 (wrap_u64 (by omega)) ?_
  refine op_alloc (cs := [(Value.int .u64 0)]) zero244 rfl ?_
  intro w4 b5 lo_b5 hi_b5 hB7 E6
  have z_w4 := E6.size
  have O := O.keep0 E6
  have hb := grow_step0 hb E6
  have hB7_old := hB7
  refine op_store (vs := [(Value.int .u64 (((b - a) : Nat) : Int))]) (cs' := [(Value.int .u64 (((b - a) : Nat) : Int))]) size244 (ev_hit hN rfl) (ev_hit hN rfl) rfl rfl rfl hB7 (Nat.le_of_ble_eq_true rfl) rfl ?_
  intro w10 hB7 E11
  have z_w10 := E11.size
  have O := O.keepX hB7_old E11 (by decide)
  have hb := grow_step1 hb E11 (by omega)
  refine reg_nil ?_
  refine hK3 _ _ ?_
  refine seq_any fun K12 hK12 => ?_
  refine one_reg ?_
  refine op_move (ev_hit hN rfl) ?_
  refine op_fn (vs := [(Value.int .i64 (((b - a) : Nat) : Int))]) ok174 ⟨(ev_hit hN rfl), trivial⟩ (npW_ret (b - a) _ (by omega)) ?_
  rintro _ w14 ⟨E15, M13, rfl, hM13, hM213⟩
  have E15 := grown_of_below E15
  have z_w14 := E15.size
  have O := O.keep0 E15
  have hB7 := hB7.keep0 E15
  have hb := grow_step0 hb E15
  refine op_assign (ev_hit hN rfl) ?_
  refine reg_nil ?_
  refine hK12 _ _ ?_
  refine seq_any fun K16 hK16 => ?_
  refine one_reg ?_
  refine op_move (ev_base hN rfl s1) ?_
  refine op_move (ev_hit hN rfl) ?_
  refine op_quo (r := ((((b - a) / 4) : Nat) : Int)) (ev_hit hN rfl) rfl (by decide) (by rw [IntKind.wrap_i64, Int.tdiv_eq_ediv_of_nonneg (by omega)]; omega) ?_
  refine op_mul (r := ((((b - a) / 4 * 2) : Nat) : Int)) (ev_hit hN rfl) rfl (by rw [IntKind.wrap_i64]; omega) ?_
  refine op_add (ev_hit hN rfl) (ev_hit hN rfl) (add64 (by omega)) ?_
  refine op_sub (r := (((a + ((b - a) / 4 * 2) - 1) : Nat) : Int)) (ev_hit hN rfl) rfl (by rw [IntKind.wrap_i64]; omega) ?_
  refine op_assign (ev_hit hN rfl) ?_
  refine reg_nil ?_
  refine hK16 _ _ ?_
  refine wp_block ?_
  refine loop_m (fun mz_ az_ w' => ∃ (ix xs : Nat) (dk : Ar), mz_ = (a + b + 10 - ix) ∧ (az_.tmps.getD 0 undef = v) ∧ (az_.tmps.getD 1 undef = (Value.int .i64 ((a : Nat) : Int))) ∧ (az_.tmps.getD 6 undef = (Value.int .i64 (((b - a) : Nat) : Int))) ∧ (az_.tmps.getD 7 undef = (ptr b5 0)) ∧ (az_.tmps.getD 8 undef = (Value.int .u64 ((M13 : Nat) : Int))) ∧ (az_.tmps.getD 9 undef = (Value.int .i64 ((ix : Nat) : Int))) ∧ (dk.size = n) ∧ (a + ((b - a) / 4 * 2) - 1 ≤ ix ∧ ix ≤ a + ((b - a) / 4 * 2) + 2) ∧ (PI a b d dk) ∧ (w.grownBy w' v.ownBlock) ∧ (w14.heap.size ≤ w'.heap.size) ∧ (Bx w' b5 244 [(Value.int .u64 ((xs : Nat) : Int))]) ∧ (Own w' base 46 1 v n (dk.toList.map u16v))) _ hN hd ⟨(a + ((b - a) / 4 * 2) - 1), (b - a), _, rfl, (sl_base hN rfl s0), (sl_base hN rfl s1), (sl_hit hN rfl), (sl_hit hN rfl), (sl_hit hN rfl), (sl_hit hN rfl).trans (congrArg (Value.int .i64) (by omega)), (by first | assumption | (simp only [Array.size_setIfInBounds, swp_sz, siftDown_size]; assumption)), (by omega), (PI.rfl' _ _ _), hb, (Nat.le_refl _), hB7, O⟩ ?_
  rintro _ a17 w17 hN17 hd17 ⟨ix, xs, dk, rfl, s17_0, s17_1, s17_6, s17_7, s17_8, s17_9, hdk, hr1, hpi, hb, zl_w17, hxs, hO18⟩
  have z_w17 := hb.size
  refine seq_any fun K19 hK19 => ?_
  refine seq_any fun K20 hK20 => ?_
  refine one_reg ?_
  refine op_move (ev_base hN17 rfl s17_9) ?_
  refine op_move (ev_base hN17 rfl s17_1) ?_
  refine op_move (ev_base hN17 rfl s17_6) ?_
  refine op_quo (r := ((((b - a) / 4) : Nat) : Int)) (ev_hit hN17 rfl) rfl (by decide) (by rw [IntKind.wrap_i64, Int.tdiv_eq_ediv_of_nonneg (by omega)]; omega) ?_
  refine op_mul (r := ((((b - a) / 4 * 2) : Nat) : Int)) (ev_hit hN17 rfl) rfl (by rw [IntKind.wrap_i64]; omega) ?_
  refine op_add (ev_hit hN17 rfl) (ev_hit hN17 rfl) (add64 (by omega)) ?_
  refine op_add (ev_hit hN17 rfl) rfl (add64 (by omega)) ?_
  refine op_leq (ev_hit hN17 rfl) (ev_hit hN17 rfl) (fun c33 => ?_) (fun c33 => ?_)
  · -- 33T
   refine reg_nil ?_
   refine hK20 _ _ ?_
   refine wp_cond_true (ev_hit hN17 rfl) ?_
   refine wp_skip ?_
   refine hK19 _ _ ?_
   refine seq_any fun K21 hK21 => ?_
   refine wp_block ?_
   refine seq_any fun K22 hK22 => ?_
   refine one_reg ?_
   refine op_fn (vs := [(ptr b5 0)]) ok175 ⟨(ev_base hN17 rfl s17_7), trivial⟩ (xnextW_ret b5 _ _ hxs) ?_
   rintro _ w24 ⟨E25, rx23, rfl, hr23, hs23⟩
   have hxs_old := hxs
   have z_w24 := E25.size
   have hO18 := hO18.keepX hxs_old E25 (by decide)
   have hb := grow_step1 hb E25 (by omega)
   refine op_move (ev_base hN17 rfl s17_8) ?_
   refine op_sub (r := (((M13 - 1) : Nat) : Int)) (ev_hit hN17 rfl) rfl (by rw [show (M13 : Int) - 1 = ((M13 - 1 : Nat) : Int) by omega]; exact wrap_u64 (by omega)) ?_
   refine op_and (r := (((rx23 &&& (M13 - 1)) : Nat) : Int)) (ev_hit hN17 rfl) (ev_hit hN17 rfl) (and_64 (by omega) (by omega)) ?_
   have hand : (rx23 &&& (M13 - 1)) ≤ M13 - 1 := Nat.and_le_right
   refine op_conv (r := (((rx23 &&& (M13 - 1)) : Nat) : Int)) (ev_hit hN17 rfl) us184 Try.underlying3 (by rw [IntKind.wrap_i64]; omega) ?_
   refine op_assign (ev_hit hN17 rfl) ?_
   refine reg_nil ?_
   refine hK22 _ _ ?_
   refine seq_join1 (N := 65) (fun az_ w' => ∃ (ot : Nat), (az_.tmps.getD 0 undef = v) ∧ (az_.tmps.getD 1 undef = (Value.int .i64 ((a : Nat) : Int))) ∧ (az_.tmps.getD 6 undef = (Value.int .i64 (((b - a) : Nat) : Int))) ∧ (az_.tmps.getD 7 undef = (ptr b5 0)) ∧ (az_.tmps.getD 8 undef = (Value.int .u64 ((M13 : Nat) : Int))) ∧ (az_.tmps.getD 9 undef = (Value.int .i64 ((ix : Nat) : Int))) ∧ (az_.tmps.getD 10 undef = (Value.int .i64 ((ot : Nat) : Int))) ∧ (ot < b - a) ∧ (w.grownBy w' v.ownBlock) ∧ (w24.heap.size ≤ w'.heap.size) ∧ (Own w' base 46 1 v n (dk.toList.map u16v)) ∧ (Bx w' b5 244 [(Value.int .u64 ((rx23 : Nat) : Int))])) (fun hJ26 => ?_) ?_
   ·
    refine seq_any fun K27 hK27 => ?_
    refine seq_any fun K28 hK28 => ?_
    refine one_reg ?_
    refine op_move (ev_hit hN17 rfl) ?_
    refine op_move (ev_base hN17 rfl s17_6) ?_
    refine op_geq (ev_hit hN17 rfl) (ev_hit hN17 rfl) (fun c43 => ?_) (fun c43 => ?_)
    · -- 43T
     refine reg_nil ?_
     refine hK28 _ _ ?_
     refine wp_cond_true (ev_hit hN17 rfl) ?_
     refine one_reg ?_
     refine op_move (ev_hit hN17 rfl) ?_
     refine op_move (ev_base hN17 rfl s17_6) ?_
     refine op_sub (ev_hit hN17 rfl) (ev_hit hN17 rfl) (sub64 (by omega)) ?_
     refine op_assign (ev_hit hN17 rfl) ?_
     refine reg_nil ?_
     refine hK27 _ _ ?_
     exact hJ26 _ _ _ hN17 hd17 ⟨((rx23 &&& (M13 - 1)) - (b - a)), (sl_base hN17 rfl s17_0), (sl_base hN17 rfl s17_1), (sl_base hN17 rfl s17_6), (sl_base hN17 rfl s17_7), (sl_base hN17 rfl s17_8), (sl_base hN17 rfl s17_9), (sl_hit hN17 rfl).trans (congrArg (Value.int .i64) (by omega)), (by omega), hb, (by omega), hO18, hs23⟩
    · -- 43F
     refine reg_nil ?_
     refine hK28 _ _ ?_
     refine wp_cond_false (ev_hit hN17 rfl) ?_
     refine wp_skip ?_
     refine hK27 _ _ ?_
     exact hJ26 _ _ _ hN17 hd17 ⟨(rx23 &&& (M13 - 1)), (sl_base hN17 rfl s17_0), (sl_base hN17 rfl s17_1), (sl_base hN17 rfl s17_6), (sl_base hN17 rfl s17_7), (sl_base hN17 rfl s17_8), (sl_base hN17 rfl s17_9), (sl_hit hN17 rfl).trans (congrArg (Value.int .i64) (by omega)), (by omega), hb, (by omega), hO18, hs23⟩
   ·
    rintro a26 w26 hN26 hd26 ⟨ot, s26_0, s26_1, s26_6, s26_7, s26_8, s26_9, s26_10, hot, hb, zl_w26, hO18, hs23⟩
    have z_w26 := hb.size
    refine reg_mid (e := 46) (sz := 1) (base := base) (n := n) (v := v) (Φ := phiL [(fun uz _ => uz = v), (fun uz _ => uz = (Value.int .i64 ((ix : Nat) : Int))), (fun uz _ => uz = v), (fun uz _ => uz = (Value.int .i64 ((a : Nat) : Int))), (fun uz _ => uz = (Value.int .i64 ((ot : Nat) : Int))), (fun uz _ => uz = (Value.int .i64 (((a : Nat) : Int) + ((ot : Nat) : Int)))), (fun uz _ => uz = v), (fun uz _ => uz = (Value.int .i64 ((a : Nat) : Int))), (fun uz _ => uz = (Value.int .i64 ((ot : Nat) : Int))), (fun uz _ => uz = (Value.int .i64 (((a : Nat) : Int) + ((ot : Nat) : Int)))), (fun uz _ => ∃ bz oz, uz = ptr bz oz ∧ AtV v (a + ot) bz oz), (fun uz _ => uz = (Value.int .u16 (dk[(a + ot)]!.toNat : Int))), (fun uz _ => uz = v), (fun uz _ => uz = (Value.int .i64 ((ix : Nat) : Int))), (fun uz _ => ∃ bz oz, uz = ptr bz oz ∧ AtV v ix bz oz), (fun uz _ => uz = (Value.int .u16 (dk[ix]!.toNat : Int))), (fun uz _ => ∃ bz oz, uz = ptr bz oz ∧ AtV v ix bz oz), (fun _ _ => True), (fun uz _ => ∃ bz oz, uz = ptr bz oz ∧ AtV v (a + ot) bz oz), (fun _ _ => True)]) [17, 19] [(dk.toList.map u16v), ((dk.setIfInBounds ix dk[(a + ot)]!).toList.map u16v), (((dk.setIfInBounds ix dk[(a + ot)]!).setIfInBounds (a + ot) dk[ix]!).toList.map u16v)] mixed (by kernel_rfl) (by kernel_rfl) (by kernel_rfl) (by kernel_rfl) hN26 hO18 (StL.get (StL.eq (StL.eq (StL.eq (StL.eq (StL.eq (StL.eq (StL.eq (StL.eq (StL.eq (StL.eq (StL.at (StL.eq (StL.eq (StL.eq (StL.at (StL.eq (StL.at (StL.cons (fun _ _ _ _ h => h) (StL.at (StL.cons (fun _ _ _ _ h => h) (StL.nil _)))))))))))))))))))))) (ObRs.get (ObRs.cons ?_ (ObRs.cons ?_ (ObRs.cons ?_ (ObRs.cons ?_ (ObRs.cons ?_ (ObRs.cons ?_ (ObRs.cons ?_ (ObRs.cons ?_ (ObRs.cons ?_ (ObRs.cons ?_ (ObRs.cons ?_ (ObRs.cons ?_ (ObRs.cons ?_ (ObRs.cons ?_ (ObRs.cons ?_ (ObRs.cons ?_ (ObRs.cons ?_ (ObRs.pass rfl (ObRs.cons ?_ (ObRs.pass rfl (ObRs.nil)))))))))))))))))))))) (ObWs.get (ObWs.cons ?_ (ObWs.cons ?_ (ObWs.nil)))) ?_
    ·
     intro aA wA cA hNA hRA hckA hOA hbsA hdpA
     have qA_0 := (hbsA 0 rfl).trans (sl_base hN26 rfl s26_0)
     clear hbsA hdpA
     refine op_move (ev_base hNA rfl qA_0) ?_
     exact obR_end rfl rfl (grown_refl _ _)
    ·
     intro aA wA cA hNA hRA hckA hOA hbsA hdpA
     have qA_9 := (hbsA 9 rfl).trans (sl_base hN26 rfl s26_9)
     clear hbsA hdpA
     refine op_move (ev_base hNA rfl qA_9) ?_
     exact obR_end rfl rfl (grown_refl _ _)
    ·
     intro aA wA cA hNA hRA hckA hOA hbsA hdpA
     have qA_0 := (hbsA 0 rfl).trans (sl_base hN26 rfl s26_0)
     clear hbsA hdpA
     refine op_move (ev_base hNA rfl qA_0) ?_
     exact obR_end rfl rfl (grown_refl _ _)
    ·
     intro aA wA cA hNA hRA hckA hOA hbsA hdpA
     have qA_1 := (hbsA 1 rfl).trans (sl_base hN26 rfl s26_1)
     clear hbsA hdpA
     refine op_move (ev_base hNA rfl qA_1) ?_
     exact obR_end rfl rfl (grown_refl _ _)
    ·
     intro aA wA cA hNA hRA hckA hOA hbsA hdpA
     have qA_10 := (hbsA 10 rfl).trans (sl_base hN26 rfl s26_10)
     clear hbsA hdpA
     refine op_move (ev_base hNA rfl qA_10) ?_
     exact obR_end rfl rfl (grown_refl _ _)
    ·
     intro aA wA cA hNA hRA hckA hOA hbsA hdpA
     have qA_50 : Sl aA 50 (Value.int .i64 ((a : Nat) : Int)) := hdpA 3 _ 50 (by kernel_rfl) rfl rfl
     have qA_51 : Sl aA 51 (Value.int .i64 ((ot : Nat) : Int)) := hdpA 4 _ 51 (by kernel_rfl) rfl rfl
     clear hbsA hdpA
     refine op_add (ev_base hNA rfl qA_50) (ev_base hNA rfl qA_51) (add64 (by omega)) ?_
     exact obR_end rfl rfl (grown_refl _ _)
    ·
     intro aA wA cA hNA hRA hckA hOA hbsA hdpA
     have qA_0 := (hbsA 0 rfl).trans (sl_base hN26 rfl s26_0)
     clear hbsA hdpA
     refine op_move (ev_base hNA rfl qA_0) ?_
     exact obR_end rfl rfl (grown_refl _ _)
    ·
     intro aA wA cA hNA hRA hckA hOA hbsA hdpA
     have qA_1 := (hbsA 1 rfl).trans (sl_base hN26 rfl s26_1)
     clear hbsA hdpA
     refine op_move (ev_base hNA rfl qA_1) ?_
     exact obR_end rfl rfl (grown_refl _ _)
    ·
     intro aA wA cA hNA hRA hckA hOA hbsA hdpA
     have qA_10 := (hbsA 10 rfl).trans (sl_base hN26 rfl s26_10)
     clear hbsA hdpA
     refine op_move (ev_base hNA rfl qA_10) ?_
     exact obR_end rfl rfl (grown_refl _ _)
    ·
     intro aA wA cA hNA hRA hckA hOA hbsA hdpA
     have qA_54 : Sl aA 54 (Value.int .i64 ((a : Nat) : Int)) := hdpA 7 _ 54 (by kernel_rfl) rfl rfl
     have qA_55 : Sl aA 55 (Value.int .i64 ((ot : Nat) : Int)) := hdpA 8 _ 55 (by kernel_rfl) rfl rfl
     clear hbsA hdpA
     refine op_add (ev_base hNA rfl qA_54) (ev_base hNA rfl qA_55) (add64 (by omega)) ?_
     exact obR_end rfl rfl (grown_refl _ _)
    ·
     intro aA wA cA hNA hRA hckA hOA hbsA hdpA
     have qA_53 : Sl aA 53 v := hdpA 6 _ 53 (by kernel_rfl) rfl rfl
     have qA_56 : Sl aA 56 (Value.int .i64 (((a : Nat) : Int) + ((ot : Nat) : Int))) := hdpA 9 _ 56 (by kernel_rfl) rfl rfl
     clear hbsA hdpA
     refine op_index_own (i := (a + ot)) slt45 (ev_base hNA rfl qA_53) hOA (ev_base hNA rfl qA_56) (by omega) (by omega) ?_
     intro b_ o_ _ hA_
     exact obR_end rfl ⟨b_, o_, rfl, by simpa using hA_⟩ (grown_refl _ _)
    ·
     intro aA wA cA hNA hRA hckA hOA hbsA hdpA
     obtain ⟨bA_57, oA_57, qA_57, hAA_57⟩ := hdpA 10 _ 57 (by kernel_rfl) rfl rfl
     clear hbsA hdpA
     obtain rfl : cA = 0 := Nat.le_zero.1 (hckA 0 17 rfl (by kernel_rfl))
     have hOA : Own wA base 46 1 v n (dk.toList.map u16v) := hOA
     refine op_load1 (v := (Value.int .u16 (dk[(a + ot)]!.toNat : Int))) one46 (ev_base hNA rfl qA_57) (by have := hOA.cellAt hAA_57 0 _ (el_at (i := (a + ot)) (by first | omega | (simp only [Array.size_setIfInBounds, swp_sz, siftDown_size]; omega))); simpa using this) ?_
     exact obR_end rfl rfl (grown_refl _ _)
    ·
     intro aA wA cA hNA hRA hckA hOA hbsA hdpA
     have qA_0 := (hbsA 0 rfl).trans (sl_base hN26 rfl s26_0)
     clear hbsA hdpA
     refine op_move (ev_base hNA rfl qA_0) ?_
     exact obR_end rfl rfl (grown_refl _ _)
    ·
     intro aA wA cA hNA hRA hckA hOA hbsA hdpA
     have qA_9 := (hbsA 9 rfl).trans (sl_base hN26 rfl s26_9)
     clear hbsA hdpA
     refine op_move (ev_base hNA rfl qA_9) ?_
     exact obR_end rfl rfl (grown_refl _ _)
    ·
     intro aA wA cA hNA hRA hckA hOA hbsA hdpA
     have qA_59 : Sl aA 59 v := hdpA 12 _ 59 (by kernel_rfl) rfl rfl
     have qA_60 : Sl aA 60 (Value.int .i64 ((ix : Nat) : Int)) := hdpA 13 _ 60 (by kernel_rfl) rfl rfl
     clear hbsA hdpA
     refine op_index_own (i := ix) slt45 (ev_base hNA rfl qA_59) hOA (ev_base hNA rfl qA_60) (by omega) (by omega) ?_
     intro b_ o_ _ hA_
     exact obR_end rfl ⟨b_, o_, rfl, by simpa using hA_⟩ (grown_refl _ _)
    ·
     intro aA wA cA hNA hRA hckA hOA hbsA hdpA
     obtain ⟨bA_61, oA_61, qA_61, hAA_61⟩ := hdpA 14 _ 61 (by kernel_rfl) rfl rfl
     clear hbsA hdpA
     obtain rfl : cA = 0 := Nat.le_zero.1 (hckA 0 17 rfl (by kernel_rfl))
     have hOA : Own wA base 46 1 v n (dk.toList.map u16v) := hOA
     refine op_load1 (v := (Value.int .u16 (dk[ix]!.toNat : Int))) one46 (ev_base hNA rfl qA_61) (by have := hOA.cellAt hAA_61 0 _ (el_at (i := ix) (by first | omega | (simp only [Array.size_setIfInBounds, swp_sz, siftDown_size]; omega))); simpa using this) ?_
     exact obR_end rfl rfl (grown_refl _ _)
    ·
     intro aA wA cA hNA hRA hckA hOA hbsA hdpA
     have qA_47 : Sl aA 47 v := hdpA 0 _ 47 (by kernel_rfl) rfl rfl
     have qA_48 : Sl aA 48 (Value.int .i64 ((ix : Nat) : Int)) := hdpA 1 _ 48 (by kernel_rfl) rfl rfl
     clear hbsA hdpA
     refine op_index_own (i := ix) slt45 (ev_base hNA rfl qA_47) hOA (ev_base hNA rfl qA_48) (by omega) (by omega) ?_
     intro b_ o_ _ hA_
     exact obR_end rfl ⟨b_, o_, rfl, by simpa using hA_⟩ (grown_refl _ _)
    ·
     intro aA wA cA hNA hRA hckA hOA hbsA hdpA
     have qA_49 : Sl aA 49 v := hdpA 2 _ 49 (by kernel_rfl) rfl rfl
     have qA_52 : Sl aA 52 (Value.int .i64 (((a : Nat) : Int) + ((ot : Nat) : Int))) := hdpA 5 _ 52 (by kernel_rfl) rfl rfl
     clear hbsA hdpA
     refine op_index_own (i := (a + ot)) slt45 (ev_base hNA rfl qA_49) hOA (ev_base hNA rfl qA_52) (by omega) (by omega) ?_
     intro b_ o_ _ hA_
     exact obR_end rfl ⟨b_, o_, rfl, by simpa using hA_⟩ (grown_refl _ _)
    ·
     intro o_ ho_; obtain rfl := Option.some.inj ho_; intro aA wA hNA hRA hbsA hdpA hOA
     obtain ⟨bA_63, oA_63, qA_63, hAA_63⟩ := hdpA 16 _ 63 (by kernel_rfl) rfl rfl
     have qA_58 : Sl aA 58 (Value.int .u16 (dk[(a + ot)]!.toNat : Int)) := hdpA 11 _ 58 (by kernel_rfl) rfl rfl
     clear hbsA hdpA
     have hOA : Own wA base 46 1 v n (dk.toList.map u16v) := hOA
     refine op_store_own (vs := [(Value.int .u16 (dk[(a + ot)]!.toNat : Int))]) size46 (ev_base hNA rfl qA_63) (ev_base hNA rfl qA_58) rfl rfl rfl hOA hAA_63 (by have := hOA.1; simp at this ⊢; omega) ?_
     intro w_ hO_ E_
     exact obW_end rfl (hO_.cast rfl (set_arr (by first | omega | (simp only [Array.size_setIfInBounds, swp_sz, siftDown_size]; omega)))) E_
    ·
     intro o_ ho_; obtain rfl := Option.some.inj ho_; intro aA wA hNA hRA hbsA hdpA hOA
     obtain ⟨bA_64, oA_64, qA_64, hAA_64⟩ := hdpA 18 _ 64 (by kernel_rfl) rfl rfl
     have qA_62 : Sl aA 62 (Value.int .u16 (dk[ix]!.toNat : Int)) := hdpA 15 _ 62 (by kernel_rfl) rfl rfl
     clear hbsA hdpA
     have hOA : Own wA base 46 1 v n ((dk.setIfInBounds ix dk[(a + ot)]!).toList.map u16v) := hOA
     refine op_store_own (vs := [(Value.int .u16 (dk[ix]!.toNat : Int))]) size46 (ev_base hNA rfl qA_64) (ev_base hNA rfl qA_62) rfl rfl rfl hOA hAA_64 (by have := hOA.1; simp at this ⊢; omega) ?_
     intro w_ hO_ E_
     exact obW_end rfl (hO_.cast rfl (set_arr (by first | omega | (simp only [Array.size_setIfInBounds, swp_sz, siftDown_size]; omega)))) E_
    ·
     intro a29 w29 hN29 hd29 hbs29 hph29 hO29 E29
     have hd29 := hd29.trans hd26
     have s29_0 := (hbs29 0 rfl).trans (sl_base hN26 rfl s26_0)
     have s29_1 := (hbs29 1 rfl).trans (sl_base hN26 rfl s26_1)
     have s29_6 := (hbs29 6 rfl).trans (sl_base hN26 rfl s26_6)
     have s29_7 := (hbs29 7 rfl).trans (sl_base hN26 rfl s26_7)
     have s29_8 := (hbs29 8 rfl).trans (sl_base hN26 rfl s26_8)
     have s29_9 := (hbs29 9 rfl).trans (sl_base hN26 rfl s26_9)
     clear hbs29 hph29
     have hO29 : Own w29 base 46 1 v n (((dk.setIfInBounds ix dk[(a + ot)]!).setIfInBounds (a + ot) dk[ix]!).toList.map u16v) := hO29
     have z_w29 := E29.size
     have hs23 := hs23.keepO hO18 E29 (by decide)
     have hb := grow_stepX hb E29 rfl
     refine hK21 _ _ ?_
     refine one_reg ?_
     refine op_move (ev_base hN29 rfl s29_9) ?_
     refine op_add (ev_hit hN29 rfl) rfl (add64 (by omega)) ?_
     refine op_assign (ev_hit hN29 rfl) ?_
     refine reg_nil ?_
     -- round 15T 33T
     exact loop_next _ hN29 hd29 ⟨(ix + 1), rx23, _, rfl, (sl_base hN29 rfl s29_0), (sl_base hN29 rfl s29_1), (sl_base hN29 rfl s29_6), (sl_base hN29 rfl s29_7), (sl_base hN29 rfl s29_8), (sl_hit hN29 rfl).trans (congrArg (Value.int .i64) (by omega)), (by first | assumption | (simp only [Array.size_setIfInBounds, swp_sz, siftDown_size]; assumption)), (by omega), (hpi.tr (PI.swp (by omega) (by omega) (by omega) (by omega) (by first | omega | (simp only [Array.size_setIfInBounds, swp_sz]; omega)))), hb, (by omega), hs23, hO29⟩ (by omega)
  · -- 33F
   refine reg_nil ?_
   refine hK20 _ _ ?_
   refine wp_cond_false (ev_hit hN17 rfl) ?_
   refine wp_exit (then_exit (then_exit (blk_hit ?_)))
   refine end_ret ?_
   refine ret0 rfl hd17  ⟨_, rfl, ?_⟩
   -- path 15T 33F
   exact ⟨hb, rfl, _, hpi, hO18⟩
 · -- 15F
  refine reg_nil ?_
  refine hK2 _ _ ?_
  refine wp_cond_false (ev_hit hN rfl) ?_
  refine wp_skip ?_
  refine end_ret ?_
  refine ret0 rfl hd  ⟨_, rfl, ?_⟩
  -- path 15F
  exact ⟨hb, rfl, _, PI.rfl' _ _ _, O⟩

end Go.Proofs.Ytmhdbphpmgjpcaa

/- Walks, written by a program: what each function of the translation hands back. -/
namespace Go.Proofs.Ytmhdbphpmgjpcaa
open Go.Gx Go.RowKit
attribute [local irreducible] wpList wpStill Code.wp Calls
open Go.Sort (insertionSort insOuter insInner swp siftDown heapSort heapBuild heapPop scanUp scanDown partition partLoop partitionEqual partEqLoop scanSorted partialIns bitsLen partialInsertionSort shiftDown shiftUp SortedIn reverseRange reverseLoop fixDown fixUp)
def PdqIH (z : Nat) (v : Value) (n base : Nat) : Prop := ∀ (d : Ar) (a b lim : Nat) (w : World), d.size = n → a ≤ b → b ≤ n → lim ≤ 100 → b - a < z → Go.Sort.Below ltT a b d → Own w base 46 1 v n (d.toList.map u16v) → Ret Try.prog 147 #[v, .int .i64 (a : Int), .int .i64 (b : Int), .int .i64 (lim : Int)] w (fun v' w' => w.grownBy w' v.ownBlock ∧ v' = .tuple #[] ∧ ∃ d', PI a b d d' ∧ SortedIn ltT a b d' ∧ Own w' base 46 1 v n (d'.toList.map u16v))

set_option maxHeartbeats 4000000 in
theorem pdqW_step (z : Nat) (v : Value) (n base : Nat) (hn : n ≤ 4000000000000000000) (ih : PdqIH z v n base) (d : Ar) (a b lim : Nat) (w : World) (hd : d.size = n) (hab : a ≤ b) (hbn : b ≤ n) (hlim : lim ≤ 100) (hz : b - a = z) (hB : Go.Sort.Below ltT a b d) (O : Own w base 46 1 v n (d.toList.map u16v)) : Ret Try.prog 147 #[v, (Value.int .i64 ((a : Nat) : Int)), (Value.int .i64 ((b : Nat) : Int)), (Value.int .i64 ((lim : Nat) : Int))] w (fun v' w' => w.grownBy w' v.ownBlock ∧ v' = .tuple #[] ∧ ∃ d', PI a b d d' ∧ SortedIn ltT a b d' ∧ Own w' base 46 1 v n (d'.toList.map u16v)) := by
 have hb := grown_refl w v.ownBlock
 refine enter (N := 134) Try.func147 rfl rfl (by simp) fun a0 hN hd hA => ?_
 have s0 : a0.tmps.getD 0 undef = v := hA 0 (by simp)
 have s1 : a0.tmps.getD 1 undef = (Value.int .i64 ((a : Nat) : Int)) := hA 1 (by simp)
 have s2 : a0.tmps.getD 2 undef = (Value.int .i64 ((b : Nat) : Int)) := hA 2 (by simp)
 have s3 : a0.tmps.getD 3 undef = (Value.int .i64 ((lim : Nat) : Int)) := hA 3 (by simp)
 clear hA
 refine seq_any fun K1 hK1 => ?_
 refine one_reg ?_
 refine op_assign rfl ?_
 refine reg_nil ?_
 refine hK1 _ _ ?_
 refine seq_any fun K2 hK2 => ?_
 refine one_reg ?_
 refine op_assign rfl ?_
 refine reg_nil ?_
 refine hK2 _ _ ?_
 refine wp_block ?_
 refine loop_m (fun mz_ az_ w' => ∃ (x y lm : Nat) (wb wp : Bool) (dk : Ar), mz_ = (y - x) ∧ (az_.tmps.getD 0 undef = v) ∧ (az_.tmps.getD 1 undef = (Value.int .i64 ((x : Nat) : Int))) ∧ (az_.tmps.getD 2 undef = (Value.int .i64 ((y : Nat) : Int))) ∧ (az_.tmps.getD 3 undef = (Value.int .i64 ((lm : Nat) : Int))) ∧ (az_.tmps.getD 8 undef = (Value.bool wb)) ∧ (az_.tmps.getD 9 undef = (Value.bool wp)) ∧ (dk.size = n) ∧ (lm ≤ lim) ∧ (Inv a b x y d dk) ∧ (w.grownBy w' v.ownBlock) ∧ (w.heap.size ≤ w'.heap.size) ∧ (Own w' base 46 1 v n (dk.toList.map u16v))) _ hN hd ⟨a, b, lim, true, true, _, rfl, (sl_base hN rfl s0), (sl_base hN rfl s1).trans (congrArg (Value.int .i64) (by omega)), (sl_base hN rfl s2).trans (congrArg (Value.int .i64) (by omega)), (sl_base hN rfl s3).trans (congrArg (Value.int .i64) (by omega)), (sl_hit hN rfl), (sl_hit hN rfl), (by first | assumption | (simp only [Array.size_setIfInBounds, swp_sz, siftDown_size]; assumption)), Nat.le_refl _, (Inv.start hB hab (by omega)), hb, (Nat.le_refl _), O⟩ ?_
 rintro _ a3 w3 hN3 hd3 ⟨x, y, lm, wb, wp, dk, rfl, s3_0, s3_1, s3_2, s3_3, s3_8, s3_9, hdk, hlm, hinv, hb, zl_w3, hO4⟩
 have z_w3 := hb.size
 refine wp_block ?_
 refine seq_any fun K5 hK5 => ?_
 refine one_reg ?_
 have hrg := hinv.rng
 have hzk := hinv.sz
 refine op_move (ev_base hN3 rfl s3_2) ?_
 refine op_move (ev_base hN3 rfl s3_1) ?_
 refine op_sub (r := (((y - x) : Nat) : Int)) (ev_hit hN3 rfl) (ev_hit hN3 rfl) (by rw [IntKind.wrap_i64]; omega) ?_
 refine op_assign (ev_hit hN3 rfl) ?_
 refine reg_nil ?_
 refine hK5 _ _ ?_
 refine seq_any fun K6 hK6 => ?_
 refine seq_any fun K7 hK7 => ?_
 refine one_reg ?_
 refine op_move (ev_hit hN3 rfl) ?_
 refine op_leq (ev_hit hN3 rfl) rfl (fun c23 => ?_) (fun c23 => ?_)
 · -- 23T
  refine reg_nil ?_
  refine hK7 _ _ ?_
  refine wp_cond_true (ev_hit hN3 rfl) ?_
  refine seq_any fun K8 hK8 => ?_
  refine one_reg ?_
  refine op_move (ev_base hN3 rfl s3_0) ?_
  refine op_move (ev_base hN3 rfl s3_1) ?_
  refine op_move (ev_base hN3 rfl s3_2) ?_
  refine op_fn (vs := [v, (Value.int .i64 ((x : Nat) : Int)), (Value.int .i64 ((y : Nat) : Int))]) ok153 ⟨(ev_hit hN3 rfl), ⟨(ev_hit hN3 rfl), ⟨(ev_hit hN3 rfl), trivial⟩⟩⟩ (insSort_ret dk _ _ _ x y _ (by first | assumption | (simp only [Array.size_setIfInBounds, swp_sz, siftDown_size]; assumption)) (by omega) hO4 (by omega) (by omega)) ?_
  rintro _ w10 ⟨E11, rfl, hO9⟩
  have z_w10 := E11.size
  have hb := grow_stepX hb E11 rfl
  refine reg_nil ?_
  refine hK8 _ _ ?_
  refine wp_ret (then_ret (blk_ret (then_ret (blk_ret ( ?_)))))
  refine ret0 rfl hd3  ⟨_, rfl, ?_⟩
  -- path 23T
  exact ⟨hb, rfl, _, hinv.ins.1, hinv.ins.2, hO9⟩
 · -- 23F
  refine reg_nil ?_
  refine hK7 _ _ ?_
  refine wp_cond_false (ev_hit hN3 rfl) ?_
  refine wp_skip ?_
  refine hK6 _ _ ?_
  refine seq_any fun K12 hK12 => ?_
  refine seq_any fun K13 hK13 => ?_
  refine one_reg ?_
  refine op_move (ev_base hN3 rfl s3_3) ?_
  refine op_eql (ev_hit hN3 rfl) rfl (fun c29 => ?_) (fun c29 => ?_)
  · -- 29T
   refine reg_nil ?_
   refine hK13 _ _ ?_
   refine wp_cond_true (ev_hit hN3 rfl) ?_
   refine seq_any fun K14 hK14 => ?_
   refine one_reg ?_
   refine op_move (ev_base hN3 rfl s3_0) ?_
   refine op_move (ev_base hN3 rfl s3_1) ?_
   refine op_move (ev_base hN3 rfl s3_2) ?_
   refine op_fn (vs := [v, (Value.int .i64 ((x : Nat) : Int)), (Value.int .i64 ((y : Nat) : Int))]) ok154 ⟨(ev_hit hN3 rfl), ⟨(ev_hit hN3 rfl), ⟨(ev_hit hN3 rfl), trivial⟩⟩⟩ (heapW_ret dk _ _ _ x y _ (by first | assumption | (simp only [Array.size_setIfInBounds, swp_sz, siftDown_size]; assumption)) (by omega) hO4 (by omega) (by omega)) ?_
   rintro _ w16 ⟨E17, rfl, hO15⟩
   have z_w16 := E17.size
   have hb := grow_stepX hb E17 rfl
   refine reg_nil ?_
   refine hK14 _ _ ?_
   refine wp_ret (then_ret (blk_ret (then_ret (blk_ret ( ?_)))))
   refine ret0 rfl hd3  ⟨_, rfl, ?_⟩
   -- path 23F 29T
   exact ⟨hb, rfl, _, hinv.heap.1, hinv.heap.2, hO15⟩
  · -- 29F
   refine reg_nil ?_
   refine hK13 _ _ ?_
   refine wp_cond_false (ev_hit hN3 rfl) ?_
   refine wp_skip ?_
   refine hK12 _ _ ?_
   refine seq_join1 (N := 134) (fun az_ w' => ∃ (d1 : Ar) (l1 : Nat), (az_.tmps.getD 0 undef = v) ∧ (az_.tmps.getD 1 undef = (Value.int .i64 ((x : Nat) : Int))) ∧ (az_.tmps.getD 2 undef = (Value.int .i64 ((y : Nat) : Int))) ∧ (az_.tmps.getD 8 undef = (Value.bool wb)) ∧ (az_.tmps.getD 9 undef = (Value.bool wp)) ∧ (az_.tmps.getD 10 undef = (Value.int .i64 (((y - x) : Nat) : Int))) ∧ (az_.tmps.getD 3 undef = (Value.int .i64 ((l1 : Nat) : Int))) ∧ (l1 ≤ lm) ∧ (Inv a b x y d d1) ∧ (d1.size = n) ∧ (w.grownBy w' v.ownBlock) ∧ (w3.heap.size ≤ w'.heap.size) ∧ (Own w' base 46 1 v n (d1.toList.map u16v))) (fun hJ18 => ?_) ?_
   ·
    refine seq_any fun K20 hK20 => ?_
    refine seq_any fun K21 hK21 => ?_
    refine one_reg ?_
    refine op_move (ev_base hN3 rfl s3_8) ?_
    refine op_not (ev_hit hN3 rfl) ?_
    refine reg_nil ?_
    refine hK21 _ _ ?_
    refine wp_cond_split (ev_hit hN3 rfl) (fun c35 => ?_) (fun c35 => ?_)
    · -- 35T
     refine seq_any fun K22 hK22 => ?_
     refine one_reg ?_
     refine op_move (ev_base hN3 rfl s3_0) ?_
     refine op_move (ev_base hN3 rfl s3_1) ?_
     refine op_move (ev_base hN3 rfl s3_2) ?_
     refine op_fn (vs := [v, (Value.int .i64 ((x : Nat) : Int)), (Value.int .i64 ((y : Nat) : Int))]) ok155 ⟨(ev_hit hN3 rfl), ⟨(ev_hit hN3 rfl), ⟨(ev_hit hN3 rfl), trivial⟩⟩⟩ (bpW_ret dk _ _ _ x y _ (by first | assumption | (simp only [Array.size_setIfInBounds, swp_sz, siftDown_size]; assumption)) (by omega) hO4 (by omega) (by omega)) ?_
     rintro _ w24 ⟨E25, rfl, dd23, hpi23, hO23⟩
     have z_w24 := E25.size
     have hb := grow_stepX hb E25 rfl
     have hz23 : dd23.size = n := by first | exact (PI.sz hpi23).trans (by assumption) | (have hq := PI.sz hpi23; simp only [Array.size_setIfInBounds, swp_sz] at hq; omega)
     refine reg_nil ?_
     refine hK22 _ _ ?_
     refine one_reg ?_
     refine op_move (ev_base hN3 rfl s3_3) ?_
     refine op_sub (r := (((lm - 1) : Nat) : Int)) (ev_hit hN3 rfl) rfl (by rw [IntKind.wrap_i64]; omega) ?_
     refine op_assign (ev_hit hN3 rfl) ?_
     refine reg_nil ?_
     refine hK20 _ _ ?_
     exact hJ18 _ _ _ hN3 hd3 ⟨_, (lm - 1), (sl_base hN3 rfl s3_0), (sl_base hN3 rfl s3_1), (sl_base hN3 rfl s3_2), (sl_base hN3 rfl s3_8), (sl_base hN3 rfl s3_9), (sl_hit hN3 rfl), (sl_hit hN3 rfl).trans (congrArg (Value.int .i64) (by omega)), (by omega), (hinv.perm hpi23), (by first | assumption | (simp only [Array.size_setIfInBounds, swp_sz, siftDown_size]; assumption)), hb, (by omega), hO23⟩
    · -- 35F
     refine wp_skip ?_
     refine hK20 _ _ ?_
     exact hJ18 _ _ _ hN3 hd3 ⟨_, lm, (sl_base hN3 rfl s3_0), (sl_base hN3 rfl s3_1), (sl_base hN3 rfl s3_2), (sl_base hN3 rfl s3_8), (sl_base hN3 rfl s3_9), (sl_hit hN3 rfl), (sl_base hN3 rfl s3_3).trans (congrArg (Value.int .i64) (by omega)), (by omega), hinv, (by first | assumption | (simp only [Array.size_setIfInBounds, swp_sz, siftDown_size]; assumption)), hb, (by omega), hO4⟩
   ·
    rintro a18 w18 hN18 hd18 ⟨d1, l1, s18_0, s18_1, s18_2, s18_8, s18_9, s18_10, s18_3, hl1, hi1, hz1, hb, zl_w18, hO19⟩
    have z_w18 := hb.size
    refine seq_any fun K26 hK26 => ?_
    refine one_reg ?_
    refine op_move (ev_base hN18 rfl s18_0) ?_
    refine op_move (ev_base hN18 rfl s18_1) ?_
    refine op_move (ev_base hN18 rfl s18_2) ?_
    refine op_fn (vs := [v, (Value.int .i64 ((x : Nat) : Int)), (Value.int .i64 ((y : Nat) : Int))]) ok156 ⟨(ev_hit hN18 rfl), ⟨(ev_hit hN18 rfl), ⟨(ev_hit hN18 rfl), trivial⟩⟩⟩ (choosePW_ret d1 v _ x y _ (by first | assumption | (simp only [Array.size_setIfInBounds, swp_sz, siftDown_size]; assumption)) (by omega) (hO19.rdw.mono (Nat.zero_le _) (Nat.le_refl _)) (by omega) (by omega)) ?_
    rintro _ w28 ⟨E29, pv27, hn27, rfl, hx27, hy27⟩
    have E29 := grown_of_below E29
    have z_w28 := E29.size
    have hO19 := hO19.keep0 E29
    have hb := grow_step0 hb E29
    refine op_move (ev_hit hN18 rfl) ?_
    refine op_extract (ev_hit hN18 rfl) rfl ?_
    refine op_extract (ev_hit hN18 rfl) rfl ?_
    refine op_assign (ev_hit hN18 rfl) ?_
    refine op_assign (ev_hit hN18 rfl) ?_
    refine reg_nil ?_
    refine hK26 _ _ ?_
    refine seq_join1 (N := 134) (fun az_ w' => ∃ (d2 : Ar) (pv2 : Nat) (hn2 : Int), (az_.tmps.getD 0 undef = v) ∧ (az_.tmps.getD 1 undef = (Value.int .i64 ((x : Nat) : Int))) ∧ (az_.tmps.getD 2 undef = (Value.int .i64 ((y : Nat) : Int))) ∧ (az_.tmps.getD 3 undef = (Value.int .i64 ((l1 : Nat) : Int))) ∧ (az_.tmps.getD 8 undef = (Value.bool wb)) ∧ (az_.tmps.getD 9 undef = (Value.bool wp)) ∧ (az_.tmps.getD 10 undef = (Value.int .i64 (((y - x) : Nat) : Int))) ∧ (az_.tmps.getD 11 undef = (Value.int .i64 ((pv2 : Nat) : Int))) ∧ (az_.tmps.getD 12 undef = (Value.int .i64 hn2)) ∧ (x ≤ pv2 ∧ pv2 < y) ∧ (Inv a b x y d d2) ∧ (d2.size = n) ∧ (w.grownBy w' v.ownBlock) ∧ (w28.heap.size ≤ w'.heap.size) ∧ (Own w' base 46 1 v n (d2.toList.map u16v))) (fun hJ30 => ?_) ?_
    ·
     refine seq_any fun K32 hK32 => ?_
     refine seq_any fun K33 hK33 => ?_
     refine one_reg ?_
     refine op_move (ev_hit hN18 rfl) ?_
     refine op_eql (ev_hit hN18 rfl) rfl (fun c50 => ?_) (fun c50 => ?_)
     · -- 50T
      refine reg_nil ?_
      refine hK33 _ _ ?_
      refine wp_cond_true (ev_hit hN18 rfl) ?_
      refine seq_any fun K34 hK34 => ?_
      refine one_reg ?_
      refine op_move (ev_base hN18 rfl s18_0) ?_
      refine op_move (ev_base hN18 rfl s18_1) ?_
      refine op_move (ev_base hN18 rfl s18_2) ?_
      refine op_fn (vs := [v, (Value.int .i64 ((x : Nat) : Int)), (Value.int .i64 ((y : Nat) : Int))]) ok157 ⟨(ev_hit hN18 rfl), ⟨(ev_hit hN18 rfl), ⟨(ev_hit hN18 rfl), trivial⟩⟩⟩ (revW_ret d1 _ _ _ x y _ (by first | assumption | (simp only [Array.size_setIfInBounds, swp_sz, siftDown_size]; assumption)) (by omega) hO19 (by omega) (by omega)) ?_
      rintro _ w36 ⟨E37, rfl, hO35⟩
      have z_w36 := E37.size
      have hb := grow_stepX hb E37 rfl
      refine reg_nil ?_
      refine hK34 _ _ ?_
      refine seq_any fun K38 hK38 => ?_
      refine one_reg ?_
      refine op_move (ev_base hN18 rfl s18_2) ?_
      refine op_sub (r := (((y - 1) : Nat) : Int)) (ev_hit hN18 rfl) rfl (by rw [IntKind.wrap_i64]; omega) ?_
      refine op_move (ev_hit hN18 rfl) ?_
      refine op_move (ev_base hN18 rfl s18_1) ?_
      refine op_sub (r := (((pv27 - x) : Nat) : Int)) (ev_hit hN18 rfl) (ev_hit hN18 rfl) (by rw [IntKind.wrap_i64]; omega) ?_
      refine op_sub (r := (((y - 1 - (pv27 - x)) : Nat) : Int)) (ev_hit hN18 rfl) (ev_hit hN18 rfl) (by rw [IntKind.wrap_i64]; omega) ?_
      refine op_assign (ev_hit hN18 rfl) ?_
      refine reg_nil ?_
      refine hK38 _ _ ?_
      refine one_reg ?_
      refine op_assign rfl ?_
      refine reg_nil ?_
      refine hK32 _ _ ?_
      exact hJ30 _ _ _ hN18 hd18 ⟨_, (y - 1 - (pv27 - x)), _, (sl_base hN18 rfl s18_0), (sl_base hN18 rfl s18_1), (sl_base hN18 rfl s18_2), (sl_base hN18 rfl s18_3), (sl_base hN18 rfl s18_8), (sl_base hN18 rfl s18_9), (sl_base hN18 rfl s18_10), (sl_hit hN18 rfl).trans (congrArg (Value.int .i64) (by omega)), (sl_hit hN18 rfl), (by omega), hi1.rev, (by rw [Inv.sz (by first | exact hi1.rev | exact hi1)]; assumption), hb, (by omega), hO35⟩
     · -- 50F
      refine reg_nil ?_
      refine hK33 _ _ ?_
      refine wp_cond_false (ev_hit hN18 rfl) ?_
      refine wp_skip ?_
      refine hK32 _ _ ?_
      exact hJ30 _ _ _ hN18 hd18 ⟨_, pv27, _, (sl_base hN18 rfl s18_0), (sl_base hN18 rfl s18_1), (sl_base hN18 rfl s18_2), (sl_base hN18 rfl s18_3), (sl_base hN18 rfl s18_8), (sl_base hN18 rfl s18_9), (sl_base hN18 rfl s18_10), (sl_hit hN18 rfl).trans (congrArg (Value.int .i64) (by omega)), (sl_hit hN18 rfl), (by omega), hi1, (by rw [Inv.sz (by first | exact hi1.rev | exact hi1)]; assumption), hb, (by omega), hO19⟩
    ·
     rintro a30 w30 hN30 hd30 ⟨d2, pv2, hn2, s30_0, s30_1, s30_2, s30_3, s30_8, s30_9, s30_10, s30_11, s30_12, hp2, hi2, hz2, hb, zl_w30, hO31⟩
     have z_w30 := hb.size
     refine seq_join1 (N := 134) (fun az_ w' => ∃ (d3 : Ar), (az_.tmps.getD 0 undef = v) ∧ (az_.tmps.getD 1 undef = (Value.int .i64 ((x : Nat) : Int))) ∧ (az_.tmps.getD 2 undef = (Value.int .i64 ((y : Nat) : Int))) ∧ (az_.tmps.getD 3 undef = (Value.int .i64 ((l1 : Nat) : Int))) ∧ (az_.tmps.getD 8 undef = (Value.bool wb)) ∧ (az_.tmps.getD 9 undef = (Value.bool wp)) ∧ (az_.tmps.getD 10 undef = (Value.int .i64 (((y - x) : Nat) : Int))) ∧ (az_.tmps.getD 11 undef = (Value.int .i64 ((pv2 : Nat) : Int))) ∧ (Inv a b x y d d3) ∧ (d3.size = n) ∧ (w.grownBy w' v.ownBlock) ∧ (w30.heap.size ≤ w'.heap.size) ∧ (Own w' base 46 1 v n (d3.toList.map u16v))) (fun hJ39 => ?_) ?_
     ·
      refine seq_any fun K41 hK41 => ?_
      refine seq_any fun K42 hK42 => ?_
      refine one_reg ?_
      refine op_move (ev_base hN30 rfl s30_8) ?_
      refine op_move (ev_hit hN30 rfl) ?_
      rcases Bool.eq_false_or_eq_true (wb) with g62 | g62
      · -- 62T
       rw [g62]
       refine g_true (j := 1) (dj := 62) (b := true) rfl rfl rfl (ev_hit hN30 rfl) ?_
       refine op_move (ev_base hN30 rfl s30_9) ?_
       refine op_pick_t (ev_hit hN30 rfl) (ev_hit hN30 rfl) ?_
       refine op_move (ev_hit hN30 rfl) ?_
       rcases Bool.eq_false_or_eq_true (wp) with g65 | g65
       · -- 65T
        rw [g65]
        refine g_true (j := 4) (dj := 65) (b := true) rfl rfl rfl (ev_hit hN30 rfl) ?_
        refine op_move (ev_base hN30 rfl s30_12) ?_
        refine g_true (j := 4) (dj := 65) (b := true) rfl rfl rfl (ev_hit hN30 rfl) ?_
        refine op_eql (ev_hit hN30 rfl) rfl (fun c67 => ?_) (fun c67 => ?_)
        · -- 67T
         refine op_pick_t (ev_hit hN30 rfl) (ev_hit hN30 rfl) ?_
         refine reg_nil ?_
         refine hK42 _ _ ?_
         refine wp_cond_true (ev_hit hN30 rfl) ?_
         refine seq_any fun K43 hK43 => ?_
         refine one_reg ?_
         refine op_move (ev_base hN30 rfl s30_0) ?_
         refine op_move (ev_base hN30 rfl s30_1) ?_
         refine op_move (ev_base hN30 rfl s30_2) ?_
         refine op_fn (vs := [v, (Value.int .i64 ((x : Nat) : Int)), (Value.int .i64 ((y : Nat) : Int))]) ok158 ⟨(ev_hit hN30 rfl), ⟨(ev_hit hN30 rfl), ⟨(ev_hit hN30 rfl), trivial⟩⟩⟩ (partialW_ret d2 _ _ _ x y _ (by first | assumption | (simp only [Array.size_setIfInBounds, swp_sz, siftDown_size]; assumption)) (by omega) hO31 (by omega) (by omega)) ?_
         rintro _ w45 ⟨E46, rfl, hO44⟩
         have z_w45 := E46.size
         have hb := grow_stepX hb E46 rfl
         rcases Bool.eq_false_or_eq_true ((partialInsertionSort ltT d2 x y).2) with c72 | c72
         · -- 72T
          rw [c72]
          refine reg_nil ?_
          refine hK43 _ _ ?_
          refine wp_cond_true (ev_hit hN30 rfl) ?_
          refine wp_ret (then_ret (blk_ret (then_ret (blk_ret ( ?_)))))
          refine ret0 rfl hd30  ⟨_, rfl, ?_⟩
          -- path 23F 29F 62T 65T 67T 72T
          exact ⟨hb, rfl, _, ((hi2.pins (by omega)).2 (by first | assumption | simpa using c72)).1, ((hi2.pins (by omega)).2 (by first | assumption | simpa using c72)).2, hO44⟩
         · -- 72F
          rw [c72]
          refine reg_nil ?_
          refine hK43 _ _ ?_
          refine wp_cond_false (ev_hit hN30 rfl) ?_
          refine wp_skip ?_
          refine hK41 _ _ ?_
          exact hJ39 _ _ _ hN30 hd30 ⟨_, (sl_base hN30 rfl s30_0), (sl_base hN30 rfl s30_1), (sl_base hN30 rfl s30_2), (sl_base hN30 rfl s30_3), (sl_base hN30 rfl s30_8), (sl_base hN30 rfl s30_9), (sl_base hN30 rfl s30_10), (sl_base hN30 rfl s30_11), (hi2.pins (by omega)).1, (by rw [Inv.sz (by first | exact (hi2.pins (by omega)).1 | exact hi2)]; assumption), hb, (by omega), hO44⟩
        · -- 67F
         refine op_pick_t (ev_hit hN30 rfl) (ev_hit hN30 rfl) ?_
         refine reg_nil ?_
         refine hK42 _ _ ?_
         refine wp_cond_false (ev_hit hN30 rfl) ?_
         refine wp_skip ?_
         refine hK41 _ _ ?_
         exact hJ39 _ _ _ hN30 hd30 ⟨_, (sl_base hN30 rfl s30_0), (sl_base hN30 rfl s30_1), (sl_base hN30 rfl s30_2), (sl_base hN30 rfl s30_3), (sl_base hN30 rfl s30_8), (sl_base hN30 rfl s30_9), (sl_base hN30 rfl s30_10), (sl_base hN30 rfl s30_11), hi2, (by rw [Inv.sz (by first | exact (hi2.pins (by omega)).1 | exact hi2)]; assumption), hb, (by omega), hO31⟩
       · -- 65F
        rw [g65]
        refine g_false (j := 4) (dj := 65) (b := true) rfl rfl rfl (ev_hit hN30 rfl) rfl rfl ?_
        refine g_false (j := 4) (dj := 65) (b := true) rfl rfl rfl (ev_hit hN30 rfl) rfl rfl ?_
        refine op_pick_f (ev_hit hN30 rfl) rfl ?_
        refine reg_nil ?_
        refine hK42 _ _ ?_
        refine wp_cond_false (ev_hit hN30 rfl) ?_
        refine wp_skip ?_
        refine hK41 _ _ ?_
        exact hJ39 _ _ _ hN30 hd30 ⟨_, (sl_base hN30 rfl s30_0), (sl_base hN30 rfl s30_1), (sl_base hN30 rfl s30_2), (sl_base hN30 rfl s30_3), (sl_base hN30 rfl s30_8), (sl_base hN30 rfl s30_9), (sl_base hN30 rfl s30_10), (sl_base hN30 rfl s30_11), hi2, (by rw [Inv.sz (by first | exact (hi2.pins (by omega)).1 | exact hi2)]; assumption), hb, (by omega), hO31⟩
      · -- 62F
       rw [g62]
       refine g_false (j := 1) (dj := 62) (b := true) rfl rfl rfl (ev_hit hN30 rfl) rfl rfl ?_
       refine op_pick_f (ev_hit hN30 rfl) rfl ?_
       refine op_move (ev_hit hN30 rfl) ?_
       refine g_false (j := 4) (dj := 65) (b := true) rfl rfl rfl (ev_hit hN30 rfl) rfl rfl ?_
       refine g_false (j := 4) (dj := 65) (b := true) rfl rfl rfl (ev_hit hN30 rfl) rfl rfl ?_
       refine op_pick_f (ev_hit hN30 rfl) rfl ?_
       refine reg_nil ?_
       refine hK42 _ _ ?_
       refine wp_cond_false (ev_hit hN30 rfl) ?_
       refine wp_skip ?_
       refine hK41 _ _ ?_
       exact hJ39 _ _ _ hN30 hd30 ⟨_, (sl_base hN30 rfl s30_0), (sl_base hN30 rfl s30_1), (sl_base hN30 rfl s30_2), (sl_base hN30 rfl s30_3), (sl_base hN30 rfl s30_8), (sl_base hN30 rfl s30_9), (sl_base hN30 rfl s30_10), (sl_base hN30 rfl s30_11), hi2, (by rw [Inv.sz (by first | exact (hi2.pins (by omega)).1 | exact hi2)]; assumption), hb, (by omega), hO31⟩
     ·
      rintro a39 w39 hN39 hd39 ⟨d3, s39_0, s39_1, s39_2, s39_3, s39_8, s39_9, s39_10, s39_11, hi3, hz3, hb, zl_w39, hO40⟩
      have z_w39 := hb.size
      refine seq_join1 (N := 134) (fun az_ w' => (az_.tmps.getD 0 undef = v) ∧ (az_.tmps.getD 2 undef = (Value.int .i64 ((y : Nat) : Int))) ∧ (az_.tmps.getD 3 undef = (Value.int .i64 ((l1 : Nat) : Int))) ∧ (az_.tmps.getD 8 undef = (Value.bool wb)) ∧ (az_.tmps.getD 9 undef = (Value.bool wp)) ∧ (az_.tmps.getD 10 undef = (Value.int .i64 (((y - x) : Nat) : Int))) ∧ (az_.tmps.getD 11 undef = (Value.int .i64 ((pv2 : Nat) : Int))) ∧ (az_.tmps.getD 1 undef = (Value.int .i64 ((x : Nat) : Int))) ∧ (w.grownBy w' v.ownBlock) ∧ (w39.heap.size ≤ w'.heap.size) ∧ (Own w' base 46 1 v n (d3.toList.map u16v))) (fun hJ47 => ?_) ?_
      ·
       refine seq_any fun K48 hK48 => ?_
       refine seq_any fun K49 hK49 => ?_
       refine reg_still mixed (by kernel_rfl) ?_
       intro w51 E50
       have z_w51 := E50.size
       have hO40 := hO40.keep0 E50
       have hb := grow_step0 hb E50
       refine st_step rfl (fun _ h9 => op_move (ev_base hN39 rfl s39_1) h9) ?_
       by_cases g74 : 0 < ((x : Nat) : Int)
       · -- 74T
        refine st_step rfl (fun _ h9 => op_cmp (b := true) (ev_hit hN39 rfl) rfl (b_gtr (decide_eq_true g74)) h9) ?_
        refine st_step rfl (fun _ h9 => op_move (ev_hit hN39 rfl) h9) ?_
        refine st_g_true (j := 2) (dj := 75) (b := true) rfl rfl rfl (ev_hit hN39 rfl) ?_
        refine st_step rfl (fun _ h9 => op_move (ev_base hN39 rfl s39_0) h9) ?_
        refine st_g_true (j := 2) (dj := 75) (b := true) rfl rfl rfl (ev_hit hN39 rfl) ?_
        refine st_step rfl (fun _ h9 => op_move (ev_base hN39 rfl s39_1) h9) ?_
        refine st_g_true (j := 2) (dj := 75) (b := true) rfl rfl rfl (ev_hit hN39 rfl) ?_
        refine st_step rfl (fun _ h9 => op_sub (r := (((x - 1) : Nat) : Int)) (ev_hit hN39 rfl) rfl (by rw [IntKind.wrap_i64]; omega) h9) ?_
        refine st_g_true (j := 2) (dj := 75) (b := true) rfl rfl rfl (ev_hit hN39 rfl) ?_
        refine st_index_rd slt45 (ev_hit hN39 rfl) hO40.rdw (ev_hit hN39 rfl) (by omega) (by omega) ?_
        intro b52 o53 h0b52 h1b52 hc54
        refine st_g_true (j := 2) (dj := 75) (b := true) rfl rfl rfl (ev_hit hN39 rfl) ?_
        refine st_step rfl (fun _ h9 => op_load1 (v := (Value.int .u16 (d3[(x - 1)]!.toNat : Int))) one46 (ev_hit hN39 rfl) (by have := hc54 0 (Value.int .u16 (d3[(x - 1)]!.toNat : Int)) (by decide) (el_arr (i := (x - 1)) (by omega) (by first | omega | (simp only [Array.size_setIfInBounds, swp_sz, siftDown_size]; omega))); simpa using this) h9) ?_
        refine st_g_true (j := 2) (dj := 75) (b := true) rfl rfl rfl (ev_hit hN39 rfl) ?_
        refine st_step rfl (fun _ h9 => op_move (ev_base hN39 rfl s39_0) h9) ?_
        refine st_g_true (j := 2) (dj := 75) (b := true) rfl rfl rfl (ev_hit hN39 rfl) ?_
        refine st_step rfl (fun _ h9 => op_move (ev_base hN39 rfl s39_11) h9) ?_
        refine st_g_true (j := 2) (dj := 75) (b := true) rfl rfl rfl (ev_hit hN39 rfl) ?_
        refine st_index_rd slt45 (ev_hit hN39 rfl) hO40.rdw (ev_hit hN39 rfl) (by omega) (by omega) ?_
        intro b55 o56 h0b55 h1b55 hc57
        refine st_g_true (j := 2) (dj := 75) (b := true) rfl rfl rfl (ev_hit hN39 rfl) ?_
        refine st_step rfl (fun _ h9 => op_load1 (v := (Value.int .u16 (d3[pv2]!.toNat : Int))) one46 (ev_hit hN39 rfl) (by have := hc57 0 (Value.int .u16 (d3[pv2]!.toNat : Int)) (by decide) (el_arr (i := pv2) (by omega) (by first | omega | (simp only [Array.size_setIfInBounds, swp_sz, siftDown_size]; omega))); simpa using this) h9) ?_
        refine st_g_true (j := 2) (dj := 75) (b := true) rfl rfl rfl (ev_hit hN39 rfl) ?_
        refine st_fn (vs := [(Value.int .u16 (d3[(x - 1)]!.toNat : Int)), (Value.int .u16 (d3[pv2]!.toNat : Int))]) ok159 (⟨(ev_hit hN39 rfl), ⟨(ev_hit hN39 rfl), trivial⟩⟩) (Less16_ret d3[(x - 1)]! d3[pv2]! _) ?_
        refine st_g_true (j := 2) (dj := 75) (b := true) rfl rfl rfl (ev_hit hN39 rfl) ?_
        refine st_step rfl (fun _ h9 => op_not (ev_hit hN39 rfl) h9) ?_
        refine st_step rfl (fun _ h9 => op_pick_t (ev_hit hN39 rfl) (ev_hit hN39 rfl) h9) ?_
        refine st_nil ?_
        refine hK49 _ _ ?_
        refine wp_cond_split (ev_hit hN39 rfl) (fun c87 => ?_) (fun c87 => ?_)
        · -- 87T
         refine seq_any fun K58 hK58 => ?_
         refine one_reg ?_
         have heq5 := hi3.equal hp2.1 hp2.2 (by omega) (not_t c87)
         refine op_move (ev_base hN39 rfl s39_0) ?_
         refine op_move (ev_base hN39 rfl s39_1) ?_
         refine op_move (ev_base hN39 rfl s39_2) ?_
         refine op_move (ev_base hN39 rfl s39_11) ?_
         refine op_fn (vs := [v, (Value.int .i64 ((x : Nat) : Int)), (Value.int .i64 ((y : Nat) : Int)), (Value.int .i64 ((pv2 : Nat) : Int))]) ok160 ⟨(ev_hit hN39 rfl), ⟨(ev_hit hN39 rfl), ⟨(ev_hit hN39 rfl), ⟨(ev_hit hN39 rfl), trivial⟩⟩⟩⟩ (partEqW_ret d3 _ _ _ x y pv2 _ (by first | assumption | (simp only [Array.size_setIfInBounds, swp_sz, siftDown_size]; assumption)) (by omega) hO40 (by omega) (by omega) (by omega)) ?_
         rintro _ w61 ⟨E62, rfl, hO60⟩
         have z_w61 := E62.size
         have hb := grow_stepX hb E62 rfl
         refine op_assign (ev_hit hN39 rfl) ?_
         refine reg_nil ?_
         refine hK58 _ _ ?_
         refine seq_any fun K63 hK63 => ?_
         refine one_reg ?_
         refine op_move (ev_hit hN39 rfl) ?_
         refine op_assign (ev_hit hN39 rfl) ?_
         refine reg_nil ?_
         refine hK63 _ _ ?_
         refine wp_exit (then_exit (blk_hit ?_))
         -- round 23F 29F 74T 87T
         have hinv5 := heq5.2
         have hz5 : (partitionEqual ltT d3 x y pv2).2.size = n := by rw [Inv.sz hinv5]; assumption
         exact loop_next _ hN39 hd39 ⟨(partitionEqual ltT d3 x y pv2).1, y, l1, wb, wp, _, rfl, (sl_base hN39 rfl s39_0), (sl_hit hN39 rfl).trans (congrArg (Value.int .i64) (by omega)), (sl_base hN39 rfl s39_2).trans (congrArg (Value.int .i64) (by omega)), (sl_base hN39 rfl s39_3).trans (congrArg (Value.int .i64) (by omega)), (sl_base hN39 rfl s39_8), (sl_base hN39 rfl s39_9), (by first | assumption | (simp only [Array.size_setIfInBounds, swp_sz, siftDown_size]; assumption)), (by omega), hinv5, hb, (by omega), hO60⟩ (by omega)
        · -- 87F
         refine wp_skip ?_
         refine hK48 _ _ ?_
         exact hJ47 _ _ _ hN39 hd39 ⟨(sl_base hN39 rfl s39_0), (sl_base hN39 rfl s39_2), (sl_base hN39 rfl s39_3), (sl_base hN39 rfl s39_8), (sl_base hN39 rfl s39_9), (sl_base hN39 rfl s39_10), (sl_base hN39 rfl s39_11), (sl_base hN39 rfl s39_1), hb, (by omega), hO40⟩
       · -- 74F
        refine st_step rfl (fun _ h9 => op_cmp (b := false) (ev_hit hN39 rfl) rfl (b_gtr (decide_eq_false g74)) h9) ?_
        refine st_step rfl (fun _ h9 => op_move (ev_hit hN39 rfl) h9) ?_
        refine st_g_false (j := 2) (dj := 75) (b := true) rfl rfl rfl (ev_hit hN39 rfl) rfl rfl ?_
        refine st_g_false (j := 2) (dj := 75) (b := true) rfl rfl rfl (ev_hit hN39 rfl) rfl rfl ?_
        refine st_g_false (j := 2) (dj := 75) (b := true) rfl rfl rfl (ev_hit hN39 rfl) rfl rfl ?_
        refine st_g_false (j := 2) (dj := 75) (b := true) rfl rfl rfl (ev_hit hN39 rfl) rfl rfl ?_
        refine st_g_false (j := 2) (dj := 75) (b := true) rfl rfl rfl (ev_hit hN39 rfl) rfl rfl ?_
        refine st_g_false (j := 2) (dj := 75) (b := true) rfl rfl rfl (ev_hit hN39 rfl) rfl rfl ?_
        refine st_g_false (j := 2) (dj := 75) (b := true) rfl rfl rfl (ev_hit hN39 rfl) rfl rfl ?_
        refine st_g_false (j := 2) (dj := 75) (b := true) rfl rfl rfl (ev_hit hN39 rfl) rfl rfl ?_
        refine st_g_false (j := 2) (dj := 75) (b := true) rfl rfl rfl (ev_hit hN39 rfl) rfl rfl ?_
        refine st_g_false (j := 2) (dj := 75) (b := true) rfl rfl rfl (ev_hit hN39 rfl) rfl rfl ?_
        refine st_g_false (j := 2) (dj := 75) (b := true) rfl rfl rfl (ev_hit hN39 rfl) rfl rfl ?_
        refine st_step rfl (fun _ h9 => op_pick_f (ev_hit hN39 rfl) rfl h9) ?_
        refine st_nil ?_
        refine hK49 _ _ ?_
        refine wp_cond_false (ev_hit hN39 rfl) ?_
        refine wp_skip ?_
        refine hK48 _ _ ?_
        exact hJ47 _ _ _ hN39 hd39 ⟨(sl_base hN39 rfl s39_0), (sl_base hN39 rfl s39_2), (sl_base hN39 rfl s39_3), (sl_base hN39 rfl s39_8), (sl_base hN39 rfl s39_9), (sl_base hN39 rfl s39_10), (sl_base hN39 rfl s39_11), (sl_base hN39 rfl s39_1), hb, (by omega), hO40⟩
      ·
       rintro a47 w47 hN47 hd47 ⟨s47_0, s47_2, s47_3, s47_8, s47_9, s47_10, s47_11, s47_1, hb, zl_w47, hO40⟩
       have z_w47 := hb.size
       refine seq_any fun K64 hK64 => ?_
       refine one_reg ?_
       have hpt := hi3.part hp2.1 hp2.2
       refine op_move (ev_base hN47 rfl s47_0) ?_
       refine op_move (ev_base hN47 rfl s47_1) ?_
       refine op_move (ev_base hN47 rfl s47_2) ?_
       refine op_move (ev_base hN47 rfl s47_11) ?_
       refine op_fn (vs := [v, (Value.int .i64 ((x : Nat) : Int)), (Value.int .i64 ((y : Nat) : Int)), (Value.int .i64 ((pv2 : Nat) : Int))]) ok161 ⟨(ev_hit hN47 rfl), ⟨(ev_hit hN47 rfl), ⟨(ev_hit hN47 rfl), ⟨(ev_hit hN47 rfl), trivial⟩⟩⟩⟩ (partW_ret d3 _ _ _ x y pv2 _ (by first | assumption | (simp only [Array.size_setIfInBounds, swp_sz, siftDown_size]; assumption)) (by omega) hO40 (by omega) (by omega) (by omega)) ?_
       rintro _ w66 ⟨E67, rfl, hO65⟩
       have z_w66 := E67.size
       have hb := grow_stepX hb E67 rfl
       refine op_move (ev_hit hN47 rfl) ?_
       refine op_extract (ev_hit hN47 rfl) rfl ?_
       refine op_extract (ev_hit hN47 rfl) rfl ?_
       refine op_assign (ev_hit hN47 rfl) ?_
       refine op_assign (ev_hit hN47 rfl) ?_
       refine reg_nil ?_
       refine hK64 _ _ ?_
       refine seq_any fun K68 hK68 => ?_
       refine one_reg ?_
       refine op_move (ev_hit hN47 rfl) ?_
       refine op_assign (ev_hit hN47 rfl) ?_
       refine reg_nil ?_
       refine hK68 _ _ ?_
       refine seq_any fun K69 hK69 => ?_
       refine one_reg ?_
       refine op_move (ev_hit hN47 rfl) ?_
       refine op_move (ev_base hN47 rfl s47_1) ?_
       refine op_sub (r := ((((partition ltT d3 x y pv2).1 - x) : Nat) : Int)) (ev_hit hN47 rfl) (ev_hit hN47 rfl) (by rw [IntKind.wrap_i64]; omega) ?_
       refine op_move (ev_base hN47 rfl s47_2) ?_
       refine op_move (ev_hit hN47 rfl) ?_
       refine op_sub (r := (((y - (partition ltT d3 x y pv2).1) : Nat) : Int)) (ev_hit hN47 rfl) (ev_hit hN47 rfl) (by rw [IntKind.wrap_i64]; omega) ?_
       refine op_assign (ev_hit hN47 rfl) ?_
       refine op_assign (ev_hit hN47 rfl) ?_
       refine reg_nil ?_
       refine hK69 _ _ ?_
       refine seq_any fun K70 hK70 => ?_
       refine one_reg ?_
       refine op_move (ev_base hN47 rfl s47_10) ?_
       refine op_quo (r := ((((y - x) / 8) : Nat) : Int)) (ev_hit hN47 rfl) rfl (by decide) (by rw [IntKind.wrap_i64, Int.tdiv_eq_ediv_of_nonneg (by omega)]; omega) ?_
       refine op_assign (ev_hit hN47 rfl) ?_
       refine reg_nil ?_
       refine hK70 _ _ ?_
       refine seq_any fun K71 hK71 => ?_
       refine one_reg ?_
       refine op_move (ev_hit hN47 rfl) ?_
       refine op_move (ev_hit hN47 rfl) ?_
       refine op_lss (ev_hit hN47 rfl) (ev_hit hN47 rfl) (fun c113 => ?_) (fun c113 => ?_)
       · -- 113T
        refine reg_nil ?_
        refine hK71 _ _ ?_
        refine wp_cond_true (ev_hit hN47 rfl) ?_
        refine seq_any fun K72 hK72 => ?_
        refine one_reg ?_
        refine op_move (ev_hit hN47 rfl) ?_
        refine op_move (ev_hit hN47 rfl) ?_
        refine op_geq (ev_hit hN47 rfl) (ev_hit hN47 rfl) (fun c116 => ?_) (fun c116 => ?_)
        · -- 116T
         refine op_assign (ev_hit hN47 rfl) ?_
         refine reg_nil ?_
         refine hK72 _ _ ?_
         refine seq_any fun K73 hK73 => ?_
         refine one_reg ?_
         have hbl := hpt.2.2.2.1
         have hmz : (partition ltT d3 x y pv2).1 - x < z := by omega
         refine op_move (ev_base hN47 rfl s47_0) ?_
         refine op_move (ev_base hN47 rfl s47_1) ?_
         refine op_move (ev_hit hN47 rfl) ?_
         refine op_move (ev_base hN47 rfl s47_3) ?_
         refine op_fn (vs := [v, (Value.int .i64 ((x : Nat) : Int)), (Value.int .i64 (((partition ltT d3 x y pv2).1 : Nat) : Int)), (Value.int .i64 ((l1 : Nat) : Int))]) ok147 ⟨(ev_hit hN47 rfl), ⟨(ev_hit hN47 rfl), ⟨(ev_hit hN47 rfl), ⟨(ev_hit hN47 rfl), trivial⟩⟩⟩⟩ (ih (partition ltT d3 x y pv2).2.2 x ((partition ltT d3 x y pv2).1) l1 _ (hpt.2.2.1.trans hz3) (by omega) (by omega) (by omega) (by omega) hbl hO65) ?_
         rintro _ w75 ⟨E76, rfl, dd74, hpi74, hso74, hO74⟩
         have z_w75 := E76.size
         have hb := grow_stepX hb E76 rfl
         refine reg_nil ?_
         refine hK73 _ _ ?_
         refine one_reg ?_
         refine op_move (ev_hit hN47 rfl) ?_
         refine op_add (r := ((((partition ltT d3 x y pv2).1 + 1) : Nat) : Int)) (ev_hit hN47 rfl) rfl (by rw [IntKind.wrap_i64]; omega) ?_
         refine op_assign (ev_hit hN47 rfl) ?_
         refine reg_nil ?_
         refine blk_normal ?_
         -- round 23F 29F 113T 116T
         have hinv5 := hpt.2.2.2.2.2.1 _ hpi74 hso74
         have hz5 : dd74.size = n := by rw [Inv.sz hinv5]; assumption
         exact loop_next _ hN47 hd47 ⟨((partition ltT d3 x y pv2).1 + 1), y, l1, true, (partition ltT d3 x y pv2).2.1, _, rfl, (sl_base hN47 rfl s47_0), (sl_hit hN47 rfl).trans (congrArg (Value.int .i64) (by omega)), (sl_base hN47 rfl s47_2).trans (congrArg (Value.int .i64) (by omega)), (sl_base hN47 rfl s47_3).trans (congrArg (Value.int .i64) (by omega)), (sl_hit hN47 rfl), (sl_hit hN47 rfl), (by first | assumption | (simp only [Array.size_setIfInBounds, swp_sz, siftDown_size]; assumption)), (by omega), hinv5, hb, (by omega), hO74⟩ (by omega)
        · -- 116F
         refine op_assign (ev_hit hN47 rfl) ?_
         refine reg_nil ?_
         refine hK72 _ _ ?_
         refine seq_any fun K77 hK77 => ?_
         refine one_reg ?_
         have hbl := hpt.2.2.2.1
         have hmz : (partition ltT d3 x y pv2).1 - x < z := by omega
         refine op_move (ev_base hN47 rfl s47_0) ?_
         refine op_move (ev_base hN47 rfl s47_1) ?_
         refine op_move (ev_hit hN47 rfl) ?_
         refine op_move (ev_base hN47 rfl s47_3) ?_
         refine op_fn (vs := [v, (Value.int .i64 ((x : Nat) : Int)), (Value.int .i64 (((partition ltT d3 x y pv2).1 : Nat) : Int)), (Value.int .i64 ((l1 : Nat) : Int))]) ok147 ⟨(ev_hit hN47 rfl), ⟨(ev_hit hN47 rfl), ⟨(ev_hit hN47 rfl), ⟨(ev_hit hN47 rfl), trivial⟩⟩⟩⟩ (ih (partition ltT d3 x y pv2).2.2 x ((partition ltT d3 x y pv2).1) l1 _ (hpt.2.2.1.trans hz3) (by omega) (by omega) (by omega) (by omega) hbl hO65) ?_
         rintro _ w79 ⟨E80, rfl, dd78, hpi78, hso78, hO78⟩
         have z_w79 := E80.size
         have hb := grow_stepX hb E80 rfl
         refine reg_nil ?_
         refine hK77 _ _ ?_
         refine one_reg ?_
         refine op_move (ev_hit hN47 rfl) ?_
         refine op_add (r := ((((partition ltT d3 x y pv2).1 + 1) : Nat) : Int)) (ev_hit hN47 rfl) rfl (by rw [IntKind.wrap_i64]; omega) ?_
         refine op_assign (ev_hit hN47 rfl) ?_
         refine reg_nil ?_
         refine blk_normal ?_
         -- round 23F 29F 113T 116F
         have hinv5 := hpt.2.2.2.2.2.1 _ hpi78 hso78
         have hz5 : dd78.size = n := by rw [Inv.sz hinv5]; assumption
         exact loop_next _ hN47 hd47 ⟨((partition ltT d3 x y pv2).1 + 1), y, l1, false, (partition ltT d3 x y pv2).2.1, _, rfl, (sl_base hN47 rfl s47_0), (sl_hit hN47 rfl).trans (congrArg (Value.int .i64) (by omega)), (sl_base hN47 rfl s47_2).trans (congrArg (Value.int .i64) (by omega)), (sl_base hN47 rfl s47_3).trans (congrArg (Value.int .i64) (by omega)), (sl_hit hN47 rfl), (sl_hit hN47 rfl), (by first | assumption | (simp only [Array.size_setIfInBounds, swp_sz, siftDown_size]; assumption)), (by omega), hinv5, hb, (by omega), hO78⟩ (by omega)
       · -- 113F
        refine reg_nil ?_
        refine hK71 _ _ ?_
        refine wp_cond_false (ev_hit hN47 rfl) ?_
        refine seq_any fun K81 hK81 => ?_
        refine one_reg ?_
        refine op_move (ev_hit hN47 rfl) ?_
        refine op_move (ev_hit hN47 rfl) ?_
        refine op_geq (ev_hit hN47 rfl) (ev_hit hN47 rfl) (fun c126 => ?_) (fun c126 => ?_)
        · -- 126T
         refine op_assign (ev_hit hN47 rfl) ?_
         refine reg_nil ?_
         refine hK81 _ _ ?_
         refine seq_any fun K82 hK82 => ?_
         refine one_reg ?_
         have hbr := hpt.2.2.2.2.1
         have hmz : y - ((partition ltT d3 x y pv2).1 + 1) < z := by omega
         refine op_move (ev_base hN47 rfl s47_0) ?_
         refine op_move (ev_hit hN47 rfl) ?_
         refine op_add (r := ((((partition ltT d3 x y pv2).1 + 1) : Nat) : Int)) (ev_hit hN47 rfl) rfl (by rw [IntKind.wrap_i64]; omega) ?_
         refine op_move (ev_base hN47 rfl s47_2) ?_
         refine op_move (ev_base hN47 rfl s47_3) ?_
         refine op_fn (vs := [v, (Value.int .i64 ((((partition ltT d3 x y pv2).1 + 1) : Nat) : Int)), (Value.int .i64 ((y : Nat) : Int)), (Value.int .i64 ((l1 : Nat) : Int))]) ok147 ⟨(ev_hit hN47 rfl), ⟨(ev_hit hN47 rfl), ⟨(ev_hit hN47 rfl), ⟨(ev_hit hN47 rfl), trivial⟩⟩⟩⟩ (ih (partition ltT d3 x y pv2).2.2 ((partition ltT d3 x y pv2).1 + 1) y l1 _ (hpt.2.2.1.trans hz3) (by omega) (by omega) (by omega) (by omega) hbr hO65) ?_
         rintro _ w84 ⟨E85, rfl, dd83, hpi83, hso83, hO83⟩
         have z_w84 := E85.size
         have hb := grow_stepX hb E85 rfl
         refine reg_nil ?_
         refine hK82 _ _ ?_
         refine one_reg ?_
         refine op_move (ev_hit hN47 rfl) ?_
         refine op_assign (ev_hit hN47 rfl) ?_
         refine reg_nil ?_
         refine blk_normal ?_
         -- round 23F 29F 113F 126T
         have hinv5 := hpt.2.2.2.2.2.2 _ hpi83 hso83
         have hz5 : dd83.size = n := by rw [Inv.sz hinv5]; assumption
         exact loop_next _ hN47 hd47 ⟨x, (partition ltT d3 x y pv2).1, l1, true, (partition ltT d3 x y pv2).2.1, _, rfl, (sl_base hN47 rfl s47_0), (sl_base hN47 rfl s47_1).trans (congrArg (Value.int .i64) (by omega)), (sl_hit hN47 rfl).trans (congrArg (Value.int .i64) (by omega)), (sl_base hN47 rfl s47_3).trans (congrArg (Value.int .i64) (by omega)), (sl_hit hN47 rfl), (sl_hit hN47 rfl), (by first | assumption | (simp only [Array.size_setIfInBounds, swp_sz, siftDown_size]; assumption)), (by omega), hinv5, hb, (by omega), hO83⟩ (by omega)
        · -- 126F
         refine op_assign (ev_hit hN47 rfl) ?_
         refine reg_nil ?_
         refine hK81 _ _ ?_
         refine seq_any fun K86 hK86 => ?_
         refine one_reg ?_
         have hbr := hpt.2.2.2.2.1
         have hmz : y - ((partition ltT d3 x y pv2).1 + 1) < z := by omega
         refine op_move (ev_base hN47 rfl s47_0) ?_
         refine op_move (ev_hit hN47 rfl) ?_
         refine op_add (r := ((((partition ltT d3 x y pv2).1 + 1) : Nat) : Int)) (ev_hit hN47 rfl) rfl (by rw [IntKind.wrap_i64]; omega) ?_
         refine op_move (ev_base hN47 rfl s47_2) ?_
         refine op_move (ev_base hN47 rfl s47_3) ?_
         refine op_fn (vs := [v, (Value.int .i64 ((((partition ltT d3 x y pv2).1 + 1) : Nat) : Int)), (Value.int .i64 ((y : Nat) : Int)), (Value.int .i64 ((l1 : Nat) : Int))]) ok147 ⟨(ev_hit hN47 rfl), ⟨(ev_hit hN47 rfl), ⟨(ev_hit hN47 rfl), ⟨(ev_hit hN47 rfl), trivial⟩⟩⟩⟩ (ih (partition ltT d3 x y pv2).2.2 ((partition ltT d3 x y pv2).1 + 1) y l1 _ (hpt.2.2.1.trans hz3) (by omega) (by omega) (by omega) (by omega) hbr hO65) ?_
         rintro _ w88 ⟨E89, rfl, dd87, hpi87, hso87, hO87⟩
         have z_w88 := E89.size
         have hb := grow_stepX hb E89 rfl
         refine reg_nil ?_
         refine hK86 _ _ ?_
         refine one_reg ?_
         refine op_move (ev_hit hN47 rfl) ?_
         refine op_assign (ev_hit hN47 rfl) ?_
         refine reg_nil ?_
         refine blk_normal ?_
         -- round 23F 29F 113F 126F
         have hinv5 := hpt.2.2.2.2.2.2 _ hpi87 hso87
         have hz5 : dd87.size = n := by rw [Inv.sz hinv5]; assumption
         exact loop_next _ hN47 hd47 ⟨x, (partition ltT d3 x y pv2).1, l1, false, (partition ltT d3 x y pv2).2.1, _, rfl, (sl_base hN47 rfl s47_0), (sl_base hN47 rfl s47_1).trans (congrArg (Value.int .i64) (by omega)), (sl_hit hN47 rfl).trans (congrArg (Value.int .i64) (by omega)), (sl_base hN47 rfl s47_3).trans (congrArg (Value.int .i64) (by omega)), (sl_hit hN47 rfl), (sl_hit hN47 rfl), (by first | assumption | (simp only [Array.size_setIfInBounds, swp_sz, siftDown_size]; assumption)), (by omega), hinv5, hb, (by omega), hO87⟩ (by omega)

theorem pdqW_ret (d : Ar) (v : Value) (n base a b lim : Nat) (w : World) (hd : d.size = n) (hn : n ≤ 4000000000000000000) (hab : a ≤ b) (hbn : b ≤ n) (hlim : lim ≤ 100) (hB : Go.Sort.Below ltT a b d) (O : Own w base 46 1 v n (d.toList.map u16v)) : Ret Try.prog 147 #[v, .int .i64 (a : Int), .int .i64 (b : Int), .int .i64 (lim : Int)] w (fun v' w' => w.grownBy w' v.ownBlock ∧ v' = .tuple #[] ∧ ∃ d', PI a b d d' ∧ SortedIn ltT a b d' ∧ Own w' base 46 1 v n (d'.toList.map u16v)) := by
  have key : ∀ z, PdqIH z v n base := by
    intro z
    induction z with
    | zero => intro d a b lim w _ _ _ _ h; omega
    | succ z ih =>
      intro d a b lim w hd hab hbn hlim hz hB O
      exact pdqW_step (b - a) v n base hn (fun d a b lim w g1 g2 g3 g4 g5 => ih d a b lim w g1 g2 g3 g4 (by omega)) d a b lim w hd hab hbn hlim rfl hB O
  exact key (b - a + 1) d a b lim w hd hab hbn hlim (by omega) hB O

end Go.Proofs.Ytmhdbphpmgjpcaa

/- Walks, written by a program: what each function of the translation hands back. -/
namespace Go.Proofs.Ytmhdbphpmgjpcaa
open Go.Gx Go.RowKit
attribute [local irreducible] wpList wpStill Code.wp Calls
open Go.Sort (insertionSort insOuter insInner swp siftDown heapSort heapBuild heapPop scanUp scanDown partition partLoop partitionEqual partEqLoop scanSorted partialIns bitsLen partialInsertionSort shiftDown shiftUp SortedIn reverseRange reverseLoop fixDown fixUp)
theorem compW_ret (d : Ar) (v : Value) (n base : Nat) (z0 : Nat) (w : World) (hd : d.size = n) (hn : n ≤ 4000000000000000000) (O : Own w base 46 1 v n (d.toList.map u16v)) : Ret Try.prog 134 #[v] w (fun v' w' => w.grownBy w' v.ownBlock ∧ v'.ownBlock = v.ownBlock ∧ Own w' base 46 1 v' (dd d.toList).length ((dd d.toList).map u16v)) := by
 have hb := grown_refl w v.ownBlock
 refine enter (N := 61) Try.func134 rfl rfl (by simp) fun a0 hN hd hA => ?_
 have s0 : a0.tmps.getD 0 undef = v := hA 0 (by simp)
 clear hA
 refine seq_any fun K1 hK1 => ?_
 refine one_reg ?_
 refine op_assign rfl ?_
 refine reg_nil ?_
 refine hK1 _ _ ?_
 refine seq_any fun K2 hK2 => ?_
 refine seq_any fun K3 hK3 => ?_
 refine one_reg ?_
 refine op_move (ev_base hN rfl s0) ?_
 refine op_len_rd Try.underlying45 (ev_hit hN rfl) O.rdw ?_
 refine op_lss (ev_hit hN rfl) rfl (fun c8 => ?_) (fun c8 => ?_)
 · -- 8T
  refine reg_nil ?_
  refine hK3 _ _ ?_
  refine wp_cond_true (ev_hit hN rfl) ?_
  refine seq_any fun K4 hK4 => ?_
  refine one_reg ?_
  refine op_move (ev_base hN rfl s0) ?_
  refine op_assign (ev_hit hN rfl) ?_
  refine reg_nil ?_
  refine hK4 _ _ ?_
  refine wp_ret (then_ret ( ?_))
  refine ret1 rfl hd (ev_hit hN rfl) ⟨_, rfl, ?_⟩
  -- path 8T
  have hzl : d.toList.length = n := by simp; assumption
  exact ⟨hb, rfl, by rw [dd_short (by omega), hzl]; exact O⟩
 · -- 8F
  refine reg_nil ?_
  refine hK3 _ _ ?_
  refine wp_cond_false (ev_hit hN rfl) ?_
  refine wp_skip ?_
  refine hK2 _ _ ?_
  refine seq_any fun K5 hK5 => ?_
  refine seq_any fun K6 hK6 => ?_
  refine one_reg ?_
  refine op_assign rfl ?_
  refine reg_nil ?_
  refine hK6 _ _ ?_
  refine wp_block ?_
  refine loop_m (fun mz_ az_ w' => ∃ (i : Nat), mz_ = (n + 1 - i) ∧ (az_.tmps.getD 0 undef = v) ∧ (az_.tmps.getD 3 undef = (Value.int .i64 ((i : Nat) : Int))) ∧ (1 ≤ i ∧ i ≤ n) ∧ (dd (d.toList.take i) = d.toList.take i) ∧ (w.grownBy w' v.ownBlock) ∧ (w.heap.size ≤ w'.heap.size) ∧ (Own w' base 46 1 v n (d.toList.map u16v))) _ hN hd ⟨1, rfl, (sl_base hN rfl s0), (sl_hit hN rfl).trans (congrArg (Value.int .i64) (by omega)), (by omega), (dd_one (by omega)), hb, (Nat.le_refl _), O⟩ ?_
  rintro _ a7 w7 hN7 hd7 ⟨i, rfl, s7_0, s7_3, hi, hsm, hb, zl_w7, O⟩
  have z_w7 := hb.size
  refine seq_any fun K8 hK8 => ?_
  refine seq_any fun K9 hK9 => ?_
  refine one_reg ?_
  refine op_move (ev_base hN7 rfl s7_3) ?_
  refine op_move (ev_base hN7 rfl s7_0) ?_
  refine op_len_rd Try.underlying45 (ev_hit hN7 rfl) O.rdw ?_
  refine op_lss (ev_hit hN7 rfl) (ev_hit hN7 rfl) (fun c13 => ?_) (fun c13 => ?_)
  · -- 13T
   refine reg_nil ?_
   refine hK9 _ _ ?_
   refine wp_cond_true (ev_hit hN7 rfl) ?_
   refine wp_skip ?_
   refine hK8 _ _ ?_
   refine seq_any fun K10 hK10 => ?_
   refine wp_block ?_
   refine seq_any fun K11 hK11 => ?_
   refine reg_still mixed (by kernel_rfl) ?_
   intro w13 E12
   have z_w13 := E12.size
   have O := O.keep0 E12
   have hb := grow_step0 hb E12
   refine st_step rfl (fun _ h9 => op_move (ev_base hN7 rfl s7_0) h9) ?_
   refine st_step rfl (fun _ h9 => op_move (ev_base hN7 rfl s7_3) h9) ?_
   refine st_index_rd slt45 (ev_hit hN7 rfl) O.rdw (ev_hit hN7 rfl) (by omega) (by omega) ?_
   intro b14 o15 h0b14 h1b14 hc16
   refine st_step rfl (fun _ h9 => op_load1 (v := (Value.int .u16 (d[i]!.toNat : Int))) one46 (ev_hit hN7 rfl) (by have := hc16 0 (Value.int .u16 (d[i]!.toNat : Int)) (by decide) (el_arr (i := i) (by omega) (by first | omega | (simp only [Array.size_setIfInBounds, swp_sz, siftDown_size]; omega))); simpa using this) h9) ?_
   refine st_step rfl (fun _ h9 => op_move (ev_base hN7 rfl s7_0) h9) ?_
   refine st_step rfl (fun _ h9 => op_move (ev_base hN7 rfl s7_3) h9) ?_
   refine st_step rfl (fun _ h9 => op_sub (ev_hit hN7 rfl) rfl (sub64 (by omega)) h9) ?_
   refine st_index_rd slt45 (ev_hit hN7 rfl) O.rdw (ev_hit hN7 rfl) (by omega) (by omega) ?_
   intro b17 o18 h0b17 h1b17 hc19
   refine st_step rfl (fun _ h9 => op_load1 (v := (Value.int .u16 (d[(i - 1)]!.toNat : Int))) one46 (ev_hit hN7 rfl) (by have := hc19 0 (Value.int .u16 (d[(i - 1)]!.toNat : Int)) (by decide) (el_arr (i := (i - 1)) (by omega) (by first | omega | (simp only [Array.size_setIfInBounds, swp_sz, siftDown_size]; omega))); simpa using this) h9) ?_
   refine st_step rfl (fun _ h9 => op_cmp (b := (decide ((d[i]!.toNat : Int) = (d[(i - 1)]!.toNat : Int)))) (ev_hit hN7 rfl) (ev_hit hN7 rfl) (b_eql rfl) h9) ?_
   refine st_nil ?_
   refine hK11 _ _ ?_
   refine wp_cond_split (ev_hit hN7 rfl) (fun c25 => ?_) (fun c25 => ?_)
   · -- 25T
    have c25 := of_decide_eq_true c25
    refine seq_any fun K20 hK20 => ?_
    refine one_reg ?_
    refine op_move (ev_base hN7 rfl s7_0) ?_
    refine op_move (ev_base hN7 rfl s7_3) ?_
    refine op_slice_tail (k := i) slt45 (ev_hit hN7 rfl) O.rdw (by omega) (ev_hit hN7 rfl) (by omega) ?_
    refine op_assign (ev_hit hN7 rfl) ?_
    refine reg_nil ?_
    refine hK20 _ _ ?_
    refine seq_any fun K21 hK21 => ?_
    refine seq_any fun K22 hK22 => ?_
    refine one_reg ?_
    refine op_assign rfl ?_
    refine reg_nil ?_
    refine hK22 _ _ ?_
    refine wp_block ?_
    refine loop_m (fun mz_ az_ w' => ∃ (k2 kk : Nat) (dk : Ar), mz_ = (n + 1 - k2) ∧ (az_.tmps.getD 0 undef = v) ∧ (az_.tmps.getD 4 undef = (tailV v i)) ∧ (az_.tmps.getD 5 undef = (Value.int .i64 ((k2 : Nat) : Int))) ∧ (az_.tmps.getD 3 undef = (Value.int .i64 ((kk : Nat) : Int))) ∧ (dk.size = n) ∧ (1 ≤ k2 ∧ i + k2 ≤ n ∧ 1 ≤ kk ∧ kk < i + k2) ∧ (dk.toList.take kk = dd (d.toList.take (i + k2))) ∧ (∀ j9, kk ≤ j9 → dk[j9]! = d[j9]!) ∧ (w.grownBy w' v.ownBlock) ∧ (w13.heap.size ≤ w'.heap.size) ∧ (Own w' base 46 1 v n (dk.toList.map u16v))) _ hN7 hd7 ⟨1, i, _, rfl, (sl_base hN7 rfl s7_0), (sl_hit hN7 rfl), (sl_hit hN7 rfl).trans (congrArg (Value.int .i64) (by omega)), (sl_base hN7 rfl s7_3).trans (congrArg (Value.int .i64) (by omega)), (by first | assumption | (simp only [Array.size_setIfInBounds, swp_sz, siftDown_size]; assumption)), (by omega), (by rw [dd_step (by omega) (by omega), if_pos (u16_eq c25).symm, hsm]), (fun _ _ => rfl), hb, (Nat.le_refl _), O⟩ ?_
    rintro _ a23 w23 hN23 hd23 ⟨k2, kk, dk, rfl, s23_0, s23_4, s23_5, s23_3, hdk, hr2, hdd, hsame, hb, zl_w23, hO24⟩
    have z_w23 := hb.size
    refine seq_any fun K25 hK25 => ?_
    refine seq_any fun K26 hK26 => ?_
    refine one_reg ?_
    refine op_move (ev_base hN23 rfl s23_5) ?_
    refine op_move (ev_base hN23 rfl s23_4) ?_
    refine op_len_rd Try.underlying45 (ev_hit hN23 rfl) (RdC.tail hO24.rdw (by omega) (by omega)) ?_
    refine op_lss (ev_hit hN23 rfl) (ev_hit hN23 rfl) (fun c32 => ?_) (fun c32 => ?_)
    · -- 32T
     refine reg_nil ?_
     refine hK26 _ _ ?_
     refine wp_cond_true (ev_hit hN23 rfl) ?_
     refine wp_skip ?_
     refine hK25 _ _ ?_
     refine seq_any fun K27 hK27 => ?_
     refine wp_block ?_
     refine seq_any fun K28 hK28 => ?_
     refine reg_still mixed (by kernel_rfl) ?_
     intro w30 E29
     have z_w30 := E29.size
     have hO24 := hO24.keep0 E29
     have hb := grow_step0 hb E29
     refine st_step rfl (fun _ h9 => op_move (ev_base hN23 rfl s23_4) h9) ?_
     refine st_step rfl (fun _ h9 => op_move (ev_base hN23 rfl s23_5) h9) ?_
     refine st_index_rd slt45 (ev_hit hN23 rfl) (RdC.tail hO24.rdw (by omega) (by omega)) (ev_hit hN23 rfl) (by omega) (by omega) ?_
     intro b31 o32 h0b31 h1b31 hc33
     refine st_step rfl (fun _ h9 => op_load1 (v := (Value.int .u16 (dk[i + k2]!.toNat : Int))) one46 (ev_hit hN23 rfl) (by have := hc33 0 (Value.int .u16 (dk[i + k2]!.toNat : Int)) (by decide) (el_arr_tail (i := k2) (by omega) (by omega)); simpa using this) h9) ?_
     refine st_step rfl (fun _ h9 => op_move (ev_base hN23 rfl s23_4) h9) ?_
     refine st_step rfl (fun _ h9 => op_move (ev_base hN23 rfl s23_5) h9) ?_
     refine st_step rfl (fun _ h9 => op_sub (ev_hit hN23 rfl) rfl (sub64 (by omega)) h9) ?_
     refine st_index_rd slt45 (ev_hit hN23 rfl) (RdC.tail hO24.rdw (by omega) (by omega)) (ev_hit hN23 rfl) (by omega) (by omega) ?_
     intro b34 o35 h0b34 h1b34 hc36
     refine st_step rfl (fun _ h9 => op_load1 (v := (Value.int .u16 (dk[i + (k2 - 1)]!.toNat : Int))) one46 (ev_hit hN23 rfl) (by have := hc36 0 (Value.int .u16 (dk[i + (k2 - 1)]!.toNat : Int)) (by decide) (el_arr_tail (i := (k2 - 1)) (by omega) (by omega)); simpa using this) h9) ?_
     refine st_step rfl (fun _ h9 => op_cmp (b := (decide ((dk[i + k2]!.toNat : Int) ≠ (dk[i + (k2 - 1)]!.toNat : Int)))) (ev_hit hN23 rfl) (ev_hit hN23 rfl) (b_neq rfl) h9) ?_
     refine st_nil ?_
     refine hK28 _ _ ?_
     refine wp_cond_split (ev_hit hN23 rfl) (fun c44 => ?_) (fun c44 => ?_)
     · -- 44T
      have c44 := of_decide_eq_true c44
      refine seq_any fun K37 hK37 => ?_
      refine one_reg ?_
      refine op_move (ev_base hN23 rfl s23_0) ?_
      refine op_move (ev_base hN23 rfl s23_3) ?_
      refine op_move (ev_base hN23 rfl s23_4) ?_
      refine op_move (ev_base hN23 rfl s23_5) ?_
      refine op_index_rd slt45 (ev_hit hN23 rfl) (RdC.tail hO24.rdw (by omega) (by omega)) (ev_hit hN23 rfl) (by omega) (by omega) ?_
      intro b38 o39 h0b38 h1b38 hc40
      refine op_load1 (v := (Value.int .u16 (dk[i + k2]!.toNat : Int))) one46 (ev_hit hN23 rfl) (by have := hc40 0 (Value.int .u16 (dk[i + k2]!.toNat : Int)) (by decide) (el_arr_tail (i := k2) (by omega) (by omega)); simpa using this) ?_
      refine op_index_own (i := kk) slt45 (ev_hit hN23 rfl) hO24 (ev_hit hN23 rfl) (by omega) (by omega) ?_
      intro b41 o42 lo_b41 hA43
      have hA43 : AtV v (kk) b41 o42 := by simpa using hA43
      have hP46 := hO24
      refine op_store_own (vs := [(Value.int .u16 (dk[i + k2]!.toNat : Int))]) size46 (ev_hit hN23 rfl) (ev_hit hN23 rfl) rfl rfl rfl hP46 hA43 (by have := hP46.1; simp; omega) ?_
      intro w44 hO47 E45
      have z_w44 := E45.size
      have hb := grow_stepX hb E45 rfl
      have hO47 : Own w44 base 46 1 v n (((dk.setIfInBounds kk dk[i + k2]!)).toList.map u16v) := by exact hO47.cast rfl (set_arr (by first | omega | (simp only [Array.size_setIfInBounds, swp_sz]; omega)))
      refine reg_nil ?_
      refine hK37 _ _ ?_
      refine one_reg ?_
      refine op_move (ev_base hN23 rfl s23_3) ?_
      refine op_add (ev_hit hN23 rfl) rfl (add64 (by omega)) ?_
      refine op_assign (ev_hit hN23 rfl) ?_
      refine reg_nil ?_
      refine hK27 _ _ ?_
      refine one_reg ?_
      refine op_move (ev_base hN23 rfl s23_5) ?_
      refine op_add (ev_hit hN23 rfl) rfl (add64 (by omega)) ?_
      refine op_assign (ev_hit hN23 rfl) ?_
      refine reg_nil ?_
      -- round 8F 13T 25T 32T 44T
      have hk5 := dd_keep (d := d) (dk := dk) (i := i + k2) (k := kk) (by omega) (by omega) (by omega) (by omega) hdd hsame (by rw [← hsame (i + k2) (by omega), ← hsame (i + k2 - 1) (by omega)]; intro e; apply c44; rw [show i + (k2 - 1) = i + k2 - 1 by omega, e])
      rw [← hsame (i + k2) (by omega)] at hk5
      exact loop_next _ hN23 hd23 ⟨(k2 + 1), (kk + 1), _, rfl, (sl_base hN23 rfl s23_0), (sl_base hN23 rfl s23_4), (sl_hit hN23 rfl).trans (congrArg (Value.int .i64) (by omega)), (sl_hit hN23 rfl).trans (congrArg (Value.int .i64) (by omega)), (by first | assumption | (simp only [Array.size_setIfInBounds, swp_sz, siftDown_size]; assumption)), (by omega), hk5.1, hk5.2, hb, (by omega), hO47⟩ (by omega)
     · -- 44F
      have c44 := of_decide_eq_false c44
      refine wp_skip ?_
      refine hK27 _ _ ?_
      refine one_reg ?_
      refine op_move (ev_base hN23 rfl s23_5) ?_
      refine op_add (ev_hit hN23 rfl) rfl (add64 (by omega)) ?_
      refine op_assign (ev_hit hN23 rfl) ?_
      refine reg_nil ?_
      -- round 8F 13T 25T 32T 44F
      have hk5 := hdd
      exact loop_next _ hN23 hd23 ⟨(k2 + 1), kk, _, rfl, (sl_base hN23 rfl s23_0), (sl_base hN23 rfl s23_4), (sl_hit hN23 rfl).trans (congrArg (Value.int .i64) (by omega)), (sl_base hN23 rfl s23_3).trans (congrArg (Value.int .i64) (by omega)), (by first | assumption | (simp only [Array.size_setIfInBounds, swp_sz, siftDown_size]; assumption)), (by omega), (hdd.trans (by rw [← Nat.add_assoc, dd_step (by omega) (by omega), if_pos]; rw [← hsame (i + k2) (by omega), ← hsame (i + k2 - 1) (by omega), show i + k2 - 1 = i + (k2 - 1) by omega]; exact (u16_eq (Decidable.not_not.1 c44)).symm)), hsame, hb, (by omega), hO24⟩ (by omega)
    · -- 32F
     refine reg_nil ?_
     refine hK26 _ _ ?_
     refine wp_cond_false (ev_hit hN23 rfl) ?_
     refine wp_exit (then_exit (then_exit (blk_hit ?_)))
     refine hK21 _ _ ?_
     refine seq_any fun K48 hK48 => ?_
     refine one_reg ?_
     refine op_move (ev_base hN23 rfl s23_0) ?_
     refine op_move (ev_base hN23 rfl s23_3) ?_
     refine op_slice_tail (k := kk) slt45 (ev_hit hN23 rfl) hO24.rdw (by omega) (ev_hit hN23 rfl) (by omega) ?_
     refine op_clear_tail slt45 rfl rfl (ev_hit hN23 rfl) hO24 (by omega) ?_
     intro w49 hO50 E51
     have z_w49 := E51.size
     have hb := grow_stepX hb E51 rfl
     have hO50 : Own w49 base 46 1 v n ((clr dk kk).toList.map u16v) := hO50.cast rfl (clr_cs (by assumption))
     refine reg_nil ?_
     refine hK48 _ _ ?_
     refine seq_any fun K52 hK52 => ?_
     refine one_reg ?_
     refine op_move (ev_base hN23 rfl s23_0) ?_
     refine op_move (ev_base hN23 rfl s23_3) ?_
     have hfull : d.toList.take (i + k2) = d.toList := by rw [List.take_of_length_le]; simp; omega
     have hD : dk.toList.take kk = dd d.toList := by rw [hdd, hfull]
     have hDl : (dd d.toList).length = kk := by rw [← hD]; simp; omega
     refine op_slice_own_hi (m := kk) slt45 (ev_hit hN23 rfl) hO50 (ev_hit hN23 rfl) (by omega) (by omega) ?_
     intro v53 hO54 ho55
     have hO54 : Own w49 base 46 1 v53 kk (((dd d.toList)).map u16v) := by (simp only [Nat.mul_one] at hO54; rw [← List.map_take, clr_take (by omega), hD] at hO54; exact hO54)
     refine op_assign (ev_hit hN23 rfl) ?_
     refine reg_nil ?_
     refine hK52 _ _ ?_
     refine wp_ret (blk_ret (then_ret (then_ret (blk_ret (then_ret ( ?_))))))
     refine ret1 rfl hd23 (ev_hit hN23 rfl) ⟨_, rfl, ?_⟩
     -- path 8F 13T 25T 32F
     exact ⟨hb, (ho55.trans rfl), by rw [hDl]; exact hO54⟩
   · -- 25F
    have c25 := of_decide_eq_false c25
    refine wp_skip ?_
    refine hK10 _ _ ?_
    refine one_reg ?_
    refine op_move (ev_base hN7 rfl s7_3) ?_
    refine op_add (ev_hit hN7 rfl) rfl (add64 (by omega)) ?_
    refine op_assign (ev_hit hN7 rfl) ?_
    refine reg_nil ?_
    -- round 8F 13T 25F
    exact loop_next _ hN7 hd7 ⟨(i + 1), rfl, (sl_base hN7 rfl s7_0), (sl_hit hN7 rfl).trans (congrArg (Value.int .i64) (by omega)), (by omega), (dd_same (by omega) (by omega) hsm (fun e => c25 (by rw [e]))), hb, (by omega), O⟩ (by omega)
  · -- 13F
   refine reg_nil ?_
   refine hK9 _ _ ?_
   refine wp_cond_false (ev_hit hN7 rfl) ?_
   refine wp_exit (then_exit (then_exit (blk_hit ?_)))
   refine hK5 _ _ ?_
   refine seq_any fun K56 hK56 => ?_
   refine one_reg ?_
   refine op_move (ev_base hN7 rfl s7_0) ?_
   refine op_assign (ev_hit hN7 rfl) ?_
   refine reg_nil ?_
   refine hK56 _ _ ?_
   refine wp_ret ?_
   refine ret1 rfl hd7 (ev_hit hN7 rfl) ⟨_, rfl, ?_⟩
   -- path 8F 13F
   have hzl : d.toList.length = n := by simp; assumption
   exact ⟨hb, rfl, by rw [dd_full (n := n) (by assumption) (by rw [show n = i by omega]; exact hsm), hzl]; exact O⟩

end Go.Proofs.Ytmhdbphpmgjpcaa

/- Walks, written by a program: what each function of the translation hands back. -/
namespace Go.Proofs.Ytmhdbphpmgjpcaa
open Go.Gx Go.RowKit
attribute [local irreducible] wpList wpStill Code.wp Calls
open Go.Sort (insertionSort insOuter insInner swp siftDown heapSort heapBuild heapPop scanUp scanDown partition partLoop partitionEqual partEqLoop scanSorted partialIns bitsLen partialInsertionSort shiftDown shiftUp SortedIn reverseRange reverseLoop fixDown fixUp)
theorem cloneW_ret (l : Lb) (v : Value) (w : World) (hz : l.length ≤ 1000000000000) (hl : RdC w 0 w.heap.size 1 v l.length (l.map u16v)) : Ret Try.prog 132 #[v] w (fun v' w' => Below w.heap.size w w' ∧ Own w' w.heap.size 46 1 v' l.length (l.map u16v)) := by
 have hb := Below.refl w.heap.size w
 refine enter (N := 8) Try.func132 rfl rfl (by simp) fun a0 hN hd hA => ?_
 have s0 : a0.tmps.getD 0 undef = v := hA 0 (by simp)
 clear hA
 refine seq_any fun K1 hK1 => ?_
 refine one_reg ?_
 refine op_assign rfl ?_
 refine reg_nil ?_
 refine hK1 _ _ ?_
 refine seq_any fun K2 hK2 => ?_
 refine seq_any fun K3 hK3 => ?_
 refine one_reg ?_
 refine op_move (ev_base hN rfl s0) ?_
 refine op_eql_nil slt45 (ev_hit hN rfl) rfl hl (fun c4 => ?_) ?_
 · -- 4T
  refine reg_nil ?_
  refine hK3 _ _ ?_
  refine wp_cond_true (ev_hit hN rfl) ?_
  refine seq_any fun K4 hK4 => ?_
  refine one_reg ?_
  refine op_assign rfl ?_
  refine reg_nil ?_
  refine hK4 _ _ ?_
  refine wp_ret (then_ret ( ?_))
  refine ret1 rfl hd (ev_hit hN rfl) ⟨_, rfl, ?_⟩
  -- path 4T
  exact ⟨hb, by rw [List.length_eq_zero_iff.1 c4]; exact Own.nil _ _ _ _⟩
 · -- 4F
  refine reg_nil ?_
  refine hK3 _ _ ?_
  refine wp_cond_false (ev_hit hN rfl) ?_
  refine wp_skip ?_
  refine hK2 _ _ ?_
  refine seq_any fun K5 hK5 => ?_
  refine one_reg ?_
  refine op_bslice (e := 46) (pv := []) (cs := []) trivial (by kernel_rfl) ?_
  intro w6 b7 lo_b7 hi_b7 hB9 E8
  have z_w6 := E8.size
  have hl := hl.keep0 E8
  have hb := below_step0 hb E8 hb.size
  refine op_move (ev_base hN rfl s0) ?_
  have hP15 := (Own.ofBx (base := w.heap.size) (sz := 1) (n := 0) hB9 rfl (by decide) (by omega))
  refine op_append slt45 (ev_hit hN rfl) hP15 (ev_hit hN rfl) (Src.ofRd Try.underlying45 (by decide) hl (one_u16 _)) (by unfold maxLen; omega) (by omega) hb.size ?_
  intro v10 w11 hO13 E12 hm14
  have z_w11 := E12.size
  have hl := hl.keepO hP15 E12 (by omega)
  have hb := below_stepO hb hP15 E12 hb.size (by omega)
  have hO13 : Own w11 w.heap.size 46 1 v10 (0 + l.length) ((l).map u16v) := by simpa [u8v, u16v, cellsV] using hO13
  refine op_assign (ev_hit hN rfl) ?_
  refine reg_nil ?_
  refine hK5 _ _ ?_
  refine wp_ret ?_
  refine ret1 rfl hd (ev_hit hN rfl) ⟨_, rfl, ?_⟩
  -- path 4F
  exact ⟨hb, hO13.cast (by simp) (by simp)⟩

theorem sortW_ret (d : Ar) (v : Value) (n base : Nat) (z0 : Nat) (w : World) (hd : d.size = n) (hn : n ≤ 4000000000000000000) (O : Own w base 46 1 v n (d.toList.map u16v)) : Ret Try.prog 133 #[v] w (fun v' w' => w.grownBy w' v.ownBlock ∧ v' = .tuple #[] ∧ ∃ d', PI 0 n d d' ∧ SortedIn ltT 0 n d' ∧ Own w' base 46 1 v n (d'.toList.map u16v)) := by
 have hb := grown_refl w v.ownBlock
 refine enter (N := 11) Try.func133 rfl rfl (by simp) fun a0 hN hd hA => ?_
 have s0 : a0.tmps.getD 0 undef = v := hA 0 (by simp)
 clear hA
 refine seq_any fun K16 hK16 => ?_
 refine one_reg ?_
 refine op_move (ev_base hN rfl s0) ?_
 refine op_len_rd Try.underlying45 (ev_hit hN rfl) O.rdw ?_
 refine op_assign (ev_hit hN rfl) ?_
 refine reg_nil ?_
 refine hK16 _ _ ?_
 refine one_reg ?_
 refine op_move (ev_base hN rfl s0) ?_
 refine op_move (ev_hit hN rfl) ?_
 refine op_move (ev_hit hN rfl) ?_
 refine op_conv (r := ((n : Nat) : Int)) (ev_hit hN rfl) us3 Try.underlying184 (wrap_u64 (by omega)) ?_
 have hbl : bitsLen n ≤ 62 := (Go.Sort.bitsLen_le_iff n 62).2 (by omega)
 refine op_fn (vs := [(Value.int .u64 ((n : Nat) : Int))]) ok148 ⟨(ev_hit hN rfl), trivial⟩ (lenW_ret n _ (by omega)) ?_
 rintro _ w17 ⟨E18, rfl⟩
 have E18 := grown_of_below E18
 have z_w17 := E18.size
 have O := O.keep0 E18
 have hb := grow_step0 hb E18
 refine op_fn (vs := [v, (Value.int .i64 0), (Value.int .i64 ((n : Nat) : Int)), (Value.int .i64 (((bitsLen n) : Nat) : Int))]) ok147 ⟨(ev_hit hN rfl), ⟨rfl, ⟨(ev_hit hN rfl), ⟨(ev_hit hN rfl), trivial⟩⟩⟩⟩ (pdqW_ret d _ _ _ 0 n ((bitsLen n)) _ (by first | assumption | (simp only [Array.size_setIfInBounds, swp_sz, siftDown_size]; assumption)) (by omega) (by omega) (by omega) (by omega) (.inl rfl) O) ?_
 rintro _ w20 ⟨E21, rfl, dd19, hpi19, hso19, hO19⟩
 have z_w20 := E21.size
 have hb := grow_stepX hb E21 rfl
 refine reg_nil ?_
 refine end_ret ?_
 refine ret0 rfl hd  ⟨_, rfl, ?_⟩
 -- path
 exact ⟨hb, rfl, _, hpi19, hso19, hO19⟩

theorem sortedW_ret (l : Lb) (v : Value) (w : World) (hz : l.length ≤ 1000000000000) (hl : RdC w 0 w.heap.size 1 v l.length (l.map u16v)) : Ret Try.prog 116 #[v] w (fun v' w' => Below w.heap.size w w' ∧ Own w' w.heap.size 46 1 v' (nrm l).length ((nrm l).map u16v)) := by
 have hb := Below.refl w.heap.size w
 refine enter (N := 10) Try.func116 rfl rfl (by simp) fun a0 hN hd hA => ?_
 have s0 : a0.tmps.getD 0 undef = v := hA 0 (by simp)
 clear hA
 refine seq_any fun K22 hK22 => ?_
 refine one_reg ?_
 refine op_assign rfl ?_
 refine reg_nil ?_
 refine hK22 _ _ ?_
 refine seq_any fun K23 hK23 => ?_
 refine one_reg ?_
 refine op_move (ev_base hN rfl s0) ?_
 refine op_fn (vs := [v]) ok132 ⟨(ev_hit hN rfl), trivial⟩ (cloneW_ret l _ _ (by omega) (show RdC w 0 w.heap.size 1 v l.length (l.map u16v) from by have hh : RdC w 0 w.heap.size 1 _ _ _ := (hl.mono (L' := 0) (B' := w.heap.size) (Nat.zero_le _) (by omega)); first | exact hh | exact hh.cast (by first | omega | (simp; try omega)) (by first | rfl | simp [u16v]))) ?_
 rintro v24 w25 ⟨E26, hO24⟩
 have E26 := grown_of_below E26
 have z_w25 := E26.size
 have hl := hl.keep0 E26
 have hb := below_step0 hb E26 hb.size
 have hO24 := hO24.mono (base' := w.heap.size) (by omega)
 refine op_assign (ev_hit hN rfl) ?_
 refine reg_nil ?_
 refine hK23 _ _ ?_
 refine seq_any fun K27 hK27 => ?_
 refine one_reg ?_
 refine op_move (ev_hit hN rfl) ?_
 refine op_fn (vs := [v24]) ok133 ⟨(ev_hit hN rfl), trivial⟩ (sortW_ret l.toArray _ l.length _ 0 _ (by simp) (by omega) hO24) ?_
 rintro _ w29 ⟨E30, rfl, dd28, hpi28, hso28, hO28⟩
 have z_w29 := E30.size
 have hl := hl.keepO hO24 E30 (by omega)
 have hb := below_stepO hb hO24 E30 hb.size (by omega)
 have hsn : dd dd28.toList = nrm l := sort_nrm (by simp) hpi28 hso28
 have hsz : dd28.size = l.length := (PI.sz hpi28).trans (by simp)
 refine reg_nil ?_
 refine hK27 _ _ ?_
 refine seq_any fun K31 hK31 => ?_
 refine one_reg ?_
 refine op_move (ev_hit hN rfl) ?_
 refine op_fn (vs := [v24]) ok134 ⟨(ev_hit hN rfl), trivial⟩ (compW_ret dd28 _ l.length _ 0 _ (by first | assumption | (simp only [Array.size_setIfInBounds, swp_sz, siftDown_size]; assumption)) (by omega) hO28) ?_
 rintro v32 w33 ⟨E34, hob32, hO32⟩
 have z_w33 := E34.size
 have hl := hl.keepO hO28 E34 (by omega)
 have hb := below_stepO hb hO28 E34 hb.size (by omega)
 refine op_assign (ev_hit hN rfl) ?_
 refine reg_nil ?_
 refine hK31 _ _ ?_
 refine wp_ret ?_
 refine ret1 rfl hd (ev_hit hN rfl) ⟨_, rfl, ?_⟩
 -- path
 rw [hsn] at hO32
 exact ⟨hb, hO32⟩

end Go.Proofs.Ytmhdbphpmgjpcaa

/- Walks, written by a program: what each function of the translation hands back. -/
namespace Go.Proofs.Ytmhdbphpmgjpcaa
open Go.Gx Go.RowKit
attribute [local irreducible] wpList wpStill Code.wp Calls

theorem CloneL (l : List UInt16) (v : Value) (w : World) (hz : l.length ≤ 1000000000000) (hl : RdC w 0 w.heap.size 1 v l.length (l.map u16v)) : Ret Try.prog 77 #[v] w (fun v' w' => Below w.heap.size w w' ∧ Own w' w.heap.size 46 1 v' l.length (l.map u16v)) := by
 have hb := Below.refl w.heap.size w
 refine enter (N := 8) Try.func77 rfl rfl (by simp) fun a0 hN hd hA => ?_
 have s0 : a0.tmps.getD 0 undef = v := hA 0 (by simp)
 clear hA
 refine seq_any fun K1 hK1 => ?_
 refine one_reg ?_
 refine op_assign rfl ?_
 refine reg_nil ?_
 refine hK1 _ _ ?_
 refine seq_any fun K2 hK2 => ?_
 refine seq_any fun K3 hK3 => ?_
 refine one_reg ?_
 refine op_move (ev_base hN rfl s0) ?_
 refine op_eql_nil slt54 (ev_hit hN rfl) rfl hl (fun c4 => ?_) ?_
 · -- 4T
  refine reg_nil ?_
  refine hK3 _ _ ?_
  refine wp_cond_true (ev_hit hN rfl) ?_
  refine seq_any fun K4 hK4 => ?_
  refine one_reg ?_
  refine op_assign rfl ?_
  refine reg_nil ?_
  refine hK4 _ _ ?_
  refine wp_ret (then_ret ( ?_))
  refine ret1 rfl hd (ev_hit hN rfl) ⟨_, rfl, ?_⟩
  -- path 4T
  exact ⟨hb, by rw [List.length_eq_zero_iff.1 c4]; exact Own.nil _ _ _ _⟩
 · -- 4F
  refine reg_nil ?_
  refine hK3 _ _ ?_
  refine wp_cond_false (ev_hit hN rfl) ?_
  refine wp_skip ?_
  refine hK2 _ _ ?_
  refine seq_any fun K5 hK5 => ?_
  refine one_reg ?_
  refine op_bslice (e := 46) (pv := []) (cs := []) trivial (by kernel_rfl) ?_
  intro w6 b7 lo_b7 hi_b7 hB9 E8
  have z_w6 := E8.size
  have hl := hl.keep0 E8
  have hb := below_step0 hb E8 hb.size
  refine op_move (ev_base hN rfl s0) ?_
  have hP15 := (Own.ofBx (base := w.heap.size) (sz := 1) (n := 0) hB9 rfl (by decide) (by omega))
  refine op_append slt54 (ev_hit hN rfl) hP15 (ev_hit hN rfl) (Src.ofRd Try.underlying54 (by decide) hl (one_u16 _)) (by unfold maxLen; omega) (by omega) hb.size ?_
  intro v10 w11 hO13 E12 hm14
  have z_w11 := E12.size
  have hl := hl.keepO hP15 E12 (by omega)
  have hb := below_stepO hb hP15 E12 hb.size (by omega)
  have hO13 : Own w11 w.heap.size 46 1 v10 (0 + l.length) ((l).map u16v) := by simpa [u8v, u16v, sv] using hO13
  refine op_assign (ev_hit hN rfl) ?_
  refine reg_nil ?_
  refine hK5 _ _ ?_
  refine wp_ret ?_
  refine ret1 rfl hd (ev_hit hN rfl) ⟨_, rfl, ?_⟩
  -- path 4F
  exact ⟨hb, hO13.cast (by simp) (by simp)⟩

theorem Sessions_ret {C : List KC} {n k m base : Nat} {lv : Value} {w : World} (hbase : base ≤ w.heap.size) (hn : n ≤ 6) (hC : C.length = n) (hx : Bx w k 134 [lv, .map (some m)]) (O : Own w base 137 3 lv n (C.flatMap cellsK)) : Ret Try.prog 49 #[(ptr k 0)] w (fun v' w' => v' = .int .i64 ((n : Nat) : Int) ∧ w' = w) := by
 have hb := Below.refl w.heap.size w
 refine enter (N := 10) Try.func49 rfl rfl (by simp) fun a0 hN hd hA => ?_
 have s0 : a0.tmps.getD 0 undef = (ptr k 0) := hA 0 (by simp)
 clear hA
 refine seq_any fun K16 hK16 => ?_
 refine one_reg ?_
 refine op_assign rfl ?_
 refine reg_nil ?_
 refine hK16 _ _ ?_
 refine seq_any fun K17 hK17 => ?_
 refine seq_any fun K18 hK18 => ?_
 refine one_reg ?_
 refine op_move (ev_base hN rfl s0) ?_
 refine op_peq_some ptrt50 (ev_hit hN rfl) rfl ?_
 refine reg_nil ?_
 refine hK18 _ _ ?_
 refine wp_cond_false (ev_hit hN rfl) ?_
 refine wp_skip ?_
 refine hK17 _ _ ?_
 refine seq_any fun K19 hK19 => ?_
 refine one_reg ?_
 refine op_move (ev_base hN rfl s0) ?_
 refine op_nil (ev_hit hN rfl) ?_
 refine op_field fld134_0 (ev_hit hN rfl) ?_
 refine op_load1 (v := lv) one132 (ev_hit hN rfl) (hx.cell rfl) ?_
 refine op_len_rd Try.underlying132 (ev_hit hN rfl) O.rdw ?_
 refine op_assign (ev_hit hN rfl) ?_
 refine reg_nil ?_
 refine hK19 _ _ ?_
 refine wp_ret ?_
 refine ret1 rfl hd (ev_hit hN rfl) ⟨_, rfl, ?_⟩
 -- path
 exact ⟨rfl, rfl⟩

theorem Label1_ret {C : List KC} {n i k m p base : Nat} {lv la ow : Value} {l o : List UInt16} {T : List (List UInt8)} {Fi : Nat → Prop} {w : World} (hbase : base ≤ w.heap.size) (hn : n ≤ 6) (hi : i < n) (hc : C.length = n ∧ C.getD i default = ⟨la, ow, p, Fi⟩) (hx : Bx w k 134 [lv, .map (some m)]) (O : Own w base 137 3 lv n (C.flatMap cellsK)) (hL : Own w base 46 1 la l.length (l.map u16v)) (hW : Own w base 46 1 ow o.length (o.map u16v)) (hQ : PostS w base p 16 T Fi) {LL BB pb po : Nat} (hP : PtC w LL BB pb po [la, ow, ptr p 0]) (hll : l.length ≤ 100) : Ret Try.prog 82 #[(ptr pb po)] w (fun v' w' => Below w.heap.size w w' ∧ Own w' w.heap.size 46 1 v' l.length (l.map u16v)) := by
 have dk0 : ¬ Fi k := hQ.notBx hx (by decide) (by decide)
 have dlv0 : Dj (Bl lv) Fi := hQ.notOwn O (by decide) (by decide)
 have dla0 : Dj (Bl la) Fi := hQ.notOwn hL (by decide) (by decide)
 have dow0 : Dj (Bl ow) Fi := hQ.notOwn hW (by decide) (by decide)
 have hb := Below.refl w.heap.size w
 refine enter (N := 8) Try.func82 rfl rfl (by simp) fun a0 hN hd hA => ?_
 have s0 : a0.tmps.getD 0 undef = (ptr pb po) := hA 0 (by simp)
 clear hA
 refine seq_any fun K24 hK24 => ?_
 refine one_reg ?_
 refine op_assign rfl ?_
 refine reg_nil ?_
 refine hK24 _ _ ?_
 refine seq_any fun K25 hK25 => ?_
 refine one_reg ?_
 refine op_move (ev_base hN rfl s0) ?_
 refine op_nil (ev_hit hN rfl) ?_
 refine op_field fld137_0 (ev_hit hN rfl) ?_
 refine op_load1 (v := la) one54 (ev_hit hN rfl) (hP.2.2 0 _ rfl) ?_
 refine op_fn (vs := [la]) ok77 ⟨(ev_hit hN rfl), trivial⟩ (CloneL l _ _ (by omega) (hL.rdw.mono (Nat.zero_le _) (by omega))) ?_
 rintro v26 w27 ⟨E28, hO26⟩
 have dj29 : DJ v26 la := fun k hk hg => by have q1 := (hO26.lt k hk).1; have q2 := (hL.lt k hg).2; omega
 have dj30 : DJ v26 ow := fun k hk hg => by have q1 := (hO26.lt k hk).1; have q2 := (hW.lt k hg).2; omega
 have dj31 : Dj Fi (Bl v26) := Dj.fresh (fun k hk => (hQ.lt k hk).2) (fun k hk => (hO26.lt k hk).1)
 have E28 := grown_of_below E28
 have z_w27 := E28.size
 have hx := hx.keep0 E28
 have O := O.keep0 E28
 have hL := hL.keep0 E28
 have hW := hW.keep0 E28
 have hQ := hQ.keepG (Gr.of0 E28 NoB) (fun _ _ h => h)
 have hP := hP.keep0 E28
 have hb := below_step0 hb E28 hb.size
 have hO26 := hO26.mono (base' := w.heap.size) (by omega)
 refine op_assign (ev_hit hN rfl) ?_
 refine reg_nil ?_
 refine hK25 _ _ ?_
 refine wp_ret ?_
 refine ret1 rfl hd (ev_hit hN rfl) ⟨_, rfl, ?_⟩
 -- path
 exact ⟨hb, hO26⟩

theorem Owns1_ret {C : List KC} {n i k m p base : Nat} {lv la ow : Value} {l o : List UInt16} {T : List (List UInt8)} {Fi : Nat → Prop} {w : World} (hbase : base ≤ w.heap.size) (hn : n ≤ 6) (hi : i < n) (hc : C.length = n ∧ C.getD i default = ⟨la, ow, p, Fi⟩) (hx : Bx w k 134 [lv, .map (some m)]) (O : Own w base 137 3 lv n (C.flatMap cellsK)) (hL : Own w base 46 1 la l.length (l.map u16v)) (hW : Own w base 46 1 ow o.length (o.map u16v)) (hQ : PostS w base p 16 T Fi) {LL BB pb po : Nat} (hP : PtC w LL BB pb po [la, ow, ptr p 0]) (hll : o.length ≤ 100) : Ret Try.prog 83 #[(ptr pb po)] w (fun v' w' => Below w.heap.size w w' ∧ Own w' w.heap.size 46 1 v' o.length (o.map u16v)) := by
 have dk0 : ¬ Fi k := hQ.notBx hx (by decide) (by decide)
 have dlv0 : Dj (Bl lv) Fi := hQ.notOwn O (by decide) (by decide)
 have dla0 : Dj (Bl la) Fi := hQ.notOwn hL (by decide) (by decide)
 have dow0 : Dj (Bl ow) Fi := hQ.notOwn hW (by decide) (by decide)
 have hb := Below.refl w.heap.size w
 refine enter (N := 8) Try.func83 rfl rfl (by simp) fun a0 hN hd hA => ?_
 have s0 : a0.tmps.getD 0 undef = (ptr pb po) := hA 0 (by simp)
 clear hA
 refine seq_any fun K32 hK32 => ?_
 refine one_reg ?_
 refine op_assign rfl ?_
 refine reg_nil ?_
 refine hK32 _ _ ?_
 refine seq_any fun K33 hK33 => ?_
 refine one_reg ?_
 refine op_move (ev_base hN rfl s0) ?_
 refine op_nil (ev_hit hN rfl) ?_
 refine op_field fld137_1 (ev_hit hN rfl) ?_
 refine op_load1 (v := ow) one54 (ev_hit hN rfl) (hP.2.2 1 _ rfl) ?_
 refine op_fn (vs := [ow]) ok77 ⟨(ev_hit hN rfl), trivial⟩ (CloneL o _ _ (by omega) (hW.rdw.mono (Nat.zero_le _) (by omega))) ?_
 rintro v34 w35 ⟨E36, hO34⟩
 have dj37 : DJ v34 la := fun k hk hg => by have q1 := (hO34.lt k hk).1; have q2 := (hL.lt k hg).2; omega
 have dj38 : DJ v34 ow := fun k hk hg => by have q1 := (hO34.lt k hk).1; have q2 := (hW.lt k hg).2; omega
 have dj39 : Dj Fi (Bl v34) := Dj.fresh (fun k hk => (hQ.lt k hk).2) (fun k hk => (hO34.lt k hk).1)
 have E36 := grown_of_below E36
 have z_w35 := E36.size
 have hx := hx.keep0 E36
 have O := O.keep0 E36
 have hL := hL.keep0 E36
 have hW := hW.keep0 E36
 have hQ := hQ.keepG (Gr.of0 E36 NoB) (fun _ _ h => h)
 have hP := hP.keep0 E36
 have hb := below_step0 hb E36 hb.size
 have hO34 := hO34.mono (base' := w.heap.size) (by omega)
 refine op_assign (ev_hit hN rfl) ?_
 refine reg_nil ?_
 refine hK33 _ _ ?_
 refine wp_ret ?_
 refine ret1 rfl hd (ev_hit hN rfl) ⟨_, rfl, ?_⟩
 -- path
 exact ⟨hb, hO34⟩

theorem Wait1_ret {C : List KC} {n i k m p base : Nat} {lv la ow : Value} {l o : List UInt16} {T : List (List UInt8)} {Fi : Nat → Prop} {w : World} (hbase : base ≤ w.heap.size) (hn : n ≤ 6) (hi : i < n) (hc : C.length = n ∧ C.getD i default = ⟨la, ow, p, Fi⟩) (hx : Bx w k 134 [lv, .map (some m)]) (O : Own w base 137 3 lv n (C.flatMap cellsK)) (hL : Own w base 46 1 la l.length (l.map u16v)) (hW : Own w base 46 1 ow o.length (o.map u16v)) (hQ : PostS w base p 16 T Fi) {LL BB pb po : Nat} (hP : PtC w LL BB pb po [la, ow, ptr p 0]) : Ret Try.prog 85 #[(ptr pb po)] w (fun v' w' => Below w.heap.size w w' ∧ v' = .int .i64 ((T.length : Nat) : Int)) := by
 have dk0 : ¬ Fi k := hQ.notBx hx (by decide) (by decide)
 have dlv0 : Dj (Bl lv) Fi := hQ.notOwn O (by decide) (by decide)
 have dla0 : Dj (Bl la) Fi := hQ.notOwn hL (by decide) (by decide)
 have dow0 : Dj (Bl ow) Fi := hQ.notOwn hW (by decide) (by decide)
 have hb := Below.refl w.heap.size w
 refine enter (N := 8) Try.func85 rfl rfl (by simp) fun a0 hN hd hA => ?_
 have s0 : a0.tmps.getD 0 undef = (ptr pb po) := hA 0 (by simp)
 clear hA
 refine seq_any fun K40 hK40 => ?_
 refine one_reg ?_
 refine op_assign rfl ?_
 refine reg_nil ?_
 refine hK40 _ _ ?_
 refine seq_any fun K41 hK41 => ?_
 refine one_reg ?_
 refine op_move (ev_base hN rfl s0) ?_
 refine op_nil (ev_hit hN rfl) ?_
 refine op_field fld137_2 (ev_hit hN rfl) ?_
 refine op_load1 (v := (ptr p 0)) one24 (ev_hit hN rfl) (hP.2.2 2 _ rfl) ?_
 refine op_fn (vs := [(ptr p 0)]) ok23 ⟨(ev_hit hN rfl), trivial⟩ (LenR_s (by omega) hQ) ?_
 rintro _ w43 ⟨E44, rfl⟩
 have E44 := grown_of_below E44
 have z_w43 := E44.size
 have hx := hx.keep0 E44
 have O := O.keep0 E44
 have hL := hL.keep0 E44
 have hW := hW.keep0 E44
 have hQ := hQ.keepG (Gr.of0 E44 NoB) (fun _ _ h => h)
 have hP := hP.keep0 E44
 have hb := below_step0 hb E44 hb.size
 refine op_assign (ev_hit hN rfl) ?_
 refine reg_nil ?_
 refine hK41 _ _ ?_
 refine wp_ret ?_
 refine ret1 rfl hd (ev_hit hN rfl) ⟨_, rfl, ?_⟩
 -- path
 exact ⟨hb, rfl⟩

theorem Head1_ret {bb : Nat} {C : List KC} {n i k m p base : Nat} {lv la ow : Value} {l o : List UInt16} {T : List (List UInt8)} {Fi : Nat → Prop} {w : World} (hbase : base ≤ w.heap.size) (hn : n ≤ 6) (hi : i < n) (hc : C.length = n ∧ C.getD i default = ⟨la, ow, p, Fi⟩) (hx : Bx w k 134 [lv, .map (some m)]) (O : Own w base 137 3 lv n (C.flatMap cellsK)) (hL : Own w base 46 1 la l.length (l.map u16v)) (hW : Own w base 46 1 ow o.length (o.map u16v)) (hQ : PostS w base p 16 T Fi) {LL BB pb po : Nat} (hP : PtC w LL BB pb po [la, ow, ptr p 0]) (hbf : ¬ Fi bb) (hbk : bb ≠ k) (hbb : Bx w bb 4 [.bool false]) : Ret Try.prog 87 #[(ptr pb po), (ptr bb 0)] w (fun v' w' => Gr w w' (fun x => Fi x ∨ x = bb) ∧ v' = .string (bs (T.getD 0 [])) ∧ Bx w' bb 4 [.bool (decide (0 < T.length))] ∧ ∃ F', PostS w' base p 16 T F' ∧ NewF w.heap.size Fi F') := by
 have dk0 : ¬ Fi k := hQ.notBx hx (by decide) (by decide)
 have dlv0 : Dj (Bl lv) Fi := hQ.notOwn O (by decide) (by decide)
 have dla0 : Dj (Bl la) Fi := hQ.notOwn hL (by decide) (by decide)
 have dow0 : Dj (Bl ow) Fi := hQ.notOwn hW (by decide) (by decide)
 have hb := Gr.refl w (fun x => Fi x ∨ x = bb)
 refine enter (N := 14) Try.func87 rfl rfl (by simp) fun a0 hN hd hA => ?_
 have s0 : a0.tmps.getD 0 undef = (ptr pb po) := hA 0 (by simp)
 have s1 : a0.tmps.getD 1 undef = (ptr bb 0) := hA 1 (by simp)
 clear hA
 refine seq_any fun K59 hK59 => ?_
 refine one_reg ?_
 refine op_assign rfl ?_
 refine reg_nil ?_
 refine hK59 _ _ ?_
 refine seq_any fun K60 hK60 => ?_
 refine one_reg ?_
 refine op_assign rfl ?_
 refine reg_nil ?_
 refine hK60 _ _ ?_
 refine seq_any fun K61 hK61 => ?_
 refine one_reg ?_
 refine op_move (ev_base hN rfl s0) ?_
 refine op_nil (ev_hit hN rfl) ?_
 refine op_field fld137_2 (ev_hit hN rfl) ?_
 refine op_load1 (v := (ptr p 0)) one24 (ev_hit hN rfl) (hP.2.2 2 _ rfl) ?_
 refine op_fn (vs := [(ptr p 0)]) ok19 ⟨(ev_hit hN rfl), trivial⟩ (HeadR_s (by omega) hQ) ?_
 rintro _ w63 ⟨E64, rfl, F62, hp62, hN62⟩
 have bd65 := hx.lt
 have bd66 := O.lt
 have bd67 := hL.lt
 have bd68 := hW.lt
 have bd69 := hbb.lt
 have hQ_old := hQ
 have z_w63 := E64.size
 have hx := hx.keepG E64 dk0
 have O := O.keepG E64 dlv0
 have hL := hL.keepG E64 dla0
 have hW := hW.keepG E64 dow0
 have hbb := hbb.keepG E64 hbf
 have hb := hb.stepF E64 (fun _ _ h => .inl h)
 have dj70 : ¬ F62 k := ne_stepF hN62 bd65 dk0
 have dj71 : Dj (Bl lv) F62 := Dj.stepF hN62 (fun k hk => (bd66 k hk).2) dlv0
 have dj72 : Dj (Bl la) F62 := Dj.stepF hN62 (fun k hk => (bd67 k hk).2) dla0
 have dj73 : Dj (Bl ow) F62 := Dj.stepF hN62 (fun k hk => (bd68 k hk).2) dow0
 have dj74 : ¬ F62 bb := ne_stepF hN62 bd69 hbf
 refine op_move (ev_hit hN rfl) ?_
 refine op_extract (ev_hit hN rfl) rfl ?_
 refine op_extract (ev_hit hN rfl) rfl ?_
 refine op_assign (ev_hit hN rfl) ?_
 have hbb_old := hbb
 refine op_store (vs := [(Value.bool (decide (0 < T.length)))]) (cs' := [(Value.bool (decide (0 < T.length)))]) size4 (ev_base hN rfl s1) (ev_hit hN rfl) rfl rfl rfl hbb (Nat.le_of_ble_eq_true rfl) rfl ?_
 intro w77 hbb E78
 have z_w77 := E78.size
 have hx := hx.keep E78 (by simp; omega)
 have O := O.keepX hbb_old E78 (by decide)
 have hL := hL.keepX hbb_old E78 (by decide)
 have hW := hW.keepX hbb_old E78 (by decide)
 have hp62 := hp62.keepG (Gr.of E78) (Dj.one dj74)
 have hb := hb.stepB E78 (.inr rfl)
 refine reg_nil ?_
 refine hK61 _ _ ?_
 refine seq_any fun K79 hK79 => ?_
 refine one_reg ?_
 refine op_move (ev_hit hN rfl) ?_
 refine op_assign (ev_hit hN rfl) ?_
 refine reg_nil ?_
 refine hK79 _ _ ?_
 refine wp_ret ?_
 refine ret1 rfl hd (ev_hit hN rfl) ⟨_, rfl, ?_⟩
 -- path
 exact ⟨hb, rfl, hbb, F62, hp62, hN62⟩

end Go.Proofs.Ytmhdbphpmgjpcaa

/- Walks, written by a program: what each function of the translation hands back. -/
namespace Go.Proofs.Ytmhdbphpmgjpcaa
open Go.Gx Go.RowKit
attribute [local irreducible] wpList wpStill Code.wp Calls

theorem ofLabel_ret {C : List KC} {n i k m p base : Nat} {lv la ow : Value} {l o : List UInt16} {T : List (List UInt8)} {Fi : Nat → Prop} {w : World} (hbase : base ≤ w.heap.size) (hn : n ≤ 6) (hi : i < n) (hc : C.length = n ∧ C.getD i default = ⟨la, ow, p, Fi⟩) (hx : Bx w k 134 [lv, .map (some m)]) (O : Own w base 137 3 lv n (C.flatMap cellsK)) (hL : Own w base 46 1 la l.length (l.map u16v)) (hW : Own w base 46 1 ow o.length (o.map u16v)) (hQ : PostS w base p 16 T Fi) (hll : l.length ≤ 100) : Ret Try.prog 81 #[(ptr k 0), (Value.int .i64 ((i : Nat) : Int)), (Value.func (.func 82) #[] #[])] w (fun v' w' => Below w.heap.size w w' ∧ Own w' w.heap.size 46 1 v' l.length (l.map u16v)) := by
 have dk0 : ¬ Fi k := hQ.notBx hx (by decide) (by decide)
 have dlv0 : Dj (Bl lv) Fi := hQ.notOwn O (by decide) (by decide)
 have dla0 : Dj (Bl la) Fi := hQ.notOwn hL (by decide) (by decide)
 have dow0 : Dj (Bl ow) Fi := hQ.notOwn hW (by decide) (by decide)
 have hb := Below.refl w.heap.size w
 refine enter (N := 25) Try.func81 rfl rfl (by simp) fun a0 hN hd hA => ?_
 have s0 : a0.tmps.getD 0 undef = (ptr k 0) := hA 0 (by simp)
 have s1 : a0.tmps.getD 1 undef = (Value.int .i64 ((i : Nat) : Int)) := hA 1 (by simp)
 have s2 : a0.tmps.getD 2 undef = (Value.func (.func 82) #[] #[]) := hA 2 (by simp)
 clear hA
 refine seq_any fun K1 hK1 => ?_
 refine one_reg ?_
 refine op_assign rfl ?_
 refine reg_nil ?_
 refine hK1 _ _ ?_
 refine seq_any fun K2 hK2 => ?_
 refine one_reg ?_
 refine op_assign rfl ?_
 refine reg_nil ?_
 refine hK2 _ _ ?_
 refine seq_any fun K3 hK3 => ?_
 refine seq_any fun K4 hK4 => ?_
 refine one_reg ?_
 refine op_move (ev_base hN rfl s1) ?_
 refine op_lss (ev_hit hN rfl) rfl (fun c9 => ?_) (fun c9 => ?_)
 · -- 9T
  exfalso; omega
 · -- 9F
  refine op_move (ev_hit hN rfl) ?_
  refine g_true (j := 2) (dj := 10) (b := false) rfl rfl rfl (ev_hit hN rfl) ?_
  refine op_move (ev_base hN rfl s1) ?_
  refine g_true (j := 2) (dj := 10) (b := false) rfl rfl rfl (ev_hit hN rfl) ?_
  refine op_move (ev_base hN rfl s0) ?_
  refine g_true (j := 2) (dj := 10) (b := false) rfl rfl rfl (ev_hit hN rfl) ?_
  refine op_fn (vs := [(ptr k 0)]) ok49 ⟨(ev_hit hN rfl), trivial⟩ (Ret.flip (Sessions_ret (base := base) (by omega) hn hc.1 hx O)) ?_
  rintro _ _ ⟨rfl, rfl⟩
  refine g_true (j := 2) (dj := 10) (b := false) rfl rfl rfl (ev_hit hN rfl) ?_
  refine op_geq (ev_hit hN rfl) (ev_hit hN rfl) (fun c14 => ?_) (fun c14 => ?_)
  · -- 14T
   exfalso; omega
  · -- 14F
   refine op_pick_f (ev_hit hN rfl) (ev_hit hN rfl) ?_
   refine reg_nil ?_
   refine hK4 _ _ ?_
   refine wp_cond_false (ev_hit hN rfl) ?_
   refine wp_skip ?_
   refine hK3 _ _ ?_
   refine seq_any fun K5 hK5 => ?_
   refine one_reg ?_
   refine op_move (ev_base hN rfl s2) ?_
   refine op_move (ev_base hN rfl s0) ?_
   refine op_nil (ev_hit hN rfl) ?_
   refine op_field fld134_0 (ev_hit hN rfl) ?_
   refine op_load1 (v := lv) one132 (ev_hit hN rfl) (hx.cell rfl) ?_
   refine op_move (ev_base hN rfl s1) ?_
   refine op_index_rd slt132 (ev_hit hN rfl) O.rdw (ev_hit hN rfl) (by omega) (by omega) ?_
   intro b6 o7 h0b6 h1b6 hc8
   have hp9 : PtC w b6 (b6 + 1) b6 o7 [la, ow, (ptr p 0)] := ⟨by omega, by omega, fun j u hu => hc8 j u (by have := (List.getElem?_eq_some_iff.1 hu).1; simpa using this) ((el_kc hc (by omega) (by omega)) j u hu)⟩
   refine op_fnv (fs := []) (vs := [(ptr b6 o7)]) (cs := []) (ev_hit hN rfl) ok82 ⟨(ev_hit hN rfl), trivial⟩ (Label1_ret (by omega) hn hi hc hx O hL hW hQ hp9 hll) ?_
   rintro v10 w11 ⟨E12, hO10⟩
   have dj13 : DJ v10 la := fun k hk hg => by have q1 := (hO10.lt k hk).1; have q2 := (hL.lt k hg).2; omega
   have dj14 : DJ v10 ow := fun k hk hg => by have q1 := (hO10.lt k hk).1; have q2 := (hW.lt k hg).2; omega
   have dj15 : Dj Fi (Bl v10) := Dj.fresh (fun k hk => (hQ.lt k hk).2) (fun k hk => (hO10.lt k hk).1)
   have E12 := grown_of_below E12
   have z_w11 := E12.size
   have hx := hx.keep0 E12
   have O := O.keep0 E12
   have hL := hL.keep0 E12
   have hW := hW.keep0 E12
   have hQ := hQ.keepG (Gr.of0 E12 NoB) (fun _ _ h => h)
   have hp9 := hp9.keep0 E12
   have hb := below_step0 hb E12 hb.size
   have hO10 := hO10.mono (base' := w.heap.size) (by omega)
   refine op_assign (ev_hit hN rfl) ?_
   refine reg_nil ?_
   refine hK5 _ _ ?_
   refine wp_ret ?_
   refine ret1 rfl hd (ev_hit hN rfl) ⟨_, rfl, ?_⟩
   -- path 9F 14F
   exact ⟨hb, hO10⟩

theorem ofOwns_ret {C : List KC} {n i k m p base : Nat} {lv la ow : Value} {l o : List UInt16} {T : List (List UInt8)} {Fi : Nat → Prop} {w : World} (hbase : base ≤ w.heap.size) (hn : n ≤ 6) (hi : i < n) (hc : C.length = n ∧ C.getD i default = ⟨la, ow, p, Fi⟩) (hx : Bx w k 134 [lv, .map (some m)]) (O : Own w base 137 3 lv n (C.flatMap cellsK)) (hL : Own w base 46 1 la l.length (l.map u16v)) (hW : Own w base 46 1 ow o.length (o.map u16v)) (hQ : PostS w base p 16 T Fi) (hll : o.length ≤ 100) : Ret Try.prog 81 #[(ptr k 0), (Value.int .i64 ((i : Nat) : Int)), (Value.func (.func 83) #[] #[])] w (fun v' w' => Below w.heap.size w w' ∧ Own w' w.heap.size 46 1 v' o.length (o.map u16v)) := by
 have dk0 : ¬ Fi k := hQ.notBx hx (by decide) (by decide)
 have dlv0 : Dj (Bl lv) Fi := hQ.notOwn O (by decide) (by decide)
 have dla0 : Dj (Bl la) Fi := hQ.notOwn hL (by decide) (by decide)
 have dow0 : Dj (Bl ow) Fi := hQ.notOwn hW (by decide) (by decide)
 have hb := Below.refl w.heap.size w
 refine enter (N := 25) Try.func81 rfl rfl (by simp) fun a0 hN hd hA => ?_
 have s0 : a0.tmps.getD 0 undef = (ptr k 0) := hA 0 (by simp)
 have s1 : a0.tmps.getD 1 undef = (Value.int .i64 ((i : Nat) : Int)) := hA 1 (by simp)
 have s2 : a0.tmps.getD 2 undef = (Value.func (.func 83) #[] #[]) := hA 2 (by simp)
 clear hA
 refine seq_any fun K16 hK16 => ?_
 refine one_reg ?_
 refine op_assign rfl ?_
 refine reg_nil ?_
 refine hK16 _ _ ?_
 refine seq_any fun K17 hK17 => ?_
 refine one_reg ?_
 refine op_assign rfl ?_
 refine reg_nil ?_
 refine hK17 _ _ ?_
 refine seq_any fun K18 hK18 => ?_
 refine seq_any fun K19 hK19 => ?_
 refine one_reg ?_
 refine op_move (ev_base hN rfl s1) ?_
 refine op_lss (ev_hit hN rfl) rfl (fun c9 => ?_) (fun c9 => ?_)
 · -- 9T
  exfalso; omega
 · -- 9F
  refine op_move (ev_hit hN rfl) ?_
  refine g_true (j := 2) (dj := 10) (b := false) rfl rfl rfl (ev_hit hN rfl) ?_
  refine op_move (ev_base hN rfl s1) ?_
  refine g_true (j := 2) (dj := 10) (b := false) rfl rfl rfl (ev_hit hN rfl) ?_
  refine op_move (ev_base hN rfl s0) ?_
  refine g_true (j := 2) (dj := 10) (b := false) rfl rfl rfl (ev_hit hN rfl) ?_
  refine op_fn (vs := [(ptr k 0)]) ok49 ⟨(ev_hit hN rfl), trivial⟩ (Ret.flip (Sessions_ret (base := base) (by omega) hn hc.1 hx O)) ?_
  rintro _ _ ⟨rfl, rfl⟩
  refine g_true (j := 2) (dj := 10) (b := false) rfl rfl rfl (ev_hit hN rfl) ?_
  refine op_geq (ev_hit hN rfl) (ev_hit hN rfl) (fun c14 => ?_) (fun c14 => ?_)
  · -- 14T
   exfalso; omega
  · -- 14F
   refine op_pick_f (ev_hit hN rfl) (ev_hit hN rfl) ?_
   refine reg_nil ?_
   refine hK19 _ _ ?_
   refine wp_cond_false (ev_hit hN rfl) ?_
   refine wp_skip ?_
   refine hK18 _ _ ?_
   refine seq_any fun K20 hK20 => ?_
   refine one_reg ?_
   refine op_move (ev_base hN rfl s2) ?_
   refine op_move (ev_base hN rfl s0) ?_
   refine op_nil (ev_hit hN rfl) ?_
   refine op_field fld134_0 (ev_hit hN rfl) ?_
   refine op_load1 (v := lv) one132 (ev_hit hN rfl) (hx.cell rfl) ?_
   refine op_move (ev_base hN rfl s1) ?_
   refine op_index_rd slt132 (ev_hit hN rfl) O.rdw (ev_hit hN rfl) (by omega) (by omega) ?_
   intro b21 o22 h0b21 h1b21 hc23
   have hp24 : PtC w b21 (b21 + 1) b21 o22 [la, ow, (ptr p 0)] := ⟨by omega, by omega, fun j u hu => hc23 j u (by have := (List.getElem?_eq_some_iff.1 hu).1; simpa using this) ((el_kc hc (by omega) (by omega)) j u hu)⟩
   refine op_fnv (fs := []) (vs := [(ptr b21 o22)]) (cs := []) (ev_hit hN rfl) ok83 ⟨(ev_hit hN rfl), trivial⟩ (Owns1_ret (by omega) hn hi hc hx O hL hW hQ hp24 hll) ?_
   rintro v25 w26 ⟨E27, hO25⟩
   have dj28 : DJ v25 la := fun k hk hg => by have q1 := (hO25.lt k hk).1; have q2 := (hL.lt k hg).2; omega
   have dj29 : DJ v25 ow := fun k hk hg => by have q1 := (hO25.lt k hk).1; have q2 := (hW.lt k hg).2; omega
   have dj30 : Dj Fi (Bl v25) := Dj.fresh (fun k hk => (hQ.lt k hk).2) (fun k hk => (hO25.lt k hk).1)
   have E27 := grown_of_below E27
   have z_w26 := E27.size
   have hx := hx.keep0 E27
   have O := O.keep0 E27
   have hL := hL.keep0 E27
   have hW := hW.keep0 E27
   have hQ := hQ.keepG (Gr.of0 E27 NoB) (fun _ _ h => h)
   have hp24 := hp24.keep0 E27
   have hb := below_step0 hb E27 hb.size
   have hO25 := hO25.mono (base' := w.heap.size) (by omega)
   refine op_assign (ev_hit hN rfl) ?_
   refine reg_nil ?_
   refine hK20 _ _ ?_
   refine wp_ret ?_
   refine ret1 rfl hd (ev_hit hN rfl) ⟨_, rfl, ?_⟩
   -- path 9F 14F
   exact ⟨hb, hO25⟩

theorem ofWait_ret {C : List KC} {n i k m p base : Nat} {lv la ow : Value} {l o : List UInt16} {T : List (List UInt8)} {Fi : Nat → Prop} {w : World} (hbase : base ≤ w.heap.size) (hn : n ≤ 6) (hi : i < n) (hc : C.length = n ∧ C.getD i default = ⟨la, ow, p, Fi⟩) (hx : Bx w k 134 [lv, .map (some m)]) (O : Own w base 137 3 lv n (C.flatMap cellsK)) (hL : Own w base 46 1 la l.length (l.map u16v)) (hW : Own w base 46 1 ow o.length (o.map u16v)) (hQ : PostS w base p 16 T Fi) : Ret Try.prog 84 #[(ptr k 0), (Value.int .i64 ((i : Nat) : Int)), (Value.func (.func 85) #[] #[])] w (fun v' w' => Below w.heap.size w w' ∧ v' = .int .i64 ((T.length : Nat) : Int)) := by
 have dk0 : ¬ Fi k := hQ.notBx hx (by decide) (by decide)
 have dlv0 : Dj (Bl lv) Fi := hQ.notOwn O (by decide) (by decide)
 have dla0 : Dj (Bl la) Fi := hQ.notOwn hL (by decide) (by decide)
 have dow0 : Dj (Bl ow) Fi := hQ.notOwn hW (by decide) (by decide)
 have hb := Below.refl w.heap.size w
 refine enter (N := 25) Try.func84 rfl rfl (by simp) fun a0 hN hd hA => ?_
 have s0 : a0.tmps.getD 0 undef = (ptr k 0) := hA 0 (by simp)
 have s1 : a0.tmps.getD 1 undef = (Value.int .i64 ((i : Nat) : Int)) := hA 1 (by simp)
 have s2 : a0.tmps.getD 2 undef = (Value.func (.func 85) #[] #[]) := hA 2 (by simp)
 clear hA
 refine seq_any fun K31 hK31 => ?_
 refine one_reg ?_
 refine op_assign rfl ?_
 refine reg_nil ?_
 refine hK31 _ _ ?_
 refine seq_any fun K32 hK32 => ?_
 refine one_reg ?_
 refine op_assign rfl ?_
 refine reg_nil ?_
 refine hK32 _ _ ?_
 refine seq_any fun K33 hK33 => ?_
 refine seq_any fun K34 hK34 => ?_
 refine one_reg ?_
 refine op_move (ev_base hN rfl s1) ?_
 refine op_lss (ev_hit hN rfl) rfl (fun c9 => ?_) (fun c9 => ?_)
 · -- 9T
  exfalso; omega
 · -- 9F
  refine op_move (ev_hit hN rfl) ?_
  refine g_true (j := 2) (dj := 10) (b := false) rfl rfl rfl (ev_hit hN rfl) ?_
  refine op_move (ev_base hN rfl s1) ?_
  refine g_true (j := 2) (dj := 10) (b := false) rfl rfl rfl (ev_hit hN rfl) ?_
  refine op_move (ev_base hN rfl s0) ?_
  refine g_true (j := 2) (dj := 10) (b := false) rfl rfl rfl (ev_hit hN rfl) ?_
  refine op_fn (vs := [(ptr k 0)]) ok49 ⟨(ev_hit hN rfl), trivial⟩ (Ret.flip (Sessions_ret (base := base) (by omega) hn hc.1 hx O)) ?_
  rintro _ _ ⟨rfl, rfl⟩
  refine g_true (j := 2) (dj := 10) (b := false) rfl rfl rfl (ev_hit hN rfl) ?_
  refine op_geq (ev_hit hN rfl) (ev_hit hN rfl) (fun c14 => ?_) (fun c14 => ?_)
  · -- 14T
   exfalso; omega
  · -- 14F
   refine op_pick_f (ev_hit hN rfl) (ev_hit hN rfl) ?_
   refine reg_nil ?_
   refine hK34 _ _ ?_
   refine wp_cond_false (ev_hit hN rfl) ?_
   refine wp_skip ?_
   refine hK33 _ _ ?_
   refine seq_any fun K35 hK35 => ?_
   refine one_reg ?_
   refine op_move (ev_base hN rfl s2) ?_
   refine op_move (ev_base hN rfl s0) ?_
   refine op_nil (ev_hit hN rfl) ?_
   refine op_field fld134_0 (ev_hit hN rfl) ?_
   refine op_load1 (v := lv) one132 (ev_hit hN rfl) (hx.cell rfl) ?_
   refine op_move (ev_base hN rfl s1) ?_
   refine op_index_rd slt132 (ev_hit hN rfl) O.rdw (ev_hit hN rfl) (by omega) (by omega) ?_
   intro b36 o37 h0b36 h1b36 hc38
   have hp39 : PtC w b36 (b36 + 1) b36 o37 [la, ow, (ptr p 0)] := ⟨by omega, by omega, fun j u hu => hc38 j u (by have := (List.getElem?_eq_some_iff.1 hu).1; simpa using this) ((el_kc hc (by omega) (by omega)) j u hu)⟩
   refine op_fnv (fs := []) (vs := [(ptr b36 o37)]) (cs := []) (ev_hit hN rfl) ok85 ⟨(ev_hit hN rfl), trivial⟩ (Wait1_ret (by omega) hn hi hc hx O hL hW hQ hp39) ?_
   rintro _ w40 ⟨E41, rfl⟩
   have E41 := grown_of_below E41
   have z_w40 := E41.size
   have hx := hx.keep0 E41
   have O := O.keep0 E41
   have hL := hL.keep0 E41
   have hW := hW.keep0 E41
   have hQ := hQ.keepG (Gr.of0 E41 NoB) (fun _ _ h => h)
   have hp39 := hp39.keep0 E41
   have hb := below_step0 hb E41 hb.size
   refine op_assign (ev_hit hN rfl) ?_
   refine reg_nil ?_
   refine hK35 _ _ ?_
   refine wp_ret ?_
   refine ret1 rfl hd (ev_hit hN rfl) ⟨_, rfl, ?_⟩
   -- path 9F 14F
   exact ⟨hb, rfl⟩

theorem ofHead_ret {bb : Nat} {C : List KC} {n i k m p base : Nat} {lv la ow : Value} {l o : List UInt16} {T : List (List UInt8)} {Fi : Nat → Prop} {w : World} (hbase : base ≤ w.heap.size) (hn : n ≤ 6) (hi : i < n) (hc : C.length = n ∧ C.getD i default = ⟨la, ow, p, Fi⟩) (hx : Bx w k 134 [lv, .map (some m)]) (O : Own w base 137 3 lv n (C.flatMap cellsK)) (hL : Own w base 46 1 la l.length (l.map u16v)) (hW : Own w base 46 1 ow o.length (o.map u16v)) (hQ : PostS w base p 16 T Fi) (hbf : ¬ Fi bb) (hbk : bb ≠ k) (hbb : Bx w bb 4 [.bool false]) : Ret Try.prog 86 #[(ptr k 0), (Value.int .i64 ((i : Nat) : Int)), (Value.func (.func 87) #[] #[(ptr bb 0)])] w (fun v' w' => Gr w w' (fun x => Fi x ∨ x = bb) ∧ v' = .string (bs (T.getD 0 [])) ∧ Bx w' bb 4 [.bool (decide (0 < T.length))] ∧ ∃ F', PostS w' base p 16 T F' ∧ NewF w.heap.size Fi F') := by
 have dk0 : ¬ Fi k := hQ.notBx hx (by decide) (by decide)
 have dlv0 : Dj (Bl lv) Fi := hQ.notOwn O (by decide) (by decide)
 have dla0 : Dj (Bl la) Fi := hQ.notOwn hL (by decide) (by decide)
 have dow0 : Dj (Bl ow) Fi := hQ.notOwn hW (by decide) (by decide)
 have hb := Gr.refl w (fun x => Fi x ∨ x = bb)
 refine enter (N := 25) Try.func86 rfl rfl (by simp) fun a0 hN hd hA => ?_
 have s0 : a0.tmps.getD 0 undef = (ptr k 0) := hA 0 (by simp)
 have s1 : a0.tmps.getD 1 undef = (Value.int .i64 ((i : Nat) : Int)) := hA 1 (by simp)
 have s2 : a0.tmps.getD 2 undef = (Value.func (.func 87) #[] #[(ptr bb 0)]) := hA 2 (by simp)
 clear hA
 refine seq_any fun K62 hK62 => ?_
 refine one_reg ?_
 refine op_assign rfl ?_
 refine reg_nil ?_
 refine hK62 _ _ ?_
 refine seq_any fun K63 hK63 => ?_
 refine one_reg ?_
 refine op_assign rfl ?_
 refine reg_nil ?_
 refine hK63 _ _ ?_
 refine seq_any fun K64 hK64 => ?_
 refine seq_any fun K65 hK65 => ?_
 refine one_reg ?_
 refine op_move (ev_base hN rfl s1) ?_
 refine op_lss (ev_hit hN rfl) rfl (fun c9 => ?_) (fun c9 => ?_)
 · -- 9T
  exfalso; omega
 · -- 9F
  refine op_move (ev_hit hN rfl) ?_
  refine g_true (j := 2) (dj := 10) (b := false) rfl rfl rfl (ev_hit hN rfl) ?_
  refine op_move (ev_base hN rfl s1) ?_
  refine g_true (j := 2) (dj := 10) (b := false) rfl rfl rfl (ev_hit hN rfl) ?_
  refine op_move (ev_base hN rfl s0) ?_
  refine g_true (j := 2) (dj := 10) (b := false) rfl rfl rfl (ev_hit hN rfl) ?_
  refine op_fn (vs := [(ptr k 0)]) ok49 ⟨(ev_hit hN rfl), trivial⟩ (Ret.flip (Sessions_ret (base := base) (by omega) hn hc.1 hx O)) ?_
  rintro _ _ ⟨rfl, rfl⟩
  refine g_true (j := 2) (dj := 10) (b := false) rfl rfl rfl (ev_hit hN rfl) ?_
  refine op_geq (ev_hit hN rfl) (ev_hit hN rfl) (fun c14 => ?_) (fun c14 => ?_)
  · -- 14T
   exfalso; omega
  · -- 14F
   refine op_pick_f (ev_hit hN rfl) (ev_hit hN rfl) ?_
   refine reg_nil ?_
   refine hK65 _ _ ?_
   refine wp_cond_false (ev_hit hN rfl) ?_
   refine wp_skip ?_
   refine hK64 _ _ ?_
   refine seq_any fun K66 hK66 => ?_
   refine one_reg ?_
   refine op_move (ev_base hN rfl s2) ?_
   refine op_move (ev_base hN rfl s0) ?_
   refine op_nil (ev_hit hN rfl) ?_
   refine op_field fld134_0 (ev_hit hN rfl) ?_
   refine op_load1 (v := lv) one132 (ev_hit hN rfl) (hx.cell rfl) ?_
   refine op_move (ev_base hN rfl s1) ?_
   refine op_index_rd slt132 (ev_hit hN rfl) O.rdw (ev_hit hN rfl) (by omega) (by omega) ?_
   intro b67 o68 h0b67 h1b67 hc69
   have hp70 : PtC w b67 (b67 + 1) b67 o68 [la, ow, (ptr p 0)] := ⟨by omega, by omega, fun j u hu => hc69 j u (by have := (List.getElem?_eq_some_iff.1 hu).1; simpa using this) ((el_kc hc (by omega) (by omega)) j u hu)⟩
   refine op_fnv (fs := []) (vs := [(ptr b67 o68)]) (cs := [(ptr bb 0)]) (ev_hit hN rfl) ok87 ⟨(ev_hit hN rfl), trivial⟩ (Head1_ret (by omega) hn hi hc hx O hL hW hQ hp70 hbf hbk hbb) ?_
   rintro _ w72 ⟨E73, rfl, hB71, F71, hp71, hN71⟩
   have bd74 := hx.lt
   have bd75 := O.lt
   have bd76 := hL.lt
   have bd77 := hW.lt
   have bd78 := hbb.lt
   have dj79 : ¬ (fun x => Fi x ∨ x = bb) k := fun hy => by
     rcases hy with hy | hy
     · exact dk0 hy
     · exact hx.ne hbb (by decide) hy
   have dj80 : Dj (Bl lv) (fun x => Fi x ∨ x = bb) := fun x hx hy => by
     rcases hy with hy | rfl
     · exact dlv0 x hx hy
     · exact O.neB hbb (by decide) hx
   have dj81 : Dj (Bl la) (fun x => Fi x ∨ x = bb) := fun x hx hy => by
     rcases hy with hy | rfl
     · exact dla0 x hx hy
     · exact hL.neB hbb (by decide) hx
   have dj82 : Dj (Bl ow) (fun x => Fi x ∨ x = bb) := fun x hx hy => by
     rcases hy with hy | rfl
     · exact dow0 x hx hy
     · exact hW.neB hbb (by decide) hx
   have z_w72 := E73.size
   have hx := hx.keepG E73 dj79
   have O := O.keepG E73 dj80
   have hL := hL.keepG E73 dj81
   have hW := hW.keepG E73 dj82
   have hb := hb.stepF E73 (fun _ _ h => h)
   have dj83 : ¬ F71 k := ne_stepF hN71 bd74 dk0
   have dj84 : Dj (Bl lv) F71 := Dj.stepF hN71 (fun k hk => (bd75 k hk).2) dlv0
   have dj85 : Dj (Bl la) F71 := Dj.stepF hN71 (fun k hk => (bd76 k hk).2) dla0
   have dj86 : Dj (Bl ow) F71 := Dj.stepF hN71 (fun k hk => (bd77 k hk).2) dow0
   refine op_assign (ev_hit hN rfl) ?_
   refine reg_nil ?_
   refine hK66 _ _ ?_
   refine wp_ret ?_
   refine ret1 rfl hd (ev_hit hN rfl) ⟨_, rfl, ?_⟩
   -- path 9F 14F
   exact ⟨hb, rfl, hB71, F71, hp71, hN71⟩

theorem ofLabelOut_ret {C : List KC} {n k m base : Nat} {lv : Value} {s : Int} {fv : Value} {w : World} (hbase : base ≤ w.heap.size) (hn : n ≤ 6) (hC : C.length = n) (hx : Bx w k 134 [lv, .map (some m)]) (O : Own w base 137 3 lv n (C.flatMap cellsK)) (hs : s < 0 ∨ (n : Int) ≤ s) : Ret Try.prog 81 #[(ptr k 0), (Value.int .i64 s), fv] w (fun v' w' => Below w.heap.size w w' ∧ v' = .slice none 0 0) := by
 have hb := Below.refl w.heap.size w
 refine enter (N := 25) Try.func81 rfl rfl (by simp) fun a0 hN hd hA => ?_
 have s0 : a0.tmps.getD 0 undef = (ptr k 0) := hA 0 (by simp)
 have s1 : a0.tmps.getD 1 undef = (Value.int .i64 s) := hA 1 (by simp)
 have s2 : a0.tmps.getD 2 undef = fv := hA 2 (by simp)
 clear hA
 refine seq_any fun K87 hK87 => ?_
 refine one_reg ?_
 refine op_assign rfl ?_
 refine reg_nil ?_
 refine hK87 _ _ ?_
 refine seq_any fun K88 hK88 => ?_
 refine one_reg ?_
 refine op_assign rfl ?_
 refine reg_nil ?_
 refine hK88 _ _ ?_
 refine seq_any fun K89 hK89 => ?_
 refine seq_any fun K90 hK90 => ?_
 refine one_reg ?_
 refine op_move (ev_base hN rfl s1) ?_
 refine op_lss (ev_hit hN rfl) rfl (fun c9 => ?_) (fun c9 => ?_)
 · -- 9T
  refine op_move (ev_hit hN rfl) ?_
  refine g_false (j := 2) (dj := 10) (b := false) rfl rfl rfl (ev_hit hN rfl) rfl rfl ?_
  refine g_false (j := 2) (dj := 10) (b := false) rfl rfl rfl (ev_hit hN rfl) rfl rfl ?_
  refine g_false (j := 2) (dj := 10) (b := false) rfl rfl rfl (ev_hit hN rfl) rfl rfl ?_
  refine g_false (j := 2) (dj := 10) (b := false) rfl rfl rfl (ev_hit hN rfl) rfl rfl ?_
  refine op_pick_t (ev_hit hN rfl) rfl ?_
  refine reg_nil ?_
  refine hK90 _ _ ?_
  refine wp_cond_true (ev_hit hN rfl) ?_
  refine seq_any fun K91 hK91 => ?_
  refine one_reg ?_
  refine op_move (ev_hit hN rfl) ?_
  refine op_assign (ev_hit hN rfl) ?_
  refine reg_nil ?_
  refine hK91 _ _ ?_
  refine wp_ret (then_ret ( ?_))
  refine ret1 rfl hd (ev_hit hN rfl) ⟨_, rfl, ?_⟩
  -- path 9T
  exact ⟨hb, rfl⟩
 · -- 9F
  refine op_move (ev_hit hN rfl) ?_
  refine g_true (j := 2) (dj := 10) (b := false) rfl rfl rfl (ev_hit hN rfl) ?_
  refine op_move (ev_base hN rfl s1) ?_
  refine g_true (j := 2) (dj := 10) (b := false) rfl rfl rfl (ev_hit hN rfl) ?_
  refine op_move (ev_base hN rfl s0) ?_
  refine g_true (j := 2) (dj := 10) (b := false) rfl rfl rfl (ev_hit hN rfl) ?_
  refine op_fn (vs := [(ptr k 0)]) ok49 ⟨(ev_hit hN rfl), trivial⟩ (Ret.flip (Sessions_ret (base := base) (by omega) hn hC hx O)) ?_
  rintro _ _ ⟨rfl, rfl⟩
  refine g_true (j := 2) (dj := 10) (b := false) rfl rfl rfl (ev_hit hN rfl) ?_
  refine op_geq (ev_hit hN rfl) (ev_hit hN rfl) (fun c14 => ?_) (fun c14 => ?_)
  · -- 14T
   refine op_pick_f (ev_hit hN rfl) (ev_hit hN rfl) ?_
   refine reg_nil ?_
   refine hK90 _ _ ?_
   refine wp_cond_true (ev_hit hN rfl) ?_
   refine seq_any fun K92 hK92 => ?_
   refine one_reg ?_
   refine op_move (ev_hit hN rfl) ?_
   refine op_assign (ev_hit hN rfl) ?_
   refine reg_nil ?_
   refine hK92 _ _ ?_
   refine wp_ret (then_ret ( ?_))
   refine ret1 rfl hd (ev_hit hN rfl) ⟨_, rfl, ?_⟩
   -- path 9F 14T
   exact ⟨hb, rfl⟩
  · -- 14F
   exfalso; omega

theorem ofIntOut_ret {C : List KC} {n k m base : Nat} {lv : Value} {s : Int} {fv : Value} {w : World} (hbase : base ≤ w.heap.size) (hn : n ≤ 6) (hC : C.length = n) (hx : Bx w k 134 [lv, .map (some m)]) (O : Own w base 137 3 lv n (C.flatMap cellsK)) (hs : s < 0 ∨ (n : Int) ≤ s) : Ret Try.prog 84 #[(ptr k 0), (Value.int .i64 s), fv] w (fun v' w' => Below w.heap.size w w' ∧ v' = .int .i64 0) := by
 have hb := Below.refl w.heap.size w
 refine enter (N := 25) Try.func84 rfl rfl (by simp) fun a0 hN hd hA => ?_
 have s0 : a0.tmps.getD 0 undef = (ptr k 0) := hA 0 (by simp)
 have s1 : a0.tmps.getD 1 undef = (Value.int .i64 s) := hA 1 (by simp)
 have s2 : a0.tmps.getD 2 undef = fv := hA 2 (by simp)
 clear hA
 refine seq_any fun K93 hK93 => ?_
 refine one_reg ?_
 refine op_assign rfl ?_
 refine reg_nil ?_
 refine hK93 _ _ ?_
 refine seq_any fun K94 hK94 => ?_
 refine one_reg ?_
 refine op_assign rfl ?_
 refine reg_nil ?_
 refine hK94 _ _ ?_
 refine seq_any fun K95 hK95 => ?_
 refine seq_any fun K96 hK96 => ?_
 refine one_reg ?_
 refine op_move (ev_base hN rfl s1) ?_
 refine op_lss (ev_hit hN rfl) rfl (fun c9 => ?_) (fun c9 => ?_)
 · -- 9T
  refine op_move (ev_hit hN rfl) ?_
  refine g_false (j := 2) (dj := 10) (b := false) rfl rfl rfl (ev_hit hN rfl) rfl rfl ?_
  refine g_false (j := 2) (dj := 10) (b := false) rfl rfl rfl (ev_hit hN rfl) rfl rfl ?_
  refine g_false (j := 2) (dj := 10) (b := false) rfl rfl rfl (ev_hit hN rfl) rfl rfl ?_
  refine g_false (j := 2) (dj := 10) (b := false) rfl rfl rfl (ev_hit hN rfl) rfl rfl ?_
  refine op_pick_t (ev_hit hN rfl) rfl ?_
  refine reg_nil ?_
  refine hK96 _ _ ?_
  refine wp_cond_true (ev_hit hN rfl) ?_
  refine seq_any fun K97 hK97 => ?_
  refine one_reg ?_
  refine op_move (ev_hit hN rfl) ?_
  refine op_assign (ev_hit hN rfl) ?_
  refine reg_nil ?_
  refine hK97 _ _ ?_
  refine wp_ret (then_ret ( ?_))
  refine ret1 rfl hd (ev_hit hN rfl) ⟨_, rfl, ?_⟩
  -- path 9T
  exact ⟨hb, rfl⟩
 · -- 9F
  refine op_move (ev_hit hN rfl) ?_
  refine g_true (j := 2) (dj := 10) (b := false) rfl rfl rfl (ev_hit hN rfl) ?_
  refine op_move (ev_base hN rfl s1) ?_
  refine g_true (j := 2) (dj := 10) (b := false) rfl rfl rfl (ev_hit hN rfl) ?_
  refine op_move (ev_base hN rfl s0) ?_
  refine g_true (j := 2) (dj := 10) (b := false) rfl rfl rfl (ev_hit hN rfl) ?_
  refine op_fn (vs := [(ptr k 0)]) ok49 ⟨(ev_hit hN rfl), trivial⟩ (Ret.flip (Sessions_ret (base := base) (by omega) hn hC hx O)) ?_
  rintro _ _ ⟨rfl, rfl⟩
  refine g_true (j := 2) (dj := 10) (b := false) rfl rfl rfl (ev_hit hN rfl) ?_
  refine op_geq (ev_hit hN rfl) (ev_hit hN rfl) (fun c14 => ?_) (fun c14 => ?_)
  · -- 14T
   refine op_pick_f (ev_hit hN rfl) (ev_hit hN rfl) ?_
   refine reg_nil ?_
   refine hK96 _ _ ?_
   refine wp_cond_true (ev_hit hN rfl) ?_
   refine seq_any fun K98 hK98 => ?_
   refine one_reg ?_
   refine op_move (ev_hit hN rfl) ?_
   refine op_assign (ev_hit hN rfl) ?_
   refine reg_nil ?_
   refine hK98 _ _ ?_
   refine wp_ret (then_ret ( ?_))
   refine ret1 rfl hd (ev_hit hN rfl) ⟨_, rfl, ?_⟩
   -- path 9F 14T
   exact ⟨hb, rfl⟩
  · -- 14F
   exfalso; omega

theorem ofStrOut_ret {C : List KC} {n k m base : Nat} {lv : Value} {s : Int} {fv : Value} {w : World} (hbase : base ≤ w.heap.size) (hn : n ≤ 6) (hC : C.length = n) (hx : Bx w k 134 [lv, .map (some m)]) (O : Own w base 137 3 lv n (C.flatMap cellsK)) (hs : s < 0 ∨ (n : Int) ≤ s) : Ret Try.prog 86 #[(ptr k 0), (Value.int .i64 s), fv] w (fun v' w' => Below w.heap.size w w' ∧ v' = .string (bs [])) := by
 have hb := Below.refl w.heap.size w
 refine enter (N := 25) Try.func86 rfl rfl (by simp) fun a0 hN hd hA => ?_
 have s0 : a0.tmps.getD 0 undef = (ptr k 0) := hA 0 (by simp)
 have s1 : a0.tmps.getD 1 undef = (Value.int .i64 s) := hA 1 (by simp)
 have s2 : a0.tmps.getD 2 undef = fv := hA 2 (by simp)
 clear hA
 refine seq_any fun K105 hK105 => ?_
 refine one_reg ?_
 refine op_assign rfl ?_
 refine reg_nil ?_
 refine hK105 _ _ ?_
 refine seq_any fun K106 hK106 => ?_
 refine one_reg ?_
 refine op_assign rfl ?_
 refine reg_nil ?_
 refine hK106 _ _ ?_
 refine seq_any fun K107 hK107 => ?_
 refine seq_any fun K108 hK108 => ?_
 refine one_reg ?_
 refine op_move (ev_base hN rfl s1) ?_
 refine op_lss (ev_hit hN rfl) rfl (fun c9 => ?_) (fun c9 => ?_)
 · -- 9T
  refine op_move (ev_hit hN rfl) ?_
  refine g_false (j := 2) (dj := 10) (b := false) rfl rfl rfl (ev_hit hN rfl) rfl rfl ?_
  refine g_false (j := 2) (dj := 10) (b := false) rfl rfl rfl (ev_hit hN rfl) rfl rfl ?_
  refine g_false (j := 2) (dj := 10) (b := false) rfl rfl rfl (ev_hit hN rfl) rfl rfl ?_
  refine g_false (j := 2) (dj := 10) (b := false) rfl rfl rfl (ev_hit hN rfl) rfl rfl ?_
  refine op_pick_t (ev_hit hN rfl) rfl ?_
  refine reg_nil ?_
  refine hK108 _ _ ?_
  refine wp_cond_true (ev_hit hN rfl) ?_
  refine seq_any fun K109 hK109 => ?_
  refine one_reg ?_
  refine op_move (ev_hit hN rfl) ?_
  refine op_assign (ev_hit hN rfl) ?_
  refine reg_nil ?_
  refine hK109 _ _ ?_
  refine wp_ret (then_ret ( ?_))
  refine ret1 rfl hd (ev_hit hN rfl) ⟨_, rfl, ?_⟩
  -- path 9T
  exact ⟨hb, rfl⟩
 · -- 9F
  refine op_move (ev_hit hN rfl) ?_
  refine g_true (j := 2) (dj := 10) (b := false) rfl rfl rfl (ev_hit hN rfl) ?_
  refine op_move (ev_base hN rfl s1) ?_
  refine g_true (j := 2) (dj := 10) (b := false) rfl rfl rfl (ev_hit hN rfl) ?_
  refine op_move (ev_base hN rfl s0) ?_
  refine g_true (j := 2) (dj := 10) (b := false) rfl rfl rfl (ev_hit hN rfl) ?_
  refine op_fn (vs := [(ptr k 0)]) ok49 ⟨(ev_hit hN rfl), trivial⟩ (Ret.flip (Sessions_ret (base := base) (by omega) hn hC hx O)) ?_
  rintro _ _ ⟨rfl, rfl⟩
  refine g_true (j := 2) (dj := 10) (b := false) rfl rfl rfl (ev_hit hN rfl) ?_
  refine op_geq (ev_hit hN rfl) (ev_hit hN rfl) (fun c14 => ?_) (fun c14 => ?_)
  · -- 14T
   refine op_pick_f (ev_hit hN rfl) (ev_hit hN rfl) ?_
   refine reg_nil ?_
   refine hK108 _ _ ?_
   refine wp_cond_true (ev_hit hN rfl) ?_
   refine seq_any fun K110 hK110 => ?_
   refine one_reg ?_
   refine op_move (ev_hit hN rfl) ?_
   refine op_assign (ev_hit hN rfl) ?_
   refine reg_nil ?_
   refine hK110 _ _ ?_
   refine wp_ret (then_ret ( ?_))
   refine ret1 rfl hd (ev_hit hN rfl) ⟨_, rfl, ?_⟩
   -- path 9F 14T
   exact ⟨hb, rfl⟩
  · -- 14F
   exfalso; omega

end Go.Proofs.Ytmhdbphpmgjpcaa

/- Walks, written by a program: what each function of the translation hands back. -/
namespace Go.Proofs.Ytmhdbphpmgjpcaa
open Go.Gx Go.RowKit
attribute [local irreducible] wpList wpStill Code.wp Calls

theorem LabelIn {C : List KC} {n i k m p base : Nat} {lv la ow : Value} {l o : List UInt16} {T : List (List UInt8)} {Fi : Nat → Prop} {w : World} (hbase : base ≤ w.heap.size) (hn : n ≤ 6) (hi : i < n) (hc : C.length = n ∧ C.getD i default = ⟨la, ow, p, Fi⟩) (hx : Bx w k 134 [lv, .map (some m)]) (O : Own w base 137 3 lv n (C.flatMap cellsK)) (hL : Own w base 46 1 la l.length (l.map u16v)) (hW : Own w base 46 1 ow o.length (o.map u16v)) (hQ : PostS w base p 16 T Fi) (hll : l.length ≤ 100) : Ret Try.prog 37 #[(ptr k 0), (Value.int .i64 ((i : Nat) : Int))] w (fun v' w' => Below w.heap.size w w' ∧ Own w' w.heap.size 46 1 v' l.length (l.map u16v)) := by
 have dk0 : ¬ Fi k := hQ.notBx hx (by decide) (by decide)
 have dlv0 : Dj (Bl lv) Fi := hQ.notOwn O (by decide) (by decide)
 have dla0 : Dj (Bl la) Fi := hQ.notOwn hL (by decide) (by decide)
 have dow0 : Dj (Bl ow) Fi := hQ.notOwn hW (by decide) (by decide)
 have hb := Below.refl w.heap.size w
 refine enter (N := 8) Try.func37 rfl rfl (by simp) fun a0 hN hd hA => ?_
 have s0 : a0.tmps.getD 0 undef = (ptr k 0) := hA 0 (by simp)
 have s1 : a0.tmps.getD 1 undef = (Value.int .i64 ((i : Nat) : Int)) := hA 1 (by simp)
 clear hA
 refine seq_any fun K1 hK1 => ?_
 refine one_reg ?_
 refine op_assign rfl ?_
 refine reg_nil ?_
 refine hK1 _ _ ?_
 refine seq_any fun K2 hK2 => ?_
 refine one_reg ?_
 refine op_move (ev_base hN rfl s0) ?_
 refine op_move (ev_base hN rfl s1) ?_
 refine op_fn (vs := [(ptr k 0), (Value.int .i64 ((i : Nat) : Int)), (Value.func (.func 82) #[] #[])]) ok81 ⟨(ev_hit hN rfl), ⟨(ev_hit hN rfl), ⟨rfl, trivial⟩⟩⟩ (ofLabel_ret (by omega) hn hi hc hx O hL hW hQ hll) ?_
 rintro v3 w4 ⟨E5, hO3⟩
 have dj6 : DJ v3 la := fun k hk hg => by have q1 := (hO3.lt k hk).1; have q2 := (hL.lt k hg).2; omega
 have dj7 : DJ v3 ow := fun k hk hg => by have q1 := (hO3.lt k hk).1; have q2 := (hW.lt k hg).2; omega
 have dj8 : Dj Fi (Bl v3) := Dj.fresh (fun k hk => (hQ.lt k hk).2) (fun k hk => (hO3.lt k hk).1)
 have E5 := grown_of_below E5
 have z_w4 := E5.size
 have hx := hx.keep0 E5
 have O := O.keep0 E5
 have hL := hL.keep0 E5
 have hW := hW.keep0 E5
 have hQ := hQ.keepG (Gr.of0 E5 NoB) (fun _ _ h => h)
 have hb := below_step0 hb E5 hb.size
 have hO3 := hO3.mono (base' := w.heap.size) (by omega)
 refine op_assign (ev_hit hN rfl) ?_
 refine reg_nil ?_
 refine hK2 _ _ ?_
 refine wp_ret ?_
 refine ret1 rfl hd (ev_hit hN rfl) ⟨_, rfl, ?_⟩
 -- path
 exact ⟨hb, hO3⟩

theorem OwnsIn {C : List KC} {n i k m p base : Nat} {lv la ow : Value} {l o : List UInt16} {T : List (List UInt8)} {Fi : Nat → Prop} {w : World} (hbase : base ≤ w.heap.size) (hn : n ≤ 6) (hi : i < n) (hc : C.length = n ∧ C.getD i default = ⟨la, ow, p, Fi⟩) (hx : Bx w k 134 [lv, .map (some m)]) (O : Own w base 137 3 lv n (C.flatMap cellsK)) (hL : Own w base 46 1 la l.length (l.map u16v)) (hW : Own w base 46 1 ow o.length (o.map u16v)) (hQ : PostS w base p 16 T Fi) (hll : o.length ≤ 100) : Ret Try.prog 38 #[(ptr k 0), (Value.int .i64 ((i : Nat) : Int))] w (fun v' w' => Below w.heap.size w w' ∧ Own w' w.heap.size 46 1 v' o.length (o.map u16v)) := by
 have dk0 : ¬ Fi k := hQ.notBx hx (by decide) (by decide)
 have dlv0 : Dj (Bl lv) Fi := hQ.notOwn O (by decide) (by decide)
 have dla0 : Dj (Bl la) Fi := hQ.notOwn hL (by decide) (by decide)
 have dow0 : Dj (Bl ow) Fi := hQ.notOwn hW (by decide) (by decide)
 have hb := Below.refl w.heap.size w
 refine enter (N := 8) Try.func38 rfl rfl (by simp) fun a0 hN hd hA => ?_
 have s0 : a0.tmps.getD 0 undef = (ptr k 0) := hA 0 (by simp)
 have s1 : a0.tmps.getD 1 undef = (Value.int .i64 ((i : Nat) : Int)) := hA 1 (by simp)
 clear hA
 refine seq_any fun K9 hK9 => ?_
 refine one_reg ?_
 refine op_assign rfl ?_
 refine reg_nil ?_
 refine hK9 _ _ ?_
 refine seq_any fun K10 hK10 => ?_
 refine one_reg ?_
 refine op_move (ev_base hN rfl s0) ?_
 refine op_move (ev_base hN rfl s1) ?_
 refine op_fn (vs := [(ptr k 0), (Value.int .i64 ((i : Nat) : Int)), (Value.func (.func 83) #[] #[])]) ok81 ⟨(ev_hit hN rfl), ⟨(ev_hit hN rfl), ⟨rfl, trivial⟩⟩⟩ (ofOwns_ret (by omega) hn hi hc hx O hL hW hQ hll) ?_
 rintro v11 w12 ⟨E13, hO11⟩
 have dj14 : DJ v11 la := fun k hk hg => by have q1 := (hO11.lt k hk).1; have q2 := (hL.lt k hg).2; omega
 have dj15 : DJ v11 ow := fun k hk hg => by have q1 := (hO11.lt k hk).1; have q2 := (hW.lt k hg).2; omega
 have dj16 : Dj Fi (Bl v11) := Dj.fresh (fun k hk => (hQ.lt k hk).2) (fun k hk => (hO11.lt k hk).1)
 have E13 := grown_of_below E13
 have z_w12 := E13.size
 have hx := hx.keep0 E13
 have O := O.keep0 E13
 have hL := hL.keep0 E13
 have hW := hW.keep0 E13
 have hQ := hQ.keepG (Gr.of0 E13 NoB) (fun _ _ h => h)
 have hb := below_step0 hb E13 hb.size
 have hO11 := hO11.mono (base' := w.heap.size) (by omega)
 refine op_assign (ev_hit hN rfl) ?_
 refine reg_nil ?_
 refine hK10 _ _ ?_
 refine wp_ret ?_
 refine ret1 rfl hd (ev_hit hN rfl) ⟨_, rfl, ?_⟩
 -- path
 exact ⟨hb, hO11⟩

theorem WaitIn {C : List KC} {n i k m p base : Nat} {lv la ow : Value} {l o : List UInt16} {T : List (List UInt8)} {Fi : Nat → Prop} {w : World} (hbase : base ≤ w.heap.size) (hn : n ≤ 6) (hi : i < n) (hc : C.length = n ∧ C.getD i default = ⟨la, ow, p, Fi⟩) (hx : Bx w k 134 [lv, .map (some m)]) (O : Own w base 137 3 lv n (C.flatMap cellsK)) (hL : Own w base 46 1 la l.length (l.map u16v)) (hW : Own w base 46 1 ow o.length (o.map u16v)) (hQ : PostS w base p 16 T Fi) : Ret Try.prog 39 #[(ptr k 0), (Value.int .i64 ((i : Nat) : Int))] w (fun v' w' => Below w.heap.size w w' ∧ v' = .int .i64 ((T.length : Nat) : Int)) := by
 have dk0 : ¬ Fi k := hQ.notBx hx (by decide) (by decide)
 have dlv0 : Dj (Bl lv) Fi := hQ.notOwn O (by decide) (by decide)
 have dla0 : Dj (Bl la) Fi := hQ.notOwn hL (by decide) (by decide)
 have dow0 : Dj (Bl ow) Fi := hQ.notOwn hW (by decide) (by decide)
 have hb := Below.refl w.heap.size w
 refine enter (N := 8) Try.func39 rfl rfl (by simp) fun a0 hN hd hA => ?_
 have s0 : a0.tmps.getD 0 undef = (ptr k 0) := hA 0 (by simp)
 have s1 : a0.tmps.getD 1 undef = (Value.int .i64 ((i : Nat) : Int)) := hA 1 (by simp)
 clear hA
 refine seq_any fun K17 hK17 => ?_
 refine one_reg ?_
 refine op_assign rfl ?_
 refine reg_nil ?_
 refine hK17 _ _ ?_
 refine seq_any fun K18 hK18 => ?_
 refine one_reg ?_
 refine op_move (ev_base hN rfl s0) ?_
 refine op_move (ev_base hN rfl s1) ?_
 refine op_fn (vs := [(ptr k 0), (Value.int .i64 ((i : Nat) : Int)), (Value.func (.func 85) #[] #[])]) ok84 ⟨(ev_hit hN rfl), ⟨(ev_hit hN rfl), ⟨rfl, trivial⟩⟩⟩ (ofWait_ret (by omega) hn hi hc hx O hL hW hQ) ?_
 rintro _ w19 ⟨E20, rfl⟩
 have E20 := grown_of_below E20
 have z_w19 := E20.size
 have hx := hx.keep0 E20
 have O := O.keep0 E20
 have hL := hL.keep0 E20
 have hW := hW.keep0 E20
 have hQ := hQ.keepG (Gr.of0 E20 NoB) (fun _ _ h => h)
 have hb := below_step0 hb E20 hb.size
 refine op_assign (ev_hit hN rfl) ?_
 refine reg_nil ?_
 refine hK18 _ _ ?_
 refine wp_ret ?_
 refine ret1 rfl hd (ev_hit hN rfl) ⟨_, rfl, ?_⟩
 -- path
 exact ⟨hb, rfl⟩

theorem HeadIn {C : List KC} {n i k m p base : Nat} {lv la ow : Value} {l o : List UInt16} {T : List (List UInt8)} {Fi : Nat → Prop} {w : World} (hbase : base ≤ w.heap.size) (hn : n ≤ 6) (hi : i < n) (hc : C.length = n ∧ C.getD i default = ⟨la, ow, p, Fi⟩) (hx : Bx w k 134 [lv, .map (some m)]) (O : Own w base 137 3 lv n (C.flatMap cellsK)) (hL : Own w base 46 1 la l.length (l.map u16v)) (hW : Own w base 46 1 ow o.length (o.map u16v)) (hQ : PostS w base p 16 T Fi) : Ret Try.prog 41 #[(ptr k 0), (Value.int .i64 ((i : Nat) : Int))] w (fun v' w' => Gr w w' Fi ∧ v' = .tuple #[.string (bs (T.getD 0 [])), .bool (decide (0 < T.length))] ∧ ∃ F', PostS w' base p 16 T F' ∧ NewF w.heap.size Fi F') := by
 have dk0 : ¬ Fi k := hQ.notBx hx (by decide) (by decide)
 have dlv0 : Dj (Bl lv) Fi := hQ.notOwn O (by decide) (by decide)
 have dla0 : Dj (Bl la) Fi := hQ.notOwn hL (by decide) (by decide)
 have dow0 : Dj (Bl ow) Fi := hQ.notOwn hW (by decide) (by decide)
 have hxl := hx.lt
 have hb := Gr.refl w Fi
 refine enter (N := 14) Try.func41 rfl rfl (by simp) fun a0 hN hd hA => ?_
 have s0 : a0.tmps.getD 0 undef = (ptr k 0) := hA 0 (by simp)
 have s1 : a0.tmps.getD 1 undef = (Value.int .i64 ((i : Nat) : Int)) := hA 1 (by simp)
 clear hA
 refine seq_any fun K34 hK34 => ?_
 refine one_reg ?_
 refine op_assign rfl ?_
 refine op_assign rfl ?_
 refine reg_nil ?_
 refine hK34 _ _ ?_
 refine seq_any fun K35 hK35 => ?_
 refine one_reg ?_
 refine op_alloc (cs := [(Value.bool false)]) zero4 rfl ?_
 intro w36 b37 lo_b37 hi_b37 hB39 E38
 have dj40 : ¬ Fi b37 := fun hf => by have := (hQ.lt _ hf).2; omega
 have z_w36 := E38.size
 have hx := hx.keep0 E38
 have O := O.keep0 E38
 have hL := hL.keep0 E38
 have hW := hW.keep0 E38
 have hQ := hQ.keepG (Gr.of0 E38 NoB) (fun _ _ h => h)
 have hb := hb.step0 E38
 refine reg_nil ?_
 refine hK35 _ _ ?_
 refine seq_any fun K41 hK41 => ?_
 refine one_reg ?_
 refine op_move (ev_base hN rfl s0) ?_
 refine op_move (ev_base hN rfl s1) ?_
 refine op_mkfn (cv := [(ptr b37 0)]) ⟨(ev_hit hN rfl), trivial⟩ ?_
 refine op_fn (vs := [(ptr k 0), (Value.int .i64 ((i : Nat) : Int)), (Value.func (.func 87) #[] #[(ptr b37 0)])]) ok86 ⟨(ev_hit hN rfl), ⟨(ev_hit hN rfl), ⟨(ev_hit hN rfl), trivial⟩⟩⟩ (ofHead_ret (by omega) hn hi hc hx O hL hW hQ dj40 (by omega) hB39) ?_
 rintro _ w43 ⟨E44, rfl, hB42, F42, hp42, hN42⟩
 have bd45 := hx.lt
 have bd46 := O.lt
 have bd47 := hL.lt
 have bd48 := hW.lt
 have bd49 := hB39.lt
 have dj50 : ¬ (fun x => Fi x ∨ x = b37) k := fun hy => by
   rcases hy with hy | hy
   · exact dk0 hy
   · exact hx.ne hB39 (by decide) hy
 have dj51 : Dj (Bl lv) (fun x => Fi x ∨ x = b37) := fun x hx hy => by
   rcases hy with hy | rfl
   · exact dlv0 x hx hy
   · exact O.neB hB39 (by decide) hx
 have dj52 : Dj (Bl la) (fun x => Fi x ∨ x = b37) := fun x hx hy => by
   rcases hy with hy | rfl
   · exact dla0 x hx hy
   · exact hL.neB hB39 (by decide) hx
 have dj53 : Dj (Bl ow) (fun x => Fi x ∨ x = b37) := fun x hx hy => by
   rcases hy with hy | rfl
   · exact dow0 x hx hy
   · exact hW.neB hB39 (by decide) hx
 have z_w43 := E44.size
 have hx := hx.keepG E44 dj50
 have O := O.keepG E44 dj51
 have hL := hL.keepG E44 dj52
 have hW := hW.keepG E44 dj53
 have hb := hb.stepF E44 (fun x hx hy => by
   rcases hy with hy | rfl
   · exact hy
   · omega)
 have dj54 : ¬ F42 k := ne_stepF hN42 bd45 dk0
 have dj55 : Dj (Bl lv) F42 := Dj.stepF hN42 (fun k hk => (bd46 k hk).2) dlv0
 have dj56 : Dj (Bl la) F42 := Dj.stepF hN42 (fun k hk => (bd47 k hk).2) dla0
 have dj57 : Dj (Bl ow) F42 := Dj.stepF hN42 (fun k hk => (bd48 k hk).2) dow0
 refine op_assign (ev_hit hN rfl) ?_
 refine reg_nil ?_
 refine hK41 _ _ ?_
 refine seq_any fun K58 hK58 => ?_
 refine reg_still mixed (by kernel_rfl) ?_
 intro w60 E59
 have z_w60 := E59.size
 have hx := hx.keep0 E59
 have O := O.keep0 E59
 have hL := hL.keep0 E59
 have hW := hW.keep0 E59
 have hp42 := hp42.keepG (Gr.of0 E59 NoB) (fun _ _ h => h)
 have hB42 := hB42.keep0 E59
 have hb := hb.step0 E59
 refine st_step rfl (fun _ h9 => op_move (ev_hit hN rfl) h9) ?_
 refine st_step rfl (fun _ h9 => op_load1 (v := (Value.bool (decide (0 < T.length)))) one4 (ev_hit hN rfl) (hB42.cell rfl) h9) ?_
 refine st_step rfl (fun _ h9 => op_assign (ev_hit hN rfl) h9) ?_
 refine st_step rfl (fun _ h9 => op_assign (ev_hit hN rfl) h9) ?_
 refine st_nil ?_
 refine hK58 _ _ ?_
 refine wp_ret ?_
 refine ret2 rfl hd (ev_hit hN rfl) (ev_hit hN rfl) ⟨_, rfl, ?_⟩
 -- path
 exact ⟨hb, rfl, F42, hp42, hN42.mono (by omega)⟩

theorem SayIn (x : List UInt8) {C : List KC} {n i k m p base : Nat} {lv la ow : Value} {l o : List UInt16} {T : List (List UInt8)} {Fi : Nat → Prop} {w : World} (hbase : base ≤ w.heap.size) (hn : n ≤ 6) (hi : i < n) (hc : C.length = n ∧ C.getD i default = ⟨la, ow, p, Fi⟩) (hx : Bx w k 134 [lv, .map (some m)]) (O : Own w base 137 3 lv n (C.flatMap cellsK)) (hL : Own w base 46 1 la l.length (l.map u16v)) (hW : Own w base 46 1 ow o.length (o.map u16v)) (hQ : PostS w base p 16 T Fi) : Ret Try.prog 40 #[(ptr k 0), (Value.int .i64 ((i : Nat) : Int)), (Value.string (bs x))] w (fun v' w' => Gr w w' Fi ∧ v' = .int .i64 (if T.length < 16 then 0 else 25) ∧ PostS w' base p 16 (postL 16 T x) Fi) := by
 have dk0 : ¬ Fi k := hQ.notBx hx (by decide) (by decide)
 have dlv0 : Dj (Bl lv) Fi := hQ.notOwn O (by decide) (by decide)
 have dla0 : Dj (Bl la) Fi := hQ.notOwn hL (by decide) (by decide)
 have dow0 : Dj (Bl ow) Fi := hQ.notOwn hW (by decide) (by decide)
 have hb := Gr.refl w Fi
 refine enter (N := 34) Try.func40 rfl rfl (by simp) fun a0 hN hd hA => ?_
 have s0 : a0.tmps.getD 0 undef = (ptr k 0) := hA 0 (by simp)
 have s1 : a0.tmps.getD 1 undef = (Value.int .i64 ((i : Nat) : Int)) := hA 1 (by simp)
 have s2 : a0.tmps.getD 2 undef = (Value.string (bs x)) := hA 2 (by simp)
 clear hA
 refine seq_any fun K61 hK61 => ?_
 refine one_reg ?_
 refine op_assign rfl ?_
 refine reg_nil ?_
 refine hK61 _ _ ?_
 refine seq_any fun K62 hK62 => ?_
 refine wp_block ?_
 refine seq_any fun K63 hK63 => ?_
 refine one_reg ?_
 refine op_move (ev_base hN rfl s0) ?_
 refine op_peq_some ptrt50 (ev_hit hN rfl) rfl ?_
 refine op_assign (ev_hit hN rfl) ?_
 refine reg_nil ?_
 refine hK63 _ _ ?_
 refine wp_cond_false (ev_hit hN rfl) ?_
 refine seq_any fun K64 hK64 => ?_
 refine one_reg ?_
 refine op_move (ev_base hN rfl s1) ?_
 refine op_lss (ev_hit hN rfl) rfl (fun c12 => ?_) (fun c12 => ?_)
 · -- 12T
  exfalso; omega
 · -- 12F
  refine op_move (ev_hit hN rfl) ?_
  refine g_true (j := 2) (dj := 13) (b := false) rfl rfl rfl (ev_hit hN rfl) ?_
  refine op_move (ev_base hN rfl s1) ?_
  refine g_true (j := 2) (dj := 13) (b := false) rfl rfl rfl (ev_hit hN rfl) ?_
  refine op_move (ev_base hN rfl s0) ?_
  refine g_true (j := 2) (dj := 13) (b := false) rfl rfl rfl (ev_hit hN rfl) ?_
  refine op_nil (ev_hit hN rfl) ?_
  refine g_true (j := 2) (dj := 13) (b := false) rfl rfl rfl (ev_hit hN rfl) ?_
  refine op_field fld134_0 (ev_hit hN rfl) ?_
  refine g_true (j := 2) (dj := 13) (b := false) rfl rfl rfl (ev_hit hN rfl) ?_
  refine op_load1 (v := lv) one132 (ev_hit hN rfl) (hx.cell rfl) ?_
  refine g_true (j := 2) (dj := 13) (b := false) rfl rfl rfl (ev_hit hN rfl) ?_
  refine op_len_rd Try.underlying132 (ev_hit hN rfl) O.rdw ?_
  refine g_true (j := 2) (dj := 13) (b := false) rfl rfl rfl (ev_hit hN rfl) ?_
  refine op_geq (ev_hit hN rfl) (ev_hit hN rfl) (fun c20 => ?_) (fun c20 => ?_)
  · -- 20T
   exfalso; omega
  · -- 20F
   refine op_pick_f (ev_hit hN rfl) (ev_hit hN rfl) ?_
   refine op_assign (ev_hit hN rfl) ?_
   refine reg_nil ?_
   refine hK64 _ _ ?_
   refine wp_cond_false (ev_hit hN rfl) ?_
   refine seq_any fun K65 hK65 => ?_
   refine one_reg ?_
   refine op_move (ev_base hN rfl s0) ?_
   refine op_nil (ev_hit hN rfl) ?_
   refine op_field fld134_0 (ev_hit hN rfl) ?_
   refine op_load1 (v := lv) one132 (ev_hit hN rfl) (hx.cell rfl) ?_
   refine op_move (ev_base hN rfl s1) ?_
   refine op_index_rd slt132 (ev_hit hN rfl) O.rdw (ev_hit hN rfl) (by omega) (by omega) ?_
   intro b66 o67 h0b66 h1b66 hc68
   refine op_field fld137_2 (ev_hit hN rfl) ?_
   refine op_load1 (v := (ptr p 0)) one24 (ev_hit hN rfl) (hc68 2 ((ptr p 0)) (by decide) ((el_kc hc (by omega) (by omega)) 2 ((ptr p 0)) rfl)) ?_
   refine op_move (ev_base hN rfl s2) ?_
   refine op_fn (vs := [(ptr p 0), (Value.string (bs x))]) ok18 ⟨(ev_hit hN rfl), ⟨(ev_hit hN rfl), trivial⟩⟩ (PutR_s x (by omega) hQ) ?_
   rintro _ w70 ⟨E71, rfl, hp69⟩
   have hQ_old := hQ
   have z_w70 := E71.size
   have hx := hx.keepG E71 dk0
   have O := O.keepG E71 dlv0
   have hL := hL.keepG E71 dla0
   have hW := hW.keepG E71 dow0
   have hb := hb.stepF E71 (fun _ _ h => h)
   refine op_not (ev_hit hN rfl) ?_
   refine op_assign (ev_hit hN rfl) ?_
   refine reg_nil ?_
   refine hK65 _ _ ?_
   refine wp_cond_split (ev_hit hN rfl) (fun c22 => ?_) (fun c22 => ?_)
   · -- 22T
    refine seq_any fun K72 hK72 => ?_
    refine one_reg ?_
    refine op_assign rfl ?_
    refine reg_nil ?_
    refine hK72 _ _ ?_
    refine wp_ret (blk_ret (then_ret ( ?_)))
    refine ret1 rfl hd (ev_hit hN rfl) ⟨_, rfl, ?_⟩
    -- path 12F 20F 22T
    exact ⟨hb, congrArg (Value.int .i64) (if_neg (by have := c22; simp at this; omega)).symm, hp69⟩
   · -- 22F
    refine wp_skip ?_
    refine hK62 _ _ ?_
    refine seq_any fun K73 hK73 => ?_
    refine one_reg ?_
    refine op_assign rfl ?_
    refine reg_nil ?_
    refine hK73 _ _ ?_
    refine wp_ret ?_
    refine ret1 rfl hd (ev_hit hN rfl) ⟨_, rfl, ?_⟩
    -- path 12F 20F 22F
    exact ⟨hb, congrArg (Value.int .i64) (if_pos (by have := c22; simp at this; omega)).symm, hp69⟩

theorem LabelOut {C : List KC} {n k m base : Nat} {lv : Value} {s : Int}  {w : World} (hbase : base ≤ w.heap.size) (hn : n ≤ 6) (hC : C.length = n) (hx : Bx w k 134 [lv, .map (some m)]) (O : Own w base 137 3 lv n (C.flatMap cellsK)) (hs : s < 0 ∨ (n : Int) ≤ s) : Ret Try.prog 37 #[(ptr k 0), (Value.int .i64 s)] w (fun v' w' => Below w.heap.size w w' ∧ v' = .slice none 0 0) := by
 have hb := Below.refl w.heap.size w
 refine enter (N := 8) Try.func37 rfl rfl (by simp) fun a0 hN hd hA => ?_
 have s0 : a0.tmps.getD 0 undef = (ptr k 0) := hA 0 (by simp)
 have s1 : a0.tmps.getD 1 undef = (Value.int .i64 s) := hA 1 (by simp)
 clear hA
 refine seq_any fun K74 hK74 => ?_
 refine one_reg ?_
 refine op_assign rfl ?_
 refine reg_nil ?_
 refine hK74 _ _ ?_
 refine seq_any fun K75 hK75 => ?_
 refine one_reg ?_
 refine op_move (ev_base hN rfl s0) ?_
 refine op_move (ev_base hN rfl s1) ?_
 refine op_fn (vs := [(ptr k 0), (Value.int .i64 s), (Value.func (.func 82) #[] #[])]) ok81 ⟨(ev_hit hN rfl), ⟨(ev_hit hN rfl), ⟨rfl, trivial⟩⟩⟩ (ofLabelOut_ret (base := base) (by omega) hn hC hx O (by omega)) ?_
 rintro _ w76 ⟨E77, rfl⟩
 have E77 := grown_of_below E77
 have z_w76 := E77.size
 have hx := hx.keep0 E77
 have O := O.keep0 E77
 have hb := below_step0 hb E77 hb.size
 refine op_assign (ev_hit hN rfl) ?_
 refine reg_nil ?_
 refine hK75 _ _ ?_
 refine wp_ret ?_
 refine ret1 rfl hd (ev_hit hN rfl) ⟨_, rfl, ?_⟩
 -- path
 exact ⟨hb, rfl⟩

theorem OwnsOut {C : List KC} {n k m base : Nat} {lv : Value} {s : Int}  {w : World} (hbase : base ≤ w.heap.size) (hn : n ≤ 6) (hC : C.length = n) (hx : Bx w k 134 [lv, .map (some m)]) (O : Own w base 137 3 lv n (C.flatMap cellsK)) (hs : s < 0 ∨ (n : Int) ≤ s) : Ret Try.prog 38 #[(ptr k 0), (Value.int .i64 s)] w (fun v' w' => Below w.heap.size w w' ∧ v' = .slice none 0 0) := by
 have hb := Below.refl w.heap.size w
 refine enter (N := 8) Try.func38 rfl rfl (by simp) fun a0 hN hd hA => ?_
 have s0 : a0.tmps.getD 0 undef = (ptr k 0) := hA 0 (by simp)
 have s1 : a0.tmps.getD 1 undef = (Value.int .i64 s) := hA 1 (by simp)
 clear hA
 refine seq_any fun K78 hK78 => ?_
 refine one_reg ?_
 refine op_assign rfl ?_
 refine reg_nil ?_
 refine hK78 _ _ ?_
 refine seq_any fun K79 hK79 => ?_
 refine one_reg ?_
 refine op_move (ev_base hN rfl s0) ?_
 refine op_move (ev_base hN rfl s1) ?_
 refine op_fn (vs := [(ptr k 0), (Value.int .i64 s), (Value.func (.func 83) #[] #[])]) ok81 ⟨(ev_hit hN rfl), ⟨(ev_hit hN rfl), ⟨rfl, trivial⟩⟩⟩ (ofLabelOut_ret (base := base) (by omega) hn hC hx O (by omega)) ?_
 rintro _ w80 ⟨E81, rfl⟩
 have E81 := grown_of_below E81
 have z_w80 := E81.size
 have hx := hx.keep0 E81
 have O := O.keep0 E81
 have hb := below_step0 hb E81 hb.size
 refine op_assign (ev_hit hN rfl) ?_
 refine reg_nil ?_
 refine hK79 _ _ ?_
 refine wp_ret ?_
 refine ret1 rfl hd (ev_hit hN rfl) ⟨_, rfl, ?_⟩
 -- path
 exact ⟨hb, rfl⟩

theorem WaitOut {C : List KC} {n k m base : Nat} {lv : Value} {s : Int}  {w : World} (hbase : base ≤ w.heap.size) (hn : n ≤ 6) (hC : C.length = n) (hx : Bx w k 134 [lv, .map (some m)]) (O : Own w base 137 3 lv n (C.flatMap cellsK)) (hs : s < 0 ∨ (n : Int) ≤ s) : Ret Try.prog 39 #[(ptr k 0), (Value.int .i64 s)] w (fun v' w' => Below w.heap.size w w' ∧ v' = .int .i64 0) := by
 have hb := Below.refl w.heap.size w
 refine enter (N := 8) Try.func39 rfl rfl (by simp) fun a0 hN hd hA => ?_
 have s0 : a0.tmps.getD 0 undef = (ptr k 0) := hA 0 (by simp)
 have s1 : a0.tmps.getD 1 undef = (Value.int .i64 s) := hA 1 (by simp)
 clear hA
 refine seq_any fun K82 hK82 => ?_
 refine one_reg ?_
 refine op_assign rfl ?_
 refine reg_nil ?_
 refine hK82 _ _ ?_
 refine seq_any fun K83 hK83 => ?_
 refine one_reg ?_
 refine op_move (ev_base hN rfl s0) ?_
 refine op_move (ev_base hN rfl s1) ?_
 refine op_fn (vs := [(ptr k 0), (Value.int .i64 s), (Value.func (.func 85) #[] #[])]) ok84 ⟨(ev_hit hN rfl), ⟨(ev_hit hN rfl), ⟨rfl, trivial⟩⟩⟩ (ofIntOut_ret (base := base) (by omega) hn hC hx O (by omega)) ?_
 rintro _ w84 ⟨E85, rfl⟩
 have E85 := grown_of_below E85
 have z_w84 := E85.size
 have hx := hx.keep0 E85
 have O := O.keep0 E85
 have hb := below_step0 hb E85 hb.size
 refine op_assign (ev_hit hN rfl) ?_
 refine reg_nil ?_
 refine hK83 _ _ ?_
 refine wp_ret ?_
 refine ret1 rfl hd (ev_hit hN rfl) ⟨_, rfl, ?_⟩
 -- path
 exact ⟨hb, rfl⟩

theorem HeadOut {C : List KC} {n k m base : Nat} {lv : Value} {s : Int}  {w : World} (hbase : base ≤ w.heap.size) (hn : n ≤ 6) (hC : C.length = n) (hx : Bx w k 134 [lv, .map (some m)]) (O : Own w base 137 3 lv n (C.flatMap cellsK)) (hs : s < 0 ∨ (n : Int) ≤ s) : Ret Try.prog 41 #[(ptr k 0), (Value.int .i64 s)] w (fun v' w' => Below w.heap.size w w' ∧ v' = .tuple #[.string (bs []), .bool false]) := by
 have hb := Below.refl w.heap.size w
 refine enter (N := 14) Try.func41 rfl rfl (by simp) fun a0 hN hd hA => ?_
 have s0 : a0.tmps.getD 0 undef = (ptr k 0) := hA 0 (by simp)
 have s1 : a0.tmps.getD 1 undef = (Value.int .i64 s) := hA 1 (by simp)
 clear hA
 refine seq_any fun K90 hK90 => ?_
 refine one_reg ?_
 refine op_assign rfl ?_
 refine op_assign rfl ?_
 refine reg_nil ?_
 refine hK90 _ _ ?_
 refine seq_any fun K91 hK91 => ?_
 refine one_reg ?_
 refine op_alloc (cs := [(Value.bool false)]) zero4 rfl ?_
 intro w92 b93 lo_b93 hi_b93 hB95 E94
 have z_w92 := E94.size
 have hx := hx.keep0 E94
 have O := O.keep0 E94
 have hb := below_step0 hb E94 hb.size
 refine reg_nil ?_
 refine hK91 _ _ ?_
 refine seq_any fun K96 hK96 => ?_
 refine one_reg ?_
 refine op_move (ev_base hN rfl s0) ?_
 refine op_move (ev_base hN rfl s1) ?_
 refine op_mkfn (cv := [(ptr b93 0)]) ⟨(ev_hit hN rfl), trivial⟩ ?_
 refine op_fn (vs := [(ptr k 0), (Value.int .i64 s), (Value.func (.func 87) #[] #[(ptr b93 0)])]) ok86 ⟨(ev_hit hN rfl), ⟨(ev_hit hN rfl), ⟨(ev_hit hN rfl), trivial⟩⟩⟩ (ofStrOut_ret (base := base) (by omega) hn hC hx O (by omega)) ?_
 rintro _ w97 ⟨E98, rfl⟩
 have E98 := grown_of_below E98
 have z_w97 := E98.size
 have hx := hx.keep0 E98
 have O := O.keep0 E98
 have hB95 := hB95.keep0 E98
 have hb := below_step0 hb E98 hb.size
 refine op_assign (ev_hit hN rfl) ?_
 refine reg_nil ?_
 refine hK96 _ _ ?_
 refine seq_any fun K99 hK99 => ?_
 refine reg_still mixed (by kernel_rfl) ?_
 intro w101 E100
 have z_w101 := E100.size
 have hx := hx.keep0 E100
 have O := O.keep0 E100
 have hB95 := hB95.keep0 E100
 have hb := below_step0 hb E100 hb.size
 refine st_step rfl (fun _ h9 => op_move (ev_hit hN rfl) h9) ?_
 refine st_step rfl (fun _ h9 => op_load1 (v := (Value.bool false)) one4 (ev_hit hN rfl) (hB95.cell rfl) h9) ?_
 refine st_step rfl (fun _ h9 => op_assign (ev_hit hN rfl) h9) ?_
 refine st_step rfl (fun _ h9 => op_assign (ev_hit hN rfl) h9) ?_
 refine st_nil ?_
 refine hK99 _ _ ?_
 refine wp_ret ?_
 refine ret2 rfl hd (ev_hit hN rfl) (ev_hit hN rfl) ⟨_, rfl, ?_⟩
 -- path
 exact ⟨hb, rfl⟩

theorem SayOut (x : List UInt8) {C : List KC} {n k m base : Nat} {lv : Value} {s : Int}  {w : World} (hbase : base ≤ w.heap.size) (hn : n ≤ 6) (hC : C.length = n) (hx : Bx w k 134 [lv, .map (some m)]) (O : Own w base 137 3 lv n (C.flatMap cellsK)) (hs : s < 0 ∨ (n : Int) ≤ s) : Ret Try.prog 40 #[(ptr k 0), (Value.int .i64 s), (Value.string (bs x))] w (fun v' w' => Below w.heap.size w w' ∧ v' = .int .i64 22) := by
 have hb := Below.refl w.heap.size w
 refine enter (N := 34) Try.func40 rfl rfl (by simp) fun a0 hN hd hA => ?_
 have s0 : a0.tmps.getD 0 undef = (ptr k 0) := hA 0 (by simp)
 have s1 : a0.tmps.getD 1 undef = (Value.int .i64 s) := hA 1 (by simp)
 have s2 : a0.tmps.getD 2 undef = (Value.string (bs x)) := hA 2 (by simp)
 clear hA
 refine seq_any fun K102 hK102 => ?_
 refine one_reg ?_
 refine op_assign rfl ?_
 refine reg_nil ?_
 refine hK102 _ _ ?_
 refine seq_any fun K103 hK103 => ?_
 refine wp_block ?_
 refine seq_any fun K104 hK104 => ?_
 refine one_reg ?_
 refine op_move (ev_base hN rfl s0) ?_
 refine op_peq_some ptrt50 (ev_hit hN rfl) rfl ?_
 refine op_assign (ev_hit hN rfl) ?_
 refine reg_nil ?_
 refine hK104 _ _ ?_
 refine wp_cond_false (ev_hit hN rfl) ?_
 refine seq_any fun K105 hK105 => ?_
 refine one_reg ?_
 refine op_move (ev_base hN rfl s1) ?_
 refine op_lss (ev_hit hN rfl) rfl (fun c12 => ?_) (fun c12 => ?_)
 · -- 12T
  refine op_move (ev_hit hN rfl) ?_
  refine g_false (j := 2) (dj := 13) (b := false) rfl rfl rfl (ev_hit hN rfl) rfl rfl ?_
  refine g_false (j := 2) (dj := 13) (b := false) rfl rfl rfl (ev_hit hN rfl) rfl rfl ?_
  refine g_false (j := 2) (dj := 13) (b := false) rfl rfl rfl (ev_hit hN rfl) rfl rfl ?_
  refine g_false (j := 2) (dj := 13) (b := false) rfl rfl rfl (ev_hit hN rfl) rfl rfl ?_
  refine g_false (j := 2) (dj := 13) (b := false) rfl rfl rfl (ev_hit hN rfl) rfl rfl ?_
  refine g_false (j := 2) (dj := 13) (b := false) rfl rfl rfl (ev_hit hN rfl) rfl rfl ?_
  refine g_false (j := 2) (dj := 13) (b := false) rfl rfl rfl (ev_hit hN rfl) rfl rfl ?_
  refine op_pick_t (ev_hit hN rfl) rfl ?_
  refine op_assign (ev_hit hN rfl) ?_
  refine reg_nil ?_
  refine hK105 _ _ ?_
  refine wp_cond_true (ev_hit hN rfl) ?_
  refine seq_any fun K106 hK106 => ?_
  refine one_reg ?_
  refine op_assign rfl ?_
  refine reg_nil ?_
  refine hK106 _ _ ?_
  refine wp_ret (blk_ret (then_ret ( ?_)))
  refine ret1 rfl hd (ev_hit hN rfl) ⟨_, rfl, ?_⟩
  -- path 12T
  exact ⟨hb, rfl⟩
 · -- 12F
  refine op_move (ev_hit hN rfl) ?_
  refine g_true (j := 2) (dj := 13) (b := false) rfl rfl rfl (ev_hit hN rfl) ?_
  refine op_move (ev_base hN rfl s1) ?_
  refine g_true (j := 2) (dj := 13) (b := false) rfl rfl rfl (ev_hit hN rfl) ?_
  refine op_move (ev_base hN rfl s0) ?_
  refine g_true (j := 2) (dj := 13) (b := false) rfl rfl rfl (ev_hit hN rfl) ?_
  refine op_nil (ev_hit hN rfl) ?_
  refine g_true (j := 2) (dj := 13) (b := false) rfl rfl rfl (ev_hit hN rfl) ?_
  refine op_field fld134_0 (ev_hit hN rfl) ?_
  refine g_true (j := 2) (dj := 13) (b := false) rfl rfl rfl (ev_hit hN rfl) ?_
  refine op_load1 (v := lv) one132 (ev_hit hN rfl) (hx.cell rfl) ?_
  refine g_true (j := 2) (dj := 13) (b := false) rfl rfl rfl (ev_hit hN rfl) ?_
  refine op_len_rd Try.underlying132 (ev_hit hN rfl) O.rdw ?_
  refine g_true (j := 2) (dj := 13) (b := false) rfl rfl rfl (ev_hit hN rfl) ?_
  refine op_geq (ev_hit hN rfl) (ev_hit hN rfl) (fun c20 => ?_) (fun c20 => ?_)
  · -- 20T
   refine op_pick_f (ev_hit hN rfl) (ev_hit hN rfl) ?_
   refine op_assign (ev_hit hN rfl) ?_
   refine reg_nil ?_
   refine hK105 _ _ ?_
   refine wp_cond_true (ev_hit hN rfl) ?_
   refine seq_any fun K107 hK107 => ?_
   refine one_reg ?_
   refine op_assign rfl ?_
   refine reg_nil ?_
   refine hK107 _ _ ?_
   refine wp_ret (blk_ret (then_ret ( ?_)))
   refine ret1 rfl hd (ev_hit hN rfl) ⟨_, rfl, ?_⟩
   -- path 12F 20T
   exact ⟨hb, rfl⟩
  · -- 20F
   exfalso; omega

end Go.Proofs.Ytmhdbphpmgjpcaa

/- Walks, written by a program: what each function of the translation hands back. -/
namespace Go.Proofs.Ytmhdbphpmgjpcaa
open Go.Gx Go.RowKit
attribute [local irreducible] wpList wpStill Code.wp Calls
open Go.Sort (bitsLen)
end Go.Proofs.Ytmhdbphpmgjpcaa

/- Walks, written by a program: what each function of the translation hands back. -/
namespace Go.Proofs.Ytmhdbphpmgjpcaa
open Go.Gx Go.RowKit
attribute [local irreducible] wpList wpStill Code.wp Calls
open Go.Sort (bitsLen)
end Go.Proofs.Ytmhdbphpmgjpcaa

/- Walks, written by a program: what each function of the translation hands back. -/
namespace Go.Proofs.Ytmhdbphpmgjpcaa
open Go.Gx Go.RowKit
attribute [local irreducible] wpList wpStill Code.wp Calls
open Go.Sort (bitsLen)
end Go.Proofs.Ytmhdbphpmgjpcaa

/- Plain laws of rows: what is written is read, cut off it is short, with more behind it is none, and what is read is what is written. -/
namespace Go.Proofs.Ytmhdbphpmgjpcaa
open Go.Gx
end Go.Proofs.Ytmhdbphpmgjpcaa

/- Plain laws of labels' bytes and of index keys. -/
namespace Go.Proofs.Ytmhdbphpmgjpcaa
open Go.Gx
/-! how keys stand -/
end Go.Proofs.Ytmhdbphpmgjpcaa
