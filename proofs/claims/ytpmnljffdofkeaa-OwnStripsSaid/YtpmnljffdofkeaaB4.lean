/- Walks, written by a program: what each function of the translation hands back. -/
import Derived.Test.YtpmnljffdofkeaaB3
namespace Go.Proofs.Ytpmnljffdofkeaa
open Go.Gx Go.RowKit
attribute [local irreducible] wpList wpStill Code.wp Calls
open Go.Sort (insertionSort insOuter insInner swp siftDown heapSort heapBuild heapPop scanUp scanDown partition partLoop partitionEqual partEqLoop scanSorted partialIns bitsLen partialInsertionSort shiftDown shiftUp SortedIn reverseRange reverseLoop fixDown fixUp)
set_option maxHeartbeats 2000000 in
theorem partialW_ret (d : Ar) (v : Value) (n base : Nat) (a b : Nat) (w : World) (hd : d.size = n) (hn : n ≤ 4000000000000000000) (O : Own w base 35 1 v n (d.toList.map u16v)) (hab : a < b) (hbn : b ≤ n) : Ret Try.prog 71 #[v, (Value.int .i64 ((a : Nat) : Int)), (Value.int .i64 ((b : Nat) : Int))] w (fun v' w' => w.grownBy w' v.ownBlock ∧ v' = .bool (partialInsertionSort ltT d a b).2 ∧ Own w' base 35 1 v n ((partialInsertionSort ltT d a b).1.toList.map u16v)) := by
 have hb := grown_refl w v.ownBlock
 refine enter (N := 133) Try.func71 rfl rfl (by simp) fun a0 hN hd hA => ?_
 have s0 : a0.tmps.getD 0 undef = v := hA 0 (by simp)
 have s1 : a0.tmps.getD 1 undef = (Value.int .i64 ((a : Nat) : Int)) := hA 1 (by simp)
 have s2 : a0.tmps.getD 2 undef = (Value.int .i64 ((b : Nat) : Int)) := hA 2 (by simp)
 clear hA
 refine seq_any fun K256 hK256 => ?_
 refine one_reg ?_
 refine op_assign rfl ?_
 refine reg_nil ?_
 refine hK256 _ _ ?_
 refine seq_any fun K257 hK257 => ?_
 refine one_reg ?_
 refine op_move (ev_base hN rfl s1) ?_
 refine op_add (ev_hit hN rfl) rfl (add64 (by omega)) ?_
 refine op_assign (ev_hit hN rfl) ?_
 refine reg_nil ?_
 refine hK257 _ _ ?_
 refine seq_any fun K258 hK258 => ?_
 refine seq_any fun K259 hK259 => ?_
 refine one_reg ?_
 refine op_assign rfl ?_
 refine reg_nil ?_
 refine hK259 _ _ ?_
 refine wp_block ?_
 refine loop_m (fun mz_ az_ w' => ∃ (s ii : Nat) (dk : Ar), mz_ = (5 - s) ∧ (az_.tmps.getD 0 undef = v) ∧ (az_.tmps.getD 1 undef = (Value.int .i64 ((a : Nat) : Int))) ∧ (az_.tmps.getD 2 undef = (Value.int .i64 ((b : Nat) : Int))) ∧ (az_.tmps.getD 8 undef = (Value.int .i64 ((s : Nat) : Int))) ∧ (az_.tmps.getD 7 undef = (Value.int .i64 ((ii : Nat) : Int))) ∧ (dk.size = n) ∧ (s ≤ 5 ∧ a + 1 ≤ ii ∧ ii ≤ b) ∧ (partialIns ltT a b 5 (a + 1) d = partialIns ltT a b (5 - s) ii dk) ∧ (w.grownBy w' v.ownBlock) ∧ (w.heap.size ≤ w'.heap.size) ∧ (Own w' base 35 1 v n (dk.toList.map u16v))) _ hN hd ⟨0, (a + 1), _, rfl, (sl_base hN rfl s0), (sl_base hN rfl s1), (sl_base hN rfl s2), (sl_hit hN rfl).trans (congrArg (Value.int .i64) (by omega)), (sl_hit hN rfl).trans (congrArg (Value.int .i64) (by omega)), (by first | assumption | (simp only [Array.size_setIfInBounds, swp_sz, siftDown_size]; assumption)), (by omega), rfl, hb, (Nat.le_refl _), O⟩ ?_
 rintro _ a260 w260 hN260 hd260 ⟨s, ii, dk, rfl, s260_0, s260_1, s260_2, s260_8, s260_7, hdk, hr1, hs, hb, zl_w260, hO261⟩
 have z_w260 := hb.size
 refine seq_any fun K262 hK262 => ?_
 refine seq_any fun K263 hK263 => ?_
 refine one_reg ?_
 refine op_move (ev_base hN260 rfl s260_8) ?_
 refine op_lss (ev_hit hN260 rfl) rfl (fun c14 => ?_) (fun c14 => ?_)
 · -- 14T
  refine reg_nil ?_
  refine hK263 _ _ ?_
  refine wp_cond_true (ev_hit hN260 rfl) ?_
  refine wp_skip ?_
  refine hK262 _ _ ?_
  refine seq_any fun K264 hK264 => ?_
  refine wp_block ?_
  refine seq_join1 (N := 133) (fun az_ w' => ∃ (i2 : Nat), (az_.tmps.getD 0 undef = v) ∧ (az_.tmps.getD 1 undef = (Value.int .i64 ((a : Nat) : Int))) ∧ (az_.tmps.getD 2 undef = (Value.int .i64 ((b : Nat) : Int))) ∧ (az_.tmps.getD 8 undef = (Value.int .i64 ((s : Nat) : Int))) ∧ (az_.tmps.getD 7 undef = (Value.int .i64 ((i2 : Nat) : Int))) ∧ (ii ≤ i2 ∧ i2 ≤ b) ∧ (scanSorted ltT dk b ii = i2) ∧ (w.grownBy w' v.ownBlock) ∧ (w260.heap.size ≤ w'.heap.size) ∧ (Own w' base 35 1 v n (dk.toList.map u16v))) (fun hJ265 => ?_) ?_
  ·
   refine seq_any fun K266 hK266 => ?_
   refine wp_block ?_
   refine loop_m (fun mz_ az_ w' => ∃ (i2 : Nat), mz_ = (b + 1 - i2) ∧ (az_.tmps.getD 0 undef = v) ∧ (az_.tmps.getD 1 undef = (Value.int .i64 ((a : Nat) : Int))) ∧ (az_.tmps.getD 2 undef = (Value.int .i64 ((b : Nat) : Int))) ∧ (az_.tmps.getD 8 undef = (Value.int .i64 ((s : Nat) : Int))) ∧ (az_.tmps.getD 7 undef = (Value.int .i64 ((i2 : Nat) : Int))) ∧ (ii ≤ i2 ∧ i2 ≤ b) ∧ (scanSorted ltT dk b ii = scanSorted ltT dk b i2) ∧ (w.grownBy w' v.ownBlock) ∧ (w260.heap.size ≤ w'.heap.size) ∧ (Own w' base 35 1 v n (dk.toList.map u16v))) _ hN260 hd260 ⟨ii, rfl, (sl_base hN260 rfl s260_0), (sl_base hN260 rfl s260_1), (sl_base hN260 rfl s260_2), (sl_base hN260 rfl s260_8), (sl_base hN260 rfl s260_7).trans (congrArg (Value.int .i64) (by omega)), (by omega), rfl, hb, (Nat.le_refl _), hO261⟩ ?_
   rintro _ a267 w267 hN267 hd267 ⟨i2, rfl, s267_0, s267_1, s267_2, s267_8, s267_7, hr2, hq1, hb, zl_w267, hO261⟩
   have z_w267 := hb.size
   refine seq_any fun K268 hK268 => ?_
   refine seq_any fun K269 hK269 => ?_
   refine reg_still mixed (by kernel_rfl) ?_
   intro w271 E270
   have z_w271 := E270.size
   have hO261 := hO261.keep0 E270
   have hb := grow_step0 hb E270
   refine st_step rfl (fun _ h9 => op_move (ev_base hN267 rfl s267_7) h9) ?_
   refine st_step rfl (fun _ h9 => op_move (ev_base hN267 rfl s267_2) h9) ?_
   by_cases g19 : ((i2 : Nat) : Int) < ((b : Nat) : Int)
   · -- 19T
    refine st_step rfl (fun _ h9 => op_cmp (b := true) (ev_hit hN267 rfl) (ev_hit hN267 rfl) (b_lss (decide_eq_true g19)) h9) ?_
    refine st_step rfl (fun _ h9 => op_move (ev_hit hN267 rfl) h9) ?_
    refine st_g_true (j := 3) (dj := 20) (b := true) rfl rfl rfl (ev_hit hN267 rfl) ?_
    refine st_step rfl (fun _ h9 => op_move (ev_base hN267 rfl s267_0) h9) ?_
    refine st_g_true (j := 3) (dj := 20) (b := true) rfl rfl rfl (ev_hit hN267 rfl) ?_
    refine st_step rfl (fun _ h9 => op_move (ev_base hN267 rfl s267_7) h9) ?_
    refine st_g_true (j := 3) (dj := 20) (b := true) rfl rfl rfl (ev_hit hN267 rfl) ?_
    refine st_index_rd slt22 (ev_hit hN267 rfl) hO261.rdw (ev_hit hN267 rfl) (by omega) (by omega) ?_
    intro b272 o273 h0b272 h1b272 hc274
    refine st_g_true (j := 3) (dj := 20) (b := true) rfl rfl rfl (ev_hit hN267 rfl) ?_
    refine st_step rfl (fun _ h9 => op_load1 (v := (Value.int .u16 (dk[i2]!.toNat : Int))) one35 (ev_hit hN267 rfl) (by have := hc274 0 (Value.int .u16 (dk[i2]!.toNat : Int)) (by decide) (el_arr (i := i2) (by omega) (by first | omega | (simp only [Array.size_setIfInBounds, swp_sz, siftDown_size]; omega))); simpa using this) h9) ?_
    refine st_g_true (j := 3) (dj := 20) (b := true) rfl rfl rfl (ev_hit hN267 rfl) ?_
    refine st_step rfl (fun _ h9 => op_move (ev_base hN267 rfl s267_0) h9) ?_
    refine st_g_true (j := 3) (dj := 20) (b := true) rfl rfl rfl (ev_hit hN267 rfl) ?_
    refine st_step rfl (fun _ h9 => op_move (ev_base hN267 rfl s267_7) h9) ?_
    refine st_g_true (j := 3) (dj := 20) (b := true) rfl rfl rfl (ev_hit hN267 rfl) ?_
    refine st_step rfl (fun _ h9 => op_sub (ev_hit hN267 rfl) rfl (sub64 (by omega)) h9) ?_
    refine st_g_true (j := 3) (dj := 20) (b := true) rfl rfl rfl (ev_hit hN267 rfl) ?_
    refine st_index_rd slt22 (ev_hit hN267 rfl) hO261.rdw (ev_hit hN267 rfl) (by omega) (by omega) ?_
    intro b275 o276 h0b275 h1b275 hc277
    refine st_g_true (j := 3) (dj := 20) (b := true) rfl rfl rfl (ev_hit hN267 rfl) ?_
    refine st_step rfl (fun _ h9 => op_load1 (v := (Value.int .u16 (dk[(i2 - 1)]!.toNat : Int))) one35 (ev_hit hN267 rfl) (by have := hc277 0 (Value.int .u16 (dk[(i2 - 1)]!.toNat : Int)) (by decide) (el_arr (i := (i2 - 1)) (by omega) (by first | omega | (simp only [Array.size_setIfInBounds, swp_sz, siftDown_size]; omega))); simpa using this) h9) ?_
    refine st_g_true (j := 3) (dj := 20) (b := true) rfl rfl rfl (ev_hit hN267 rfl) ?_
    refine st_fn (vs := [(Value.int .u16 (dk[i2]!.toNat : Int)), (Value.int .u16 (dk[(i2 - 1)]!.toNat : Int))]) ok72 (⟨(ev_hit hN267 rfl), ⟨(ev_hit hN267 rfl), trivial⟩⟩) (Less16_ret dk[i2]! dk[(i2 - 1)]! _) ?_
    refine st_g_true (j := 3) (dj := 20) (b := true) rfl rfl rfl (ev_hit hN267 rfl) ?_
    refine st_step rfl (fun _ h9 => op_not (ev_hit hN267 rfl) h9) ?_
    refine st_step rfl (fun _ h9 => op_pick_t (ev_hit hN267 rfl) (ev_hit hN267 rfl) h9) ?_
    refine st_nil ?_
    refine hK269 _ _ ?_
    refine wp_cond_split (ev_hit hN267 rfl) (fun c32 => ?_) (fun c32 => ?_)
    · -- 32T
     refine wp_skip ?_
     refine hK268 _ _ ?_
     refine wp_block ?_
     refine one_reg ?_
     refine op_move (ev_base hN267 rfl s267_7) ?_
     refine op_add (ev_hit hN267 rfl) rfl (add64 (by omega)) ?_
     refine op_assign (ev_hit hN267 rfl) ?_
     refine reg_nil ?_
     refine blk_normal ?_
     -- round 14T 19T 32T
     exact loop_next _ hN267 hd267 ⟨(i2 + 1), rfl, (sl_base hN267 rfl s267_0), (sl_base hN267 rfl s267_1), (sl_base hN267 rfl s267_2), (sl_base hN267 rfl s267_8), (sl_hit hN267 rfl).trans (congrArg (Value.int .i64) (by omega)), (by omega), (hq1.trans (scanSorted_go (by omega) (not_t c32))), hb, (by omega), hO261⟩ (by omega)
    · -- 32F
     refine wp_exit (then_exit (then_exit (blk_hit ?_)))
     refine hK266 _ _ ?_
     exact hJ265 _ _ _ hN267 hd267 ⟨i2, (sl_base hN267 rfl s267_0), (sl_base hN267 rfl s267_1), (sl_base hN267 rfl s267_2), (sl_base hN267 rfl s267_8), (sl_base hN267 rfl s267_7), (by omega), (hq1.trans (scanSorted_stop (.inr (not_f c32)))), hb, (by omega), hO261⟩
   · -- 19F
    refine st_step rfl (fun _ h9 => op_cmp (b := false) (ev_hit hN267 rfl) (ev_hit hN267 rfl) (b_lss (decide_eq_false g19)) h9) ?_
    refine st_step rfl (fun _ h9 => op_move (ev_hit hN267 rfl) h9) ?_
    refine st_g_false (j := 3) (dj := 20) (b := true) rfl rfl rfl (ev_hit hN267 rfl) rfl rfl ?_
    refine st_g_false (j := 3) (dj := 20) (b := true) rfl rfl rfl (ev_hit hN267 rfl) rfl rfl ?_
    refine st_g_false (j := 3) (dj := 20) (b := true) rfl rfl rfl (ev_hit hN267 rfl) rfl rfl ?_
    refine st_g_false (j := 3) (dj := 20) (b := true) rfl rfl rfl (ev_hit hN267 rfl) rfl rfl ?_
    refine st_g_false (j := 3) (dj := 20) (b := true) rfl rfl rfl (ev_hit hN267 rfl) rfl rfl ?_
    refine st_g_false (j := 3) (dj := 20) (b := true) rfl rfl rfl (ev_hit hN267 rfl) rfl rfl ?_
    refine st_g_false (j := 3) (dj := 20) (b := true) rfl rfl rfl (ev_hit hN267 rfl) rfl rfl ?_
    refine st_g_false (j := 3) (dj := 20) (b := true) rfl rfl rfl (ev_hit hN267 rfl) rfl rfl ?_
    refine st_g_false (j := 3) (dj := 20) (b := true) rfl rfl rfl (ev_hit hN267 rfl) rfl rfl ?_
    refine st_g_false (j := 3) (dj := 20) (b := true) rfl rfl rfl (ev_hit hN267 rfl) rfl rfl ?_
    refine st_g_false (j := 3) (dj := 20) (b := true) rfl rfl rfl (ev_hit hN267 rfl) rfl rfl ?_
    refine st_step rfl (fun _ h9 => op_pick_f (ev_hit hN267 rfl) rfl h9) ?_
    refine st_nil ?_
    refine hK269 _ _ ?_
    refine wp_cond_false (ev_hit hN267 rfl) ?_
    refine wp_exit (then_exit (then_exit (blk_hit ?_)))
    refine hK266 _ _ ?_
    exact hJ265 _ _ _ hN267 hd267 ⟨i2, (sl_base hN267 rfl s267_0), (sl_base hN267 rfl s267_1), (sl_base hN267 rfl s267_2), (sl_base hN267 rfl s267_8), (sl_base hN267 rfl s267_7), (by omega), (hq1.trans (scanSorted_stop (.inl (by omega)))), hb, (by omega), hO261⟩
  ·
   rintro a265 w265 hN265 hd265 ⟨i2, s265_0, s265_1, s265_2, s265_8, s265_7, hr2, hq2, hb, zl_w265, hO261⟩
   have z_w265 := hb.size
   refine seq_any fun K278 hK278 => ?_
   refine seq_any fun K279 hK279 => ?_
   refine one_reg ?_
   refine op_move (ev_base hN265 rfl s265_7) ?_
   refine op_move (ev_base hN265 rfl s265_2) ?_
   refine op_eql (ev_hit hN265 rfl) (ev_hit hN265 rfl) (fun c37 => ?_) (fun c37 => ?_)
   · -- 37T
    refine reg_nil ?_
    refine hK279 _ _ ?_
    refine wp_cond_true (ev_hit hN265 rfl) ?_
    refine seq_any fun K280 hK280 => ?_
    refine one_reg ?_
    refine op_assign rfl ?_
    refine reg_nil ?_
    refine hK280 _ _ ?_
    refine wp_ret (then_ret (blk_ret (then_ret (then_ret (blk_ret (then_ret ( ?_)))))))
    refine ret1 rfl hd265 (ev_hit hN265 rfl) ⟨_, rfl, ?_⟩
    -- path 14T 37T
    have hq : partialInsertionSort ltT d a b = (dk, true) := hs.trans (pi_true (by omega) hq2 (by omega))
    exact ⟨hb, by rw [hq]; rfl, hO261.cast rfl (by rw [hq])⟩
   · -- 37F
    refine reg_nil ?_
    refine hK279 _ _ ?_
    refine wp_cond_false (ev_hit hN265 rfl) ?_
    refine wp_skip ?_
    refine hK278 _ _ ?_
    refine seq_any fun K281 hK281 => ?_
    refine seq_any fun K282 hK282 => ?_
    refine one_reg ?_
    refine op_move (ev_base hN265 rfl s265_2) ?_
    refine op_move (ev_base hN265 rfl s265_1) ?_
    refine op_sub (ev_hit hN265 rfl) (ev_hit hN265 rfl) (sub64 (by omega)) ?_
    refine op_lss (ev_hit hN265 rfl) rfl (fun c41 => ?_) (fun c41 => ?_)
    · -- 41T
     refine reg_nil ?_
     refine hK282 _ _ ?_
     refine wp_cond_true (ev_hit hN265 rfl) ?_
     refine seq_any fun K283 hK283 => ?_
     refine one_reg ?_
     refine op_assign rfl ?_
     refine reg_nil ?_
     refine hK283 _ _ ?_
     refine wp_ret (then_ret (blk_ret (then_ret (then_ret (blk_ret (then_ret ( ?_)))))))
     refine ret1 rfl hd265 (ev_hit hN265 rfl) ⟨_, rfl, ?_⟩
     -- path 14T 37F 41T
     have hq : partialInsertionSort ltT d a b = (dk, false) := hs.trans (pi_short (by omega) hq2 (by omega) (by omega))
     exact ⟨hb, by rw [hq]; rfl, hO261.cast rfl (by rw [hq])⟩
    · -- 41F
     refine reg_nil ?_
     refine hK282 _ _ ?_
     refine wp_cond_false (ev_hit hN265 rfl) ?_
     refine wp_skip ?_
     refine hK281 _ _ ?_
     refine seq_any fun K284 hK284 => ?_
     refine reg_mid (e := 35) (sz := 1) (base := base) (n := n) (v := v) (Φ := phiL [(fun uz _ => uz = v), (fun uz _ => uz = (Value.int .i64 ((i2 : Nat) : Int))), (fun uz _ => uz = v), (fun uz _ => uz = (Value.int .i64 ((i2 : Nat) : Int))), (fun uz _ => uz = (Value.int .i64 (((i2 : Nat) : Int) - 1))), (fun uz _ => uz = v), (fun uz _ => uz = (Value.int .i64 ((i2 : Nat) : Int))), (fun uz _ => uz = (Value.int .i64 (((i2 : Nat) : Int) - 1))), (fun uz _ => ∃ bz oz, uz = ptr bz oz ∧ AtV v (i2 - 1) bz oz), (fun uz _ => uz = (Value.int .u16 (dk[(i2 - 1)]!.toNat : Int))), (fun uz _ => uz = v), (fun uz _ => uz = (Value.int .i64 ((i2 : Nat) : Int))), (fun uz _ => ∃ bz oz, uz = ptr bz oz ∧ AtV v i2 bz oz), (fun uz _ => uz = (Value.int .u16 (dk[i2]!.toNat : Int))), (fun uz _ => ∃ bz oz, uz = ptr bz oz ∧ AtV v i2 bz oz), (fun _ _ => True), (fun uz _ => ∃ bz oz, uz = ptr bz oz ∧ AtV v (i2 - 1) bz oz), (fun _ _ => True)]) [15, 17] [(dk.toList.map u16v), ((dk.setIfInBounds i2 dk[(i2 - 1)]!).toList.map u16v), (((dk.setIfInBounds i2 dk[(i2 - 1)]!).setIfInBounds (i2 - 1) dk[i2]!).toList.map u16v)] mixed (by kernel_rfl) (by kernel_rfl) (by kernel_rfl) (by kernel_rfl) hN265 hO261 (StL.get (StL.eq (StL.eq (StL.eq (StL.eq (StL.eq (StL.eq (StL.eq (StL.eq (StL.at (StL.eq (StL.eq (StL.eq (StL.at (StL.eq (StL.at (StL.cons (fun _ _ _ _ h => h) (StL.at (StL.cons (fun _ _ _ _ h => h) (StL.nil _)))))))))))))))))))) (ObRs.get (ObRs.cons ?_ (ObRs.cons ?_ (ObRs.cons ?_ (ObRs.cons ?_ (ObRs.cons ?_ (ObRs.cons ?_ (ObRs.cons ?_ (ObRs.cons ?_ (ObRs.cons ?_ (ObRs.cons ?_ (ObRs.cons ?_ (ObRs.cons ?_ (ObRs.cons ?_ (ObRs.cons ?_ (ObRs.cons ?_ (ObRs.pass rfl (ObRs.cons ?_ (ObRs.pass rfl (ObRs.nil)))))))))))))))))))) (ObWs.get (ObWs.cons ?_ (ObWs.cons ?_ (ObWs.nil)))) ?_
     ·
      intro aA wA cA hNA hRA hckA hOA hbsA hdpA
      have qA_0 := (hbsA 0 rfl).trans (sl_base hN265 rfl s265_0)
      clear hbsA hdpA
      refine op_move (ev_base hNA rfl qA_0) ?_
      exact obR_end rfl rfl (grown_refl _ _)
     ·
      intro aA wA cA hNA hRA hckA hOA hbsA hdpA
      have qA_7 := (hbsA 7 rfl).trans (sl_base hN265 rfl s265_7)
      clear hbsA hdpA
      refine op_move (ev_base hNA rfl qA_7) ?_
      exact obR_end rfl rfl (grown_refl _ _)
     ·
      intro aA wA cA hNA hRA hckA hOA hbsA hdpA
      have qA_0 := (hbsA 0 rfl).trans (sl_base hN265 rfl s265_0)
      clear hbsA hdpA
      refine op_move (ev_base hNA rfl qA_0) ?_
      exact obR_end rfl rfl (grown_refl _ _)
     ·
      intro aA wA cA hNA hRA hckA hOA hbsA hdpA
      have qA_7 := (hbsA 7 rfl).trans (sl_base hN265 rfl s265_7)
      clear hbsA hdpA
      refine op_move (ev_base hNA rfl qA_7) ?_
      exact obR_end rfl rfl (grown_refl _ _)
     ·
      intro aA wA cA hNA hRA hckA hOA hbsA hdpA
      have qA_45 : Sl aA 45 (Value.int .i64 ((i2 : Nat) : Int)) := hdpA 3 _ 45 (by kernel_rfl) rfl rfl
      clear hbsA hdpA
      refine op_sub (ev_base hNA rfl qA_45) rfl (sub64 (by omega)) ?_
      exact obR_end rfl rfl (grown_refl _ _)
     ·
      intro aA wA cA hNA hRA hckA hOA hbsA hdpA
      have qA_0 := (hbsA 0 rfl).trans (sl_base hN265 rfl s265_0)
      clear hbsA hdpA
      refine op_move (ev_base hNA rfl qA_0) ?_
      exact obR_end rfl rfl (grown_refl _ _)
     ·
      intro aA wA cA hNA hRA hckA hOA hbsA hdpA
      have qA_7 := (hbsA 7 rfl).trans (sl_base hN265 rfl s265_7)
      clear hbsA hdpA
      refine op_move (ev_base hNA rfl qA_7) ?_
      exact obR_end rfl rfl (grown_refl _ _)
     ·
      intro aA wA cA hNA hRA hckA hOA hbsA hdpA
      have qA_48 : Sl aA 48 (Value.int .i64 ((i2 : Nat) : Int)) := hdpA 6 _ 48 (by kernel_rfl) rfl rfl
      clear hbsA hdpA
      refine op_sub (ev_base hNA rfl qA_48) rfl (sub64 (by omega)) ?_
      exact obR_end rfl rfl (grown_refl _ _)
     ·
      intro aA wA cA hNA hRA hckA hOA hbsA hdpA
      have qA_47 : Sl aA 47 v := hdpA 5 _ 47 (by kernel_rfl) rfl rfl
      have qA_49 : Sl aA 49 (Value.int .i64 (((i2 : Nat) : Int) - 1)) := hdpA 7 _ 49 (by kernel_rfl) rfl rfl
      clear hbsA hdpA
      refine op_index_own (i := (i2 - 1)) slt22 (ev_base hNA rfl qA_47) hOA (ev_base hNA rfl qA_49) (by omega) (by omega) ?_
      intro b_ o_ _ hA_
      exact obR_end rfl ⟨b_, o_, rfl, by simpa using hA_⟩ (grown_refl _ _)
     ·
      intro aA wA cA hNA hRA hckA hOA hbsA hdpA
      obtain ⟨bA_50, oA_50, qA_50, hAA_50⟩ := hdpA 8 _ 50 (by kernel_rfl) rfl rfl
      clear hbsA hdpA
      obtain rfl : cA = 0 := Nat.le_zero.1 (hckA 0 15 rfl (by kernel_rfl))
      have hOA : Own wA base 35 1 v n (dk.toList.map u16v) := hOA
      refine op_load1 (v := (Value.int .u16 (dk[(i2 - 1)]!.toNat : Int))) one35 (ev_base hNA rfl qA_50) (by have := hOA.cellAt hAA_50 0 _ (el_at (i := (i2 - 1)) (by first | omega | (simp only [Array.size_setIfInBounds, swp_sz, siftDown_size]; omega))); simpa using this) ?_
      exact obR_end rfl rfl (grown_refl _ _)
     ·
      intro aA wA cA hNA hRA hckA hOA hbsA hdpA
      have qA_0 := (hbsA 0 rfl).trans (sl_base hN265 rfl s265_0)
      clear hbsA hdpA
      refine op_move (ev_base hNA rfl qA_0) ?_
      exact obR_end rfl rfl (grown_refl _ _)
     ·
      intro aA wA cA hNA hRA hckA hOA hbsA hdpA
      have qA_7 := (hbsA 7 rfl).trans (sl_base hN265 rfl s265_7)
      clear hbsA hdpA
      refine op_move (ev_base hNA rfl qA_7) ?_
      exact obR_end rfl rfl (grown_refl _ _)
     ·
      intro aA wA cA hNA hRA hckA hOA hbsA hdpA
      have qA_52 : Sl aA 52 v := hdpA 10 _ 52 (by kernel_rfl) rfl rfl
      have qA_53 : Sl aA 53 (Value.int .i64 ((i2 : Nat) : Int)) := hdpA 11 _ 53 (by kernel_rfl) rfl rfl
      clear hbsA hdpA
      refine op_index_own (i := i2) slt22 (ev_base hNA rfl qA_52) hOA (ev_base hNA rfl qA_53) (by omega) (by omega) ?_
      intro b_ o_ _ hA_
      exact obR_end rfl ⟨b_, o_, rfl, by simpa using hA_⟩ (grown_refl _ _)
     ·
      intro aA wA cA hNA hRA hckA hOA hbsA hdpA
      obtain ⟨bA_54, oA_54, qA_54, hAA_54⟩ := hdpA 12 _ 54 (by kernel_rfl) rfl rfl
      clear hbsA hdpA
      obtain rfl : cA = 0 := Nat.le_zero.1 (hckA 0 15 rfl (by kernel_rfl))
      have hOA : Own wA base 35 1 v n (dk.toList.map u16v) := hOA
      refine op_load1 (v := (Value.int .u16 (dk[i2]!.toNat : Int))) one35 (ev_base hNA rfl qA_54) (by have := hOA.cellAt hAA_54 0 _ (el_at (i := i2) (by first | omega | (simp only [Array.size_setIfInBounds, swp_sz, siftDown_size]; omega))); simpa using this) ?_
      exact obR_end rfl rfl (grown_refl _ _)
     ·
      intro aA wA cA hNA hRA hckA hOA hbsA hdpA
      have qA_42 : Sl aA 42 v := hdpA 0 _ 42 (by kernel_rfl) rfl rfl
      have qA_43 : Sl aA 43 (Value.int .i64 ((i2 : Nat) : Int)) := hdpA 1 _ 43 (by kernel_rfl) rfl rfl
      clear hbsA hdpA
      refine op_index_own (i := i2) slt22 (ev_base hNA rfl qA_42) hOA (ev_base hNA rfl qA_43) (by omega) (by omega) ?_
      intro b_ o_ _ hA_
      exact obR_end rfl ⟨b_, o_, rfl, by simpa using hA_⟩ (grown_refl _ _)
     ·
      intro aA wA cA hNA hRA hckA hOA hbsA hdpA
      have qA_44 : Sl aA 44 v := hdpA 2 _ 44 (by kernel_rfl) rfl rfl
      have qA_46 : Sl aA 46 (Value.int .i64 (((i2 : Nat) : Int) - 1)) := hdpA 4 _ 46 (by kernel_rfl) rfl rfl
      clear hbsA hdpA
      refine op_index_own (i := (i2 - 1)) slt22 (ev_base hNA rfl qA_44) hOA (ev_base hNA rfl qA_46) (by omega) (by omega) ?_
      intro b_ o_ _ hA_
      exact obR_end rfl ⟨b_, o_, rfl, by simpa using hA_⟩ (grown_refl _ _)
     ·
      intro o_ ho_; obtain rfl := Option.some.inj ho_; intro aA wA hNA hRA hbsA hdpA hOA
      obtain ⟨bA_56, oA_56, qA_56, hAA_56⟩ := hdpA 14 _ 56 (by kernel_rfl) rfl rfl
      have qA_51 : Sl aA 51 (Value.int .u16 (dk[(i2 - 1)]!.toNat : Int)) := hdpA 9 _ 51 (by kernel_rfl) rfl rfl
      clear hbsA hdpA
      have hOA : Own wA base 35 1 v n (dk.toList.map u16v) := hOA
      refine op_store_own (vs := [(Value.int .u16 (dk[(i2 - 1)]!.toNat : Int))]) size35 (ev_base hNA rfl qA_56) (ev_base hNA rfl qA_51) rfl rfl rfl hOA hAA_56 (by have := hOA.1; simp at this ⊢; omega) ?_
      intro w_ hO_ E_
      exact obW_end rfl (hO_.cast rfl (set_arr (by first | omega | (simp only [Array.size_setIfInBounds, swp_sz, siftDown_size]; omega)))) E_
     ·
      intro o_ ho_; obtain rfl := Option.some.inj ho_; intro aA wA hNA hRA hbsA hdpA hOA
      obtain ⟨bA_57, oA_57, qA_57, hAA_57⟩ := hdpA 16 _ 57 (by kernel_rfl) rfl rfl
      have qA_55 : Sl aA 55 (Value.int .u16 (dk[i2]!.toNat : Int)) := hdpA 13 _ 55 (by kernel_rfl) rfl rfl
      clear hbsA hdpA
      have hOA : Own wA base 35 1 v n ((dk.setIfInBounds i2 dk[(i2 - 1)]!).toList.map u16v) := hOA
      refine op_store_own (vs := [(Value.int .u16 (dk[i2]!.toNat : Int))]) size35 (ev_base hNA rfl qA_57) (ev_base hNA rfl qA_55) rfl rfl rfl hOA hAA_57 (by have := hOA.1; simp at this ⊢; omega) ?_
      intro w_ hO_ E_
      exact obW_end rfl (hO_.cast rfl (set_arr (by first | omega | (simp only [Array.size_setIfInBounds, swp_sz, siftDown_size]; omega)))) E_
     ·
      intro a285 w285 hN285 hd285 hbs285 hph285 hO285 E285
      have hd285 := hd285.trans hd265
      have s285_0 := (hbs285 0 rfl).trans (sl_base hN265 rfl s265_0)
      have s285_1 := (hbs285 1 rfl).trans (sl_base hN265 rfl s265_1)
      have s285_2 := (hbs285 2 rfl).trans (sl_base hN265 rfl s265_2)
      have s285_7 := (hbs285 7 rfl).trans (sl_base hN265 rfl s265_7)
      have s285_8 := (hbs285 8 rfl).trans (sl_base hN265 rfl s265_8)
      clear hbs285 hph285
      have hO285 : Own w285 base 35 1 v n (((dk.setIfInBounds i2 dk[(i2 - 1)]!).setIfInBounds (i2 - 1) dk[i2]!).toList.map u16v) := hO285
      have z_w285 := E285.size
      have hb := grow_stepX hb E285 rfl
      refine hK284 _ _ ?_
      refine seq_join1 (N := 133) (fun az_ w' => ∃ (d3 : Ar), (az_.tmps.getD 0 undef = v) ∧ (az_.tmps.getD 1 undef = (Value.int .i64 ((a : Nat) : Int))) ∧ (az_.tmps.getD 2 undef = (Value.int .i64 ((b : Nat) : Int))) ∧ (az_.tmps.getD 7 undef = (Value.int .i64 ((i2 : Nat) : Int))) ∧ (az_.tmps.getD 8 undef = (Value.int .i64 ((s : Nat) : Int))) ∧ (d3 = fixDown ltT a i2 (swp dk i2 (i2 - 1))) ∧ (d3.size = n) ∧ (w.grownBy w' v.ownBlock) ∧ (w285.heap.size ≤ w'.heap.size) ∧ (Own w' base 35 1 v n (d3.toList.map u16v))) (fun hJ286 => ?_) ?_
      ·
       refine seq_any fun K288 hK288 => ?_
       refine seq_any fun K289 hK289 => ?_
       refine one_reg ?_
       refine op_move (ev_base hN285 rfl s285_7) ?_
       refine op_move (ev_base hN285 rfl s285_1) ?_
       refine op_sub (ev_hit hN285 rfl) (ev_hit hN285 rfl) (sub64 (by omega)) ?_
       refine op_geq (ev_hit hN285 rfl) rfl (fun c61 => ?_) (fun c61 => ?_)
       · -- 61T
        refine reg_nil ?_
        refine hK289 _ _ ?_
        refine wp_cond_true (ev_hit hN285 rfl) ?_
        refine seq_any fun K290 hK290 => ?_
        refine one_reg ?_
        refine op_move (ev_base hN285 rfl s285_7) ?_
        refine op_sub (r := ((i2 - 1 : Nat) : Int)) (ev_hit hN285 rfl) rfl (by rw [IntKind.wrap_i64]; omega) ?_
        refine op_assign (ev_hit hN285 rfl) ?_
        refine reg_nil ?_
        refine hK290 _ _ ?_
        refine wp_block ?_
        refine loop_m (fun mz_ az_ w' => ∃ (j3 : Nat) (d2 : Ar), mz_ = (j3 + 1) ∧ (az_.tmps.getD 0 undef = v) ∧ (az_.tmps.getD 1 undef = (Value.int .i64 ((a : Nat) : Int))) ∧ (az_.tmps.getD 2 undef = (Value.int .i64 ((b : Nat) : Int))) ∧ (az_.tmps.getD 7 undef = (Value.int .i64 ((i2 : Nat) : Int))) ∧ (az_.tmps.getD 8 undef = (Value.int .i64 ((s : Nat) : Int))) ∧ (az_.tmps.getD 9 undef = (Value.int .i64 ((j3 : Nat) : Int))) ∧ (d2.size = n) ∧ (j3 ≤ i2 - 1) ∧ (shiftDown ltT (i2 - 1) (swp dk i2 (i2 - 1)) = shiftDown ltT j3 d2) ∧ (w.grownBy w' v.ownBlock) ∧ (w285.heap.size ≤ w'.heap.size) ∧ (Own w' base 35 1 v n (d2.toList.map u16v))) _ hN285 hd285 ⟨(i2 - 1), _, rfl, (sl_base hN285 rfl s285_0), (sl_base hN285 rfl s285_1), (sl_base hN285 rfl s285_2), (sl_base hN285 rfl s285_7), (sl_base hN285 rfl s285_8), (sl_hit hN285 rfl).trans (congrArg (Value.int .i64) (by omega)), (by first | assumption | (simp only [Array.size_setIfInBounds, swp_sz, siftDown_size]; assumption)), (by omega), rfl, hb, (Nat.le_refl _), hO285⟩ ?_
        rintro _ a291 w291 hN291 hd291 ⟨j3, d2, rfl, s291_0, s291_1, s291_2, s291_7, s291_8, s291_9, hd2, hr3, hdn, hb, zl_w291, hO292⟩
        have z_w291 := hb.size
        refine seq_any fun K293 hK293 => ?_
        refine seq_any fun K294 hK294 => ?_
        refine one_reg ?_
        refine op_move (ev_base hN291 rfl s291_9) ?_
        refine op_geq (ev_hit hN291 rfl) rfl (fun c65 => ?_) (fun c65 => ?_)
        · -- 65T
         refine reg_nil ?_
         refine hK294 _ _ ?_
         refine wp_cond_true (ev_hit hN291 rfl) ?_
         refine wp_skip ?_
         refine hK293 _ _ ?_
         refine seq_any fun K295 hK295 => ?_
         refine wp_block ?_
         refine seq_any fun K296 hK296 => ?_
         refine seq_any fun K297 hK297 => ?_
         refine reg_still mixed (by kernel_rfl) ?_
         intro w299 E298
         have z_w299 := E298.size
         have hO292 := hO292.keep0 E298
         have hb := grow_step0 hb E298
         refine st_step rfl (fun _ h9 => op_move (ev_base hN291 rfl s291_0) h9) ?_
         refine st_step rfl (fun _ h9 => op_move (ev_base hN291 rfl s291_9) h9) ?_
         refine st_index_rd slt22 (ev_hit hN291 rfl) hO292.rdw (ev_hit hN291 rfl) (by omega) (by omega) ?_
         intro b300 o301 h0b300 h1b300 hc302
         refine st_step rfl (fun _ h9 => op_load1 (v := (Value.int .u16 (d2[j3]!.toNat : Int))) one35 (ev_hit hN291 rfl) (by have := hc302 0 (Value.int .u16 (d2[j3]!.toNat : Int)) (by decide) (el_arr (i := j3) (by omega) (by first | omega | (simp only [Array.size_setIfInBounds, swp_sz, siftDown_size]; omega))); simpa using this) h9) ?_
         refine st_step rfl (fun _ h9 => op_move (ev_base hN291 rfl s291_0) h9) ?_
         refine st_step rfl (fun _ h9 => op_move (ev_base hN291 rfl s291_9) h9) ?_
         refine st_step rfl (fun _ h9 => op_sub (ev_hit hN291 rfl) rfl (sub64 (by omega)) h9) ?_
         refine st_index_rd slt22 (ev_hit hN291 rfl) hO292.rdw (ev_hit hN291 rfl) (by omega) (by omega) ?_
         intro b303 o304 h0b303 h1b303 hc305
         refine st_step rfl (fun _ h9 => op_load1 (v := (Value.int .u16 (d2[(j3 - 1)]!.toNat : Int))) one35 (ev_hit hN291 rfl) (by have := hc305 0 (Value.int .u16 (d2[(j3 - 1)]!.toNat : Int)) (by decide) (el_arr (i := (j3 - 1)) (by omega) (by first | omega | (simp only [Array.size_setIfInBounds, swp_sz, siftDown_size]; omega))); simpa using this) h9) ?_
         refine st_fn (vs := [(Value.int .u16 (d2[j3]!.toNat : Int)), (Value.int .u16 (d2[(j3 - 1)]!.toNat : Int))]) ok72 (⟨(ev_hit hN291 rfl), ⟨(ev_hit hN291 rfl), trivial⟩⟩) (Less16_ret d2[j3]! d2[(j3 - 1)]! _) ?_
         refine st_step rfl (fun _ h9 => op_not (ev_hit hN291 rfl) h9) ?_
         refine st_nil ?_
         refine hK297 _ _ ?_
         refine wp_cond_split (ev_hit hN291 rfl) (fun c78 => ?_) (fun c78 => ?_)
         · -- 78T
          refine wp_exit (then_exit (blk_miss (by decide) (then_exit (then_exit (blk_hit ?_)))))
          refine hK288 _ _ ?_
          exact hJ286 _ _ _ hN291 hd291 ⟨_, (sl_base hN291 rfl s291_0), (sl_base hN291 rfl s291_1), (sl_base hN291 rfl s291_2), (sl_base hN291 rfl s291_7), (sl_base hN291 rfl s291_8), ((fixDown_t (by omega)).trans (hdn.trans (shiftDown_stop (.inr (not_t c78))))).symm, (by first | assumption | (simp only [Array.size_setIfInBounds, swp_sz, siftDown_size]; assumption)), hb, (by omega), hO292⟩
         · -- 78F
          refine wp_skip ?_
          refine hK296 _ _ ?_
          refine reg_mid (e := 35) (sz := 1) (base := base) (n := n) (v := v) (Φ := phiL [(fun uz _ => uz = v), (fun uz _ => uz = (Value.int .i64 ((j3 : Nat) : Int))), (fun uz _ => uz = v), (fun uz _ => uz = (Value.int .i64 ((j3 : Nat) : Int))), (fun uz _ => uz = (Value.int .i64 (((j3 : Nat) : Int) - 1))), (fun uz _ => uz = v), (fun uz _ => uz = (Value.int .i64 ((j3 : Nat) : Int))), (fun uz _ => uz = (Value.int .i64 (((j3 : Nat) : Int) - 1))), (fun uz _ => ∃ bz oz, uz = ptr bz oz ∧ AtV v (j3 - 1) bz oz), (fun uz _ => uz = (Value.int .u16 (d2[(j3 - 1)]!.toNat : Int))), (fun uz _ => uz = v), (fun uz _ => uz = (Value.int .i64 ((j3 : Nat) : Int))), (fun uz _ => ∃ bz oz, uz = ptr bz oz ∧ AtV v j3 bz oz), (fun uz _ => uz = (Value.int .u16 (d2[j3]!.toNat : Int))), (fun uz _ => ∃ bz oz, uz = ptr bz oz ∧ AtV v j3 bz oz), (fun _ _ => True), (fun uz _ => ∃ bz oz, uz = ptr bz oz ∧ AtV v (j3 - 1) bz oz), (fun _ _ => True)]) [15, 17] [(d2.toList.map u16v), ((d2.setIfInBounds j3 d2[(j3 - 1)]!).toList.map u16v), (((d2.setIfInBounds j3 d2[(j3 - 1)]!).setIfInBounds (j3 - 1) d2[j3]!).toList.map u16v)] mixed (by kernel_rfl) (by kernel_rfl) (by kernel_rfl) (by kernel_rfl) hN291 hO292 (StL.get (StL.eq (StL.eq (StL.eq (StL.eq (StL.eq (StL.eq (StL.eq (StL.eq (StL.at (StL.eq (StL.eq (StL.eq (StL.at (StL.eq (StL.at (StL.cons (fun _ _ _ _ h => h) (StL.at (StL.cons (fun _ _ _ _ h => h) (StL.nil _)))))))))))))))))))) (ObRs.get (ObRs.cons ?_ (ObRs.cons ?_ (ObRs.cons ?_ (ObRs.cons ?_ (ObRs.cons ?_ (ObRs.cons ?_ (ObRs.cons ?_ (ObRs.cons ?_ (ObRs.cons ?_ (ObRs.cons ?_ (ObRs.cons ?_ (ObRs.cons ?_ (ObRs.cons ?_ (ObRs.cons ?_ (ObRs.cons ?_ (ObRs.pass rfl (ObRs.cons ?_ (ObRs.pass rfl (ObRs.nil)))))))))))))))))))) (ObWs.get (ObWs.cons ?_ (ObWs.cons ?_ (ObWs.nil)))) ?_
          ·
           intro aA wA cA hNA hRA hckA hOA hbsA hdpA
           have qA_0 := (hbsA 0 rfl).trans (sl_base hN291 rfl s291_0)
           clear hbsA hdpA
           refine op_move (ev_base hNA rfl qA_0) ?_
           exact obR_end rfl rfl (grown_refl _ _)
          ·
           intro aA wA cA hNA hRA hckA hOA hbsA hdpA
           have qA_9 := (hbsA 9 rfl).trans (sl_base hN291 rfl s291_9)
           clear hbsA hdpA
           refine op_move (ev_base hNA rfl qA_9) ?_
           exact obR_end rfl rfl (grown_refl _ _)
          ·
           intro aA wA cA hNA hRA hckA hOA hbsA hdpA
           have qA_0 := (hbsA 0 rfl).trans (sl_base hN291 rfl s291_0)
           clear hbsA hdpA
           refine op_move (ev_base hNA rfl qA_0) ?_
           exact obR_end rfl rfl (grown_refl _ _)
          ·
           intro aA wA cA hNA hRA hckA hOA hbsA hdpA
           have qA_9 := (hbsA 9 rfl).trans (sl_base hN291 rfl s291_9)
           clear hbsA hdpA
           refine op_move (ev_base hNA rfl qA_9) ?_
           exact obR_end rfl rfl (grown_refl _ _)
          ·
           intro aA wA cA hNA hRA hckA hOA hbsA hdpA
           have qA_82 : Sl aA 82 (Value.int .i64 ((j3 : Nat) : Int)) := hdpA 3 _ 82 (by kernel_rfl) rfl rfl
           clear hbsA hdpA
           refine op_sub (ev_base hNA rfl qA_82) rfl (sub64 (by omega)) ?_
           exact obR_end rfl rfl (grown_refl _ _)
          ·
           intro aA wA cA hNA hRA hckA hOA hbsA hdpA
           have qA_0 := (hbsA 0 rfl).trans (sl_base hN291 rfl s291_0)
           clear hbsA hdpA
           refine op_move (ev_base hNA rfl qA_0) ?_
           exact obR_end rfl rfl (grown_refl _ _)
          ·
           intro aA wA cA hNA hRA hckA hOA hbsA hdpA
           have qA_9 := (hbsA 9 rfl).trans (sl_base hN291 rfl s291_9)
           clear hbsA hdpA
           refine op_move (ev_base hNA rfl qA_9) ?_
           exact obR_end rfl rfl (grown_refl _ _)
          ·
           intro aA wA cA hNA hRA hckA hOA hbsA hdpA
           have qA_85 : Sl aA 85 (Value.int .i64 ((j3 : Nat) : Int)) := hdpA 6 _ 85 (by kernel_rfl) rfl rfl
           clear hbsA hdpA
           refine op_sub (ev_base hNA rfl qA_85) rfl (sub64 (by omega)) ?_
           exact obR_end rfl rfl (grown_refl _ _)
          ·
           intro aA wA cA hNA hRA hckA hOA hbsA hdpA
           have qA_84 : Sl aA 84 v := hdpA 5 _ 84 (by kernel_rfl) rfl rfl
           have qA_86 : Sl aA 86 (Value.int .i64 (((j3 : Nat) : Int) - 1)) := hdpA 7 _ 86 (by kernel_rfl) rfl rfl
           clear hbsA hdpA
           refine op_index_own (i := (j3 - 1)) slt22 (ev_base hNA rfl qA_84) hOA (ev_base hNA rfl qA_86) (by omega) (by omega) ?_
           intro b_ o_ _ hA_
           exact obR_end rfl ⟨b_, o_, rfl, by simpa using hA_⟩ (grown_refl _ _)
          ·
           intro aA wA cA hNA hRA hckA hOA hbsA hdpA
           obtain ⟨bA_87, oA_87, qA_87, hAA_87⟩ := hdpA 8 _ 87 (by kernel_rfl) rfl rfl
           clear hbsA hdpA
           obtain rfl : cA = 0 := Nat.le_zero.1 (hckA 0 15 rfl (by kernel_rfl))
           have hOA : Own wA base 35 1 v n (d2.toList.map u16v) := hOA
           refine op_load1 (v := (Value.int .u16 (d2[(j3 - 1)]!.toNat : Int))) one35 (ev_base hNA rfl qA_87) (by have := hOA.cellAt hAA_87 0 _ (el_at (i := (j3 - 1)) (by first | omega | (simp only [Array.size_setIfInBounds, swp_sz, siftDown_size]; omega))); simpa using this) ?_
           exact obR_end rfl rfl (grown_refl _ _)
          ·
           intro aA wA cA hNA hRA hckA hOA hbsA hdpA
           have qA_0 := (hbsA 0 rfl).trans (sl_base hN291 rfl s291_0)
           clear hbsA hdpA
           refine op_move (ev_base hNA rfl qA_0) ?_
           exact obR_end rfl rfl (grown_refl _ _)
          ·
           intro aA wA cA hNA hRA hckA hOA hbsA hdpA
           have qA_9 := (hbsA 9 rfl).trans (sl_base hN291 rfl s291_9)
           clear hbsA hdpA
           refine op_move (ev_base hNA rfl qA_9) ?_
           exact obR_end rfl rfl (grown_refl _ _)
          ·
           intro aA wA cA hNA hRA hckA hOA hbsA hdpA
           have qA_89 : Sl aA 89 v := hdpA 10 _ 89 (by kernel_rfl) rfl rfl
           have qA_90 : Sl aA 90 (Value.int .i64 ((j3 : Nat) : Int)) := hdpA 11 _ 90 (by kernel_rfl) rfl rfl
           clear hbsA hdpA
           refine op_index_own (i := j3) slt22 (ev_base hNA rfl qA_89) hOA (ev_base hNA rfl qA_90) (by omega) (by omega) ?_
           intro b_ o_ _ hA_
           exact obR_end rfl ⟨b_, o_, rfl, by simpa using hA_⟩ (grown_refl _ _)
          ·
           intro aA wA cA hNA hRA hckA hOA hbsA hdpA
           obtain ⟨bA_91, oA_91, qA_91, hAA_91⟩ := hdpA 12 _ 91 (by kernel_rfl) rfl rfl
           clear hbsA hdpA
           obtain rfl : cA = 0 := Nat.le_zero.1 (hckA 0 15 rfl (by kernel_rfl))
           have hOA : Own wA base 35 1 v n (d2.toList.map u16v) := hOA
           refine op_load1 (v := (Value.int .u16 (d2[j3]!.toNat : Int))) one35 (ev_base hNA rfl qA_91) (by have := hOA.cellAt hAA_91 0 _ (el_at (i := j3) (by first | omega | (simp only [Array.size_setIfInBounds, swp_sz, siftDown_size]; omega))); simpa using this) ?_
           exact obR_end rfl rfl (grown_refl _ _)
          ·
           intro aA wA cA hNA hRA hckA hOA hbsA hdpA
           have qA_79 : Sl aA 79 v := hdpA 0 _ 79 (by kernel_rfl) rfl rfl
           have qA_80 : Sl aA 80 (Value.int .i64 ((j3 : Nat) : Int)) := hdpA 1 _ 80 (by kernel_rfl) rfl rfl
           clear hbsA hdpA
           refine op_index_own (i := j3) slt22 (ev_base hNA rfl qA_79) hOA (ev_base hNA rfl qA_80) (by omega) (by omega) ?_
           intro b_ o_ _ hA_
           exact obR_end rfl ⟨b_, o_, rfl, by simpa using hA_⟩ (grown_refl _ _)
          ·
           intro aA wA cA hNA hRA hckA hOA hbsA hdpA
           have qA_81 : Sl aA 81 v := hdpA 2 _ 81 (by kernel_rfl) rfl rfl
           have qA_83 : Sl aA 83 (Value.int .i64 (((j3 : Nat) : Int) - 1)) := hdpA 4 _ 83 (by kernel_rfl) rfl rfl
           clear hbsA hdpA
           refine op_index_own (i := (j3 - 1)) slt22 (ev_base hNA rfl qA_81) hOA (ev_base hNA rfl qA_83) (by omega) (by omega) ?_
           intro b_ o_ _ hA_
           exact obR_end rfl ⟨b_, o_, rfl, by simpa using hA_⟩ (grown_refl _ _)
          ·
           intro o_ ho_; obtain rfl := Option.some.inj ho_; intro aA wA hNA hRA hbsA hdpA hOA
           obtain ⟨bA_93, oA_93, qA_93, hAA_93⟩ := hdpA 14 _ 93 (by kernel_rfl) rfl rfl
           have qA_88 : Sl aA 88 (Value.int .u16 (d2[(j3 - 1)]!.toNat : Int)) := hdpA 9 _ 88 (by kernel_rfl) rfl rfl
           clear hbsA hdpA
           have hOA : Own wA base 35 1 v n (d2.toList.map u16v) := hOA
           refine op_store_own (vs := [(Value.int .u16 (d2[(j3 - 1)]!.toNat : Int))]) size35 (ev_base hNA rfl qA_93) (ev_base hNA rfl qA_88) rfl rfl rfl hOA hAA_93 (by have := hOA.1; simp at this ⊢; omega) ?_
           intro w_ hO_ E_
           exact obW_end rfl (hO_.cast rfl (set_arr (by first | omega | (simp only [Array.size_setIfInBounds, swp_sz, siftDown_size]; omega)))) E_
          ·
           intro o_ ho_; obtain rfl := Option.some.inj ho_; intro aA wA hNA hRA hbsA hdpA hOA
           obtain ⟨bA_94, oA_94, qA_94, hAA_94⟩ := hdpA 16 _ 94 (by kernel_rfl) rfl rfl
           have qA_92 : Sl aA 92 (Value.int .u16 (d2[j3]!.toNat : Int)) := hdpA 13 _ 92 (by kernel_rfl) rfl rfl
           clear hbsA hdpA
           have hOA : Own wA base 35 1 v n ((d2.setIfInBounds j3 d2[(j3 - 1)]!).toList.map u16v) := hOA
           refine op_store_own (vs := [(Value.int .u16 (d2[j3]!.toNat : Int))]) size35 (ev_base hNA rfl qA_94) (ev_base hNA rfl qA_92) rfl rfl rfl hOA hAA_94 (by have := hOA.1; simp at this ⊢; omega) ?_
           intro w_ hO_ E_
           exact obW_end rfl (hO_.cast rfl (set_arr (by first | omega | (simp only [Array.size_setIfInBounds, swp_sz, siftDown_size]; omega)))) E_
          ·
           intro a306 w306 hN306 hd306 hbs306 hph306 hO306 E306
           have hd306 := hd306.trans hd291
           have s306_0 := (hbs306 0 rfl).trans (sl_base hN291 rfl s291_0)
           have s306_1 := (hbs306 1 rfl).trans (sl_base hN291 rfl s291_1)
           have s306_2 := (hbs306 2 rfl).trans (sl_base hN291 rfl s291_2)
           have s306_7 := (hbs306 7 rfl).trans (sl_base hN291 rfl s291_7)
           have s306_8 := (hbs306 8 rfl).trans (sl_base hN291 rfl s291_8)
           have s306_9 := (hbs306 9 rfl).trans (sl_base hN291 rfl s291_9)
           clear hbs306 hph306
           have hO306 : Own w306 base 35 1 v n (((d2.setIfInBounds j3 d2[(j3 - 1)]!).setIfInBounds (j3 - 1) d2[j3]!).toList.map u16v) := hO306
           have z_w306 := E306.size
           have hb := grow_stepX hb E306 rfl
           refine hK295 _ _ ?_
           refine one_reg ?_
           refine op_move (ev_base hN306 rfl s306_9) ?_
           refine op_sub (ev_hit hN306 rfl) rfl (sub64 (by omega)) ?_
           refine op_assign (ev_hit hN306 rfl) ?_
           refine reg_nil ?_
           -- round 14T 37F 41F 61T 65T 78F
           exact loop_next _ hN306 hd306 ⟨(j3 - 1), _, rfl, (sl_base hN306 rfl s306_0), (sl_base hN306 rfl s306_1), (sl_base hN306 rfl s306_2), (sl_base hN306 rfl s306_7), (sl_base hN306 rfl s306_8), (sl_hit hN306 rfl).trans (congrArg (Value.int .i64) (by omega)), (by first | assumption | (simp only [Array.size_setIfInBounds, swp_sz, siftDown_size]; assumption)), (by omega), (hdn.trans (shiftDown_go (by omega) (not_f c78))), hb, (by omega), hO306⟩ (by omega)
        · -- 65F
         refine reg_nil ?_
         refine hK294 _ _ ?_
         refine wp_cond_false (ev_hit hN291 rfl) ?_
         refine wp_exit (then_exit (then_exit (blk_hit ?_)))
         refine hK288 _ _ ?_
         exact hJ286 _ _ _ hN291 hd291 ⟨_, (sl_base hN291 rfl s291_0), (sl_base hN291 rfl s291_1), (sl_base hN291 rfl s291_2), (sl_base hN291 rfl s291_7), (sl_base hN291 rfl s291_8), ((fixDown_t (by omega)).trans (hdn.trans (shiftDown_stop (.inl (by omega))))).symm, (by first | assumption | (simp only [Array.size_setIfInBounds, swp_sz, siftDown_size]; assumption)), hb, (by omega), hO292⟩
       · -- 61F
        refine reg_nil ?_
        refine hK289 _ _ ?_
        refine wp_cond_false (ev_hit hN285 rfl) ?_
        refine wp_skip ?_
        refine hK288 _ _ ?_
        exact hJ286 _ _ _ hN285 hd285 ⟨_, (sl_base hN285 rfl s285_0), (sl_base hN285 rfl s285_1), (sl_base hN285 rfl s285_2), (sl_base hN285 rfl s285_7), (sl_base hN285 rfl s285_8), (fixDown_f (by omega)).symm, (by first | assumption | (simp only [Array.size_setIfInBounds, swp_sz, siftDown_size]; assumption)), hb, (by omega), hO285⟩
      ·
       rintro a286 w286 hN286 hd286 ⟨d3, s286_0, s286_1, s286_2, s286_7, s286_8, hdd, hz3, hb, zl_w286, hO287⟩
       have z_w286 := hb.size
       refine seq_any fun K307 hK307 => ?_
       refine one_reg ?_
       refine op_move (ev_base hN286 rfl s286_2) ?_
       refine op_move (ev_base hN286 rfl s286_7) ?_
       refine op_sub (ev_hit hN286 rfl) (ev_hit hN286 rfl) (sub64 (by omega)) ?_
       refine op_geq (ev_hit hN286 rfl) rfl (fun c98 => ?_) (fun c98 => ?_)
       · -- 98T
        refine reg_nil ?_
        refine hK307 _ _ ?_
        refine wp_cond_true (ev_hit hN286 rfl) ?_
        refine seq_any fun K308 hK308 => ?_
        refine one_reg ?_
        refine op_move (ev_base hN286 rfl s286_7) ?_
        refine op_add (ev_hit hN286 rfl) rfl (add64 (by omega)) ?_
        refine op_assign (ev_hit hN286 rfl) ?_
        refine reg_nil ?_
        refine hK308 _ _ ?_
        refine wp_block ?_
        refine loop_m (fun mz_ az_ w' => ∃ (j4 : Nat) (d4 : Ar), mz_ = (b + 1 - j4) ∧ (az_.tmps.getD 0 undef = v) ∧ (az_.tmps.getD 1 undef = (Value.int .i64 ((a : Nat) : Int))) ∧ (az_.tmps.getD 2 undef = (Value.int .i64 ((b : Nat) : Int))) ∧ (az_.tmps.getD 7 undef = (Value.int .i64 ((i2 : Nat) : Int))) ∧ (az_.tmps.getD 8 undef = (Value.int .i64 ((s : Nat) : Int))) ∧ (az_.tmps.getD 10 undef = (Value.int .i64 ((j4 : Nat) : Int))) ∧ (d4.size = n) ∧ (i2 + 1 ≤ j4 ∧ j4 ≤ b) ∧ (shiftUp ltT b (i2 + 1) d3 = shiftUp ltT b j4 d4) ∧ (w.grownBy w' v.ownBlock) ∧ (w286.heap.size ≤ w'.heap.size) ∧ (Own w' base 35 1 v n (d4.toList.map u16v))) _ hN286 hd286 ⟨(i2 + 1), _, rfl, (sl_base hN286 rfl s286_0), (sl_base hN286 rfl s286_1), (sl_base hN286 rfl s286_2), (sl_base hN286 rfl s286_7), (sl_base hN286 rfl s286_8), (sl_hit hN286 rfl).trans (congrArg (Value.int .i64) (by omega)), (by first | assumption | (simp only [Array.size_setIfInBounds, swp_sz, siftDown_size]; assumption)), (by omega), rfl, hb, (Nat.le_refl _), hO287⟩ ?_
        rintro _ a309 w309 hN309 hd309 ⟨j4, d4, rfl, s309_0, s309_1, s309_2, s309_7, s309_8, s309_10, hd4, hr4, hup, hb, zl_w309, hO310⟩
        have z_w309 := hb.size
        refine seq_any fun K311 hK311 => ?_
        refine seq_any fun K312 hK312 => ?_
        refine one_reg ?_
        refine op_move (ev_base hN309 rfl s309_10) ?_
        refine op_move (ev_base hN309 rfl s309_2) ?_
        refine op_lss (ev_hit hN309 rfl) (ev_hit hN309 rfl) (fun c103 => ?_) (fun c103 => ?_)
        · -- 103T
         refine reg_nil ?_
         refine hK312 _ _ ?_
         refine wp_cond_true (ev_hit hN309 rfl) ?_
         refine wp_skip ?_
         refine hK311 _ _ ?_
         refine seq_any fun K313 hK313 => ?_
         refine wp_block ?_
         refine seq_any fun K314 hK314 => ?_
         refine seq_any fun K315 hK315 => ?_
         refine reg_still mixed (by kernel_rfl) ?_
         intro w317 E316
         have z_w317 := E316.size
         have hO310 := hO310.keep0 E316
         have hb := grow_step0 hb E316
         refine st_step rfl (fun _ h9 => op_move (ev_base hN309 rfl s309_0) h9) ?_
         refine st_step rfl (fun _ h9 => op_move (ev_base hN309 rfl s309_10) h9) ?_
         refine st_index_rd slt22 (ev_hit hN309 rfl) hO310.rdw (ev_hit hN309 rfl) (by omega) (by omega) ?_
         intro b318 o319 h0b318 h1b318 hc320
         refine st_step rfl (fun _ h9 => op_load1 (v := (Value.int .u16 (d4[j4]!.toNat : Int))) one35 (ev_hit hN309 rfl) (by have := hc320 0 (Value.int .u16 (d4[j4]!.toNat : Int)) (by decide) (el_arr (i := j4) (by omega) (by first | omega | (simp only [Array.size_setIfInBounds, swp_sz, siftDown_size]; omega))); simpa using this) h9) ?_
         refine st_step rfl (fun _ h9 => op_move (ev_base hN309 rfl s309_0) h9) ?_
         refine st_step rfl (fun _ h9 => op_move (ev_base hN309 rfl s309_10) h9) ?_
         refine st_step rfl (fun _ h9 => op_sub (ev_hit hN309 rfl) rfl (sub64 (by omega)) h9) ?_
         refine st_index_rd slt22 (ev_hit hN309 rfl) hO310.rdw (ev_hit hN309 rfl) (by omega) (by omega) ?_
         intro b321 o322 h0b321 h1b321 hc323
         refine st_step rfl (fun _ h9 => op_load1 (v := (Value.int .u16 (d4[(j4 - 1)]!.toNat : Int))) one35 (ev_hit hN309 rfl) (by have := hc323 0 (Value.int .u16 (d4[(j4 - 1)]!.toNat : Int)) (by decide) (el_arr (i := (j4 - 1)) (by omega) (by first | omega | (simp only [Array.size_setIfInBounds, swp_sz, siftDown_size]; omega))); simpa using this) h9) ?_
         refine st_fn (vs := [(Value.int .u16 (d4[j4]!.toNat : Int)), (Value.int .u16 (d4[(j4 - 1)]!.toNat : Int))]) ok72 (⟨(ev_hit hN309 rfl), ⟨(ev_hit hN309 rfl), trivial⟩⟩) (Less16_ret d4[j4]! d4[(j4 - 1)]! _) ?_
         refine st_step rfl (fun _ h9 => op_not (ev_hit hN309 rfl) h9) ?_
         refine st_nil ?_
         refine hK315 _ _ ?_
         refine wp_cond_split (ev_hit hN309 rfl) (fun c116 => ?_) (fun c116 => ?_)
         · -- 116T
          refine wp_exit (then_exit (blk_miss (by decide) (then_exit (then_exit (blk_hit ?_)))))
          refine hK264 _ _ ?_
          refine one_reg ?_
          refine op_move (ev_base hN309 rfl s309_8) ?_
          refine op_add (ev_hit hN309 rfl) rfl (add64 (by omega)) ?_
          refine op_assign (ev_hit hN309 rfl) ?_
          refine reg_nil ?_
          -- round 14T 37F 41F 98T 103T 116T
          exact loop_next _ hN309 hd309 ⟨(s + 1), i2, _, rfl, (sl_base hN309 rfl s309_0), (sl_base hN309 rfl s309_1), (sl_base hN309 rfl s309_2), (sl_hit hN309 rfl).trans (congrArg (Value.int .i64) (by omega)), (sl_base hN309 rfl s309_7).trans (congrArg (Value.int .i64) (by omega)), (by first | assumption | (simp only [Array.size_setIfInBounds, swp_sz, siftDown_size]; assumption)), (by omega), (hs.trans (pi_go (by omega) hq2 (by omega) (by omega) hdd ((fixUp_t (by omega)).trans (hup.trans (shiftUp_stop (.inr (not_t c116))))).symm)), hb, (by omega), hO310⟩ (by omega)
         · -- 116F
          refine wp_skip ?_
          refine hK314 _ _ ?_
          refine reg_mid (e := 35) (sz := 1) (base := base) (n := n) (v := v) (Φ := phiL [(fun uz _ => uz = v), (fun uz _ => uz = (Value.int .i64 ((j4 : Nat) : Int))), (fun uz _ => uz = v), (fun uz _ => uz = (Value.int .i64 ((j4 : Nat) : Int))), (fun uz _ => uz = (Value.int .i64 (((j4 : Nat) : Int) - 1))), (fun uz _ => uz = v), (fun uz _ => uz = (Value.int .i64 ((j4 : Nat) : Int))), (fun uz _ => uz = (Value.int .i64 (((j4 : Nat) : Int) - 1))), (fun uz _ => ∃ bz oz, uz = ptr bz oz ∧ AtV v (j4 - 1) bz oz), (fun uz _ => uz = (Value.int .u16 (d4[(j4 - 1)]!.toNat : Int))), (fun uz _ => uz = v), (fun uz _ => uz = (Value.int .i64 ((j4 : Nat) : Int))), (fun uz _ => ∃ bz oz, uz = ptr bz oz ∧ AtV v j4 bz oz), (fun uz _ => uz = (Value.int .u16 (d4[j4]!.toNat : Int))), (fun uz _ => ∃ bz oz, uz = ptr bz oz ∧ AtV v j4 bz oz), (fun _ _ => True), (fun uz _ => ∃ bz oz, uz = ptr bz oz ∧ AtV v (j4 - 1) bz oz), (fun _ _ => True)]) [15, 17] [(d4.toList.map u16v), ((d4.setIfInBounds j4 d4[(j4 - 1)]!).toList.map u16v), (((d4.setIfInBounds j4 d4[(j4 - 1)]!).setIfInBounds (j4 - 1) d4[j4]!).toList.map u16v)] mixed (by kernel_rfl) (by kernel_rfl) (by kernel_rfl) (by kernel_rfl) hN309 hO310 (StL.get (StL.eq (StL.eq (StL.eq (StL.eq (StL.eq (StL.eq (StL.eq (StL.eq (StL.at (StL.eq (StL.eq (StL.eq (StL.at (StL.eq (StL.at (StL.cons (fun _ _ _ _ h => h) (StL.at (StL.cons (fun _ _ _ _ h => h) (StL.nil _)))))))))))))))))))) (ObRs.get (ObRs.cons ?_ (ObRs.cons ?_ (ObRs.cons ?_ (ObRs.cons ?_ (ObRs.cons ?_ (ObRs.cons ?_ (ObRs.cons ?_ (ObRs.cons ?_ (ObRs.cons ?_ (ObRs.cons ?_ (ObRs.cons ?_ (ObRs.cons ?_ (ObRs.cons ?_ (ObRs.cons ?_ (ObRs.cons ?_ (ObRs.pass rfl (ObRs.cons ?_ (ObRs.pass rfl (ObRs.nil)))))))))))))))))))) (ObWs.get (ObWs.cons ?_ (ObWs.cons ?_ (ObWs.nil)))) ?_
          ·
           intro aA wA cA hNA hRA hckA hOA hbsA hdpA
           have qA_0 := (hbsA 0 rfl).trans (sl_base hN309 rfl s309_0)
           clear hbsA hdpA
           refine op_move (ev_base hNA rfl qA_0) ?_
           exact obR_end rfl rfl (grown_refl _ _)
          ·
           intro aA wA cA hNA hRA hckA hOA hbsA hdpA
           have qA_10 := (hbsA 10 rfl).trans (sl_base hN309 rfl s309_10)
           clear hbsA hdpA
           refine op_move (ev_base hNA rfl qA_10) ?_
           exact obR_end rfl rfl (grown_refl _ _)
          ·
           intro aA wA cA hNA hRA hckA hOA hbsA hdpA
           have qA_0 := (hbsA 0 rfl).trans (sl_base hN309 rfl s309_0)
           clear hbsA hdpA
           refine op_move (ev_base hNA rfl qA_0) ?_
           exact obR_end rfl rfl (grown_refl _ _)
          ·
           intro aA wA cA hNA hRA hckA hOA hbsA hdpA
           have qA_10 := (hbsA 10 rfl).trans (sl_base hN309 rfl s309_10)
           clear hbsA hdpA
           refine op_move (ev_base hNA rfl qA_10) ?_
           exact obR_end rfl rfl (grown_refl _ _)
          ·
           intro aA wA cA hNA hRA hckA hOA hbsA hdpA
           have qA_120 : Sl aA 120 (Value.int .i64 ((j4 : Nat) : Int)) := hdpA 3 _ 120 (by kernel_rfl) rfl rfl
           clear hbsA hdpA
           refine op_sub (ev_base hNA rfl qA_120) rfl (sub64 (by omega)) ?_
           exact obR_end rfl rfl (grown_refl _ _)
          ·
           intro aA wA cA hNA hRA hckA hOA hbsA hdpA
           have qA_0 := (hbsA 0 rfl).trans (sl_base hN309 rfl s309_0)
           clear hbsA hdpA
           refine op_move (ev_base hNA rfl qA_0) ?_
           exact obR_end rfl rfl (grown_refl _ _)
          ·
           intro aA wA cA hNA hRA hckA hOA hbsA hdpA
           have qA_10 := (hbsA 10 rfl).trans (sl_base hN309 rfl s309_10)
           clear hbsA hdpA
           refine op_move (ev_base hNA rfl qA_10) ?_
           exact obR_end rfl rfl (grown_refl _ _)
          ·
           intro aA wA cA hNA hRA hckA hOA hbsA hdpA
           have qA_123 : Sl aA 123 (Value.int .i64 ((j4 : Nat) : Int)) := hdpA 6 _ 123 (by kernel_rfl) rfl rfl
           clear hbsA hdpA
           refine op_sub (ev_base hNA rfl qA_123) rfl (sub64 (by omega)) ?_
           exact obR_end rfl rfl (grown_refl _ _)
          ·
           intro aA wA cA hNA hRA hckA hOA hbsA hdpA
           have qA_122 : Sl aA 122 v := hdpA 5 _ 122 (by kernel_rfl) rfl rfl
           have qA_124 : Sl aA 124 (Value.int .i64 (((j4 : Nat) : Int) - 1)) := hdpA 7 _ 124 (by kernel_rfl) rfl rfl
           clear hbsA hdpA
           refine op_index_own (i := (j4 - 1)) slt22 (ev_base hNA rfl qA_122) hOA (ev_base hNA rfl qA_124) (by omega) (by omega) ?_
           intro b_ o_ _ hA_
           exact obR_end rfl ⟨b_, o_, rfl, by simpa using hA_⟩ (grown_refl _ _)
          ·
           intro aA wA cA hNA hRA hckA hOA hbsA hdpA
           obtain ⟨bA_125, oA_125, qA_125, hAA_125⟩ := hdpA 8 _ 125 (by kernel_rfl) rfl rfl
           clear hbsA hdpA
           obtain rfl : cA = 0 := Nat.le_zero.1 (hckA 0 15 rfl (by kernel_rfl))
           have hOA : Own wA base 35 1 v n (d4.toList.map u16v) := hOA
           refine op_load1 (v := (Value.int .u16 (d4[(j4 - 1)]!.toNat : Int))) one35 (ev_base hNA rfl qA_125) (by have := hOA.cellAt hAA_125 0 _ (el_at (i := (j4 - 1)) (by first | omega | (simp only [Array.size_setIfInBounds, swp_sz, siftDown_size]; omega))); simpa using this) ?_
           exact obR_end rfl rfl (grown_refl _ _)
          ·
           intro aA wA cA hNA hRA hckA hOA hbsA hdpA
           have qA_0 := (hbsA 0 rfl).trans (sl_base hN309 rfl s309_0)
           clear hbsA hdpA
           refine op_move (ev_base hNA rfl qA_0) ?_
           exact obR_end rfl rfl (grown_refl _ _)
          ·
           intro aA wA cA hNA hRA hckA hOA hbsA hdpA
           have qA_10 := (hbsA 10 rfl).trans (sl_base hN309 rfl s309_10)
           clear hbsA hdpA
           refine op_move (ev_base hNA rfl qA_10) ?_
           exact obR_end rfl rfl (grown_refl _ _)
          ·
           intro aA wA cA hNA hRA hckA hOA hbsA hdpA
           have qA_127 : Sl aA 127 v := hdpA 10 _ 127 (by kernel_rfl) rfl rfl
           have qA_128 : Sl aA 128 (Value.int .i64 ((j4 : Nat) : Int)) := hdpA 11 _ 128 (by kernel_rfl) rfl rfl
           clear hbsA hdpA
           refine op_index_own (i := j4) slt22 (ev_base hNA rfl qA_127) hOA (ev_base hNA rfl qA_128) (by omega) (by omega) ?_
           intro b_ o_ _ hA_
           exact obR_end rfl ⟨b_, o_, rfl, by simpa using hA_⟩ (grown_refl _ _)
          ·
           intro aA wA cA hNA hRA hckA hOA hbsA hdpA
           obtain ⟨bA_129, oA_129, qA_129, hAA_129⟩ := hdpA 12 _ 129 (by kernel_rfl) rfl rfl
           clear hbsA hdpA
           obtain rfl : cA = 0 := Nat.le_zero.1 (hckA 0 15 rfl (by kernel_rfl))
           have hOA : Own wA base 35 1 v n (d4.toList.map u16v) := hOA
           refine op_load1 (v := (Value.int .u16 (d4[j4]!.toNat : Int))) one35 (ev_base hNA rfl qA_129) (by have := hOA.cellAt hAA_129 0 _ (el_at (i := j4) (by first | omega | (simp only [Array.size_setIfInBounds, swp_sz, siftDown_size]; omega))); simpa using this) ?_
           exact obR_end rfl rfl (grown_refl _ _)
          ·
           intro aA wA cA hNA hRA hckA hOA hbsA hdpA
           have qA_117 : Sl aA 117 v := hdpA 0 _ 117 (by kernel_rfl) rfl rfl
           have qA_118 : Sl aA 118 (Value.int .i64 ((j4 : Nat) : Int)) := hdpA 1 _ 118 (by kernel_rfl) rfl rfl
           clear hbsA hdpA
           refine op_index_own (i := j4) slt22 (ev_base hNA rfl qA_117) hOA (ev_base hNA rfl qA_118) (by omega) (by omega) ?_
           intro b_ o_ _ hA_
           exact obR_end rfl ⟨b_, o_, rfl, by simpa using hA_⟩ (grown_refl _ _)
          ·
           intro aA wA cA hNA hRA hckA hOA hbsA hdpA
           have qA_119 : Sl aA 119 v := hdpA 2 _ 119 (by kernel_rfl) rfl rfl
           have qA_121 : Sl aA 121 (Value.int .i64 (((j4 : Nat) : Int) - 1)) := hdpA 4 _ 121 (by kernel_rfl) rfl rfl
           clear hbsA hdpA
           refine op_index_own (i := (j4 - 1)) slt22 (ev_base hNA rfl qA_119) hOA (ev_base hNA rfl qA_121) (by omega) (by omega) ?_
           intro b_ o_ _ hA_
           exact obR_end rfl ⟨b_, o_, rfl, by simpa using hA_⟩ (grown_refl _ _)
          ·
           intro o_ ho_; obtain rfl := Option.some.inj ho_; intro aA wA hNA hRA hbsA hdpA hOA
           obtain ⟨bA_131, oA_131, qA_131, hAA_131⟩ := hdpA 14 _ 131 (by kernel_rfl) rfl rfl
           have qA_126 : Sl aA 126 (Value.int .u16 (d4[(j4 - 1)]!.toNat : Int)) := hdpA 9 _ 126 (by kernel_rfl) rfl rfl
           clear hbsA hdpA
           have hOA : Own wA base 35 1 v n (d4.toList.map u16v) := hOA
           refine op_store_own (vs := [(Value.int .u16 (d4[(j4 - 1)]!.toNat : Int))]) size35 (ev_base hNA rfl qA_131) (ev_base hNA rfl qA_126) rfl rfl rfl hOA hAA_131 (by have := hOA.1; simp at this ⊢; omega) ?_
           intro w_ hO_ E_
           exact obW_end rfl (hO_.cast rfl (set_arr (by first | omega | (simp only [Array.size_setIfInBounds, swp_sz, siftDown_size]; omega)))) E_
          ·
           intro o_ ho_; obtain rfl := Option.some.inj ho_; intro aA wA hNA hRA hbsA hdpA hOA
           obtain ⟨bA_132, oA_132, qA_132, hAA_132⟩ := hdpA 16 _ 132 (by kernel_rfl) rfl rfl
           have qA_130 : Sl aA 130 (Value.int .u16 (d4[j4]!.toNat : Int)) := hdpA 13 _ 130 (by kernel_rfl) rfl rfl
           clear hbsA hdpA
           have hOA : Own wA base 35 1 v n ((d4.setIfInBounds j4 d4[(j4 - 1)]!).toList.map u16v) := hOA
           refine op_store_own (vs := [(Value.int .u16 (d4[j4]!.toNat : Int))]) size35 (ev_base hNA rfl qA_132) (ev_base hNA rfl qA_130) rfl rfl rfl hOA hAA_132 (by have := hOA.1; simp at this ⊢; omega) ?_
           intro w_ hO_ E_
           exact obW_end rfl (hO_.cast rfl (set_arr (by first | omega | (simp only [Array.size_setIfInBounds, swp_sz, siftDown_size]; omega)))) E_
          ·
           intro a324 w324 hN324 hd324 hbs324 hph324 hO324 E324
           have hd324 := hd324.trans hd309
           have s324_0 := (hbs324 0 rfl).trans (sl_base hN309 rfl s309_0)
           have s324_1 := (hbs324 1 rfl).trans (sl_base hN309 rfl s309_1)
           have s324_2 := (hbs324 2 rfl).trans (sl_base hN309 rfl s309_2)
           have s324_7 := (hbs324 7 rfl).trans (sl_base hN309 rfl s309_7)
           have s324_8 := (hbs324 8 rfl).trans (sl_base hN309 rfl s309_8)
           have s324_10 := (hbs324 10 rfl).trans (sl_base hN309 rfl s309_10)
           clear hbs324 hph324
           have hO324 : Own w324 base 35 1 v n (((d4.setIfInBounds j4 d4[(j4 - 1)]!).setIfInBounds (j4 - 1) d4[j4]!).toList.map u16v) := hO324
           have z_w324 := E324.size
           have hb := grow_stepX hb E324 rfl
           refine hK313 _ _ ?_
           refine one_reg ?_
           refine op_move (ev_base hN324 rfl s324_10) ?_
           refine op_add (ev_hit hN324 rfl) rfl (add64 (by omega)) ?_
           refine op_assign (ev_hit hN324 rfl) ?_
           refine reg_nil ?_
           -- round 14T 37F 41F 98T 103T 116F
           exact loop_next _ hN324 hd324 ⟨(j4 + 1), _, rfl, (sl_base hN324 rfl s324_0), (sl_base hN324 rfl s324_1), (sl_base hN324 rfl s324_2), (sl_base hN324 rfl s324_7), (sl_base hN324 rfl s324_8), (sl_hit hN324 rfl).trans (congrArg (Value.int .i64) (by omega)), (by first | assumption | (simp only [Array.size_setIfInBounds, swp_sz, siftDown_size]; assumption)), (by omega), (hup.trans (shiftUp_go (by omega) (not_f c116))), hb, (by omega), hO324⟩ (by omega)
        · -- 103F
         refine reg_nil ?_
         refine hK312 _ _ ?_
         refine wp_cond_false (ev_hit hN309 rfl) ?_
         refine wp_exit (then_exit (then_exit (blk_hit ?_)))
         refine hK264 _ _ ?_
         refine one_reg ?_
         refine op_move (ev_base hN309 rfl s309_8) ?_
         refine op_add (ev_hit hN309 rfl) rfl (add64 (by omega)) ?_
         refine op_assign (ev_hit hN309 rfl) ?_
         refine reg_nil ?_
         -- round 14T 37F 41F 98T 103F
         exact loop_next _ hN309 hd309 ⟨(s + 1), i2, _, rfl, (sl_base hN309 rfl s309_0), (sl_base hN309 rfl s309_1), (sl_base hN309 rfl s309_2), (sl_hit hN309 rfl).trans (congrArg (Value.int .i64) (by omega)), (sl_base hN309 rfl s309_7).trans (congrArg (Value.int .i64) (by omega)), (by first | assumption | (simp only [Array.size_setIfInBounds, swp_sz, siftDown_size]; assumption)), (by omega), (hs.trans (pi_go (by omega) hq2 (by omega) (by omega) hdd ((fixUp_t (by omega)).trans (hup.trans (shiftUp_stop (.inl (by omega))))).symm)), hb, (by omega), hO310⟩ (by omega)
       · -- 98F
        refine reg_nil ?_
        refine hK307 _ _ ?_
        refine wp_cond_false (ev_hit hN286 rfl) ?_
        refine wp_skip ?_
        refine hK264 _ _ ?_
        refine one_reg ?_
        refine op_move (ev_base hN286 rfl s286_8) ?_
        refine op_add (ev_hit hN286 rfl) rfl (add64 (by omega)) ?_
        refine op_assign (ev_hit hN286 rfl) ?_
        refine reg_nil ?_
        -- round 14T 37F 41F 98F
        exact loop_next _ hN286 hd286 ⟨(s + 1), i2, _, rfl, (sl_base hN286 rfl s286_0), (sl_base hN286 rfl s286_1), (sl_base hN286 rfl s286_2), (sl_hit hN286 rfl).trans (congrArg (Value.int .i64) (by omega)), (sl_base hN286 rfl s286_7).trans (congrArg (Value.int .i64) (by omega)), (by first | assumption | (simp only [Array.size_setIfInBounds, swp_sz, siftDown_size]; assumption)), (by omega), (hs.trans (pi_go (by omega) hq2 (by omega) (by omega) hdd (fixUp_f (by omega)).symm)), hb, (by omega), hO287⟩ (by omega)
 · -- 14F
  refine reg_nil ?_
  refine hK263 _ _ ?_
  refine wp_cond_false (ev_hit hN260 rfl) ?_
  refine wp_exit (then_exit (then_exit (blk_hit ?_)))
  refine hK258 _ _ ?_
  refine seq_any fun K325 hK325 => ?_
  refine one_reg ?_
  refine op_assign rfl ?_
  refine reg_nil ?_
  refine hK325 _ _ ?_
  refine wp_ret ?_
  refine ret1 rfl hd260 (ev_hit hN260 rfl) ⟨_, rfl, ?_⟩
  -- path 14F
  have hq : partialInsertionSort ltT d a b = (dk, false) := hs.trans (by rw [show 5 - s = 0 by omega]; rfl)
  exact ⟨hb, by rw [hq]; rfl, hO261.cast rfl (by rw [hq])⟩

end Go.Proofs.Ytpmnljffdofkeaa

/- Walks, written by a program: what each function of the translation hands back. -/
namespace Go.Proofs.Ytpmnljffdofkeaa
open Go.Gx Go.RowKit
attribute [local irreducible] wpList wpStill Code.wp Calls
open Go.Sort (insertionSort insOuter insInner swp siftDown heapSort heapBuild heapPop scanUp scanDown partition partLoop partitionEqual partEqLoop scanSorted partialIns bitsLen partialInsertionSort shiftDown shiftUp SortedIn reverseRange reverseLoop fixDown fixUp)
set_option maxHeartbeats 2000000 in
theorem bpW_ret (d : Ar) (v : Value) (n base : Nat) (a b : Nat) (w : World) (hd : d.size = n) (hn : n ≤ 4000000000000000000) (O : Own w base 35 1 v n (d.toList.map u16v)) (hab : a ≤ b) (hbn : b ≤ n) : Ret Try.prog 68 #[v, (Value.int .i64 ((a : Nat) : Int)), (Value.int .i64 ((b : Nat) : Int))] w (fun v' w' => w.grownBy w' v.ownBlock ∧ v' = .tuple #[] ∧ ∃ d', PI a b d d' ∧ Own w' base 35 1 v n (d'.toList.map u16v)) := by
 have hb := grown_refl w v.ownBlock
 refine enter (N := 65) Try.func68 rfl rfl (by simp) fun a0 hN hd hA => ?_
 have s0 : a0.tmps.getD 0 undef = v := hA 0 (by simp)
 have s1 : a0.tmps.getD 1 undef = (Value.int .i64 ((a : Nat) : Int)) := hA 1 (by simp)
 have s2 : a0.tmps.getD 2 undef = (Value.int .i64 ((b : Nat) : Int)) := hA 2 (by simp)
 clear hA
 refine seq_any fun K455 hK455 => ?_
 refine one_reg ?_
 refine op_move (ev_base hN rfl s2) ?_
 refine op_move (ev_base hN rfl s1) ?_
 refine op_sub (r := (((b - a) : Nat) : Int)) (ev_hit hN rfl) (ev_hit hN rfl) (by rw [IntKind.wrap_i64]; omega) ?_
 refine op_assign (ev_hit hN rfl) ?_
 refine reg_nil ?_
 refine hK455 _ _ ?_
 refine seq_any fun K456 hK456 => ?_
 refine one_reg ?_
 refine op_move (ev_hit hN rfl) ?_
 refine op_geq (ev_hit hN rfl) rfl (fun c15 => ?_) (fun c15 => ?_)
 · -- 15T
  refine reg_nil ?_
  refine hK456 _ _ ?_
  refine wp_cond_true (ev_hit hN rfl) ?_
  refine seq_any fun K457 hK457 => ?_
  refine one_reg ?_
  refine op_move (ev_hit hN rfl) ?_
  refine op_conv (r := (((b - a) : Nat) : Int)) (ev_hit hN rfl) us3 Try.underlying82 (wrap_u64 (by omega)) ?_
  refine op_alloc (cs := [(Value.int .u64 0)]) zero82 rfl ?_
  intro w458 b459 lo_b459 hi_b459 hB461 E460
  have z_w458 := E460.size
  have O := O.keep0 E460
  have hb := grow_step0 hb E460
  have hB461_old := hB461
  refine op_store (vs := [(Value.int .u64 (((b - a) : Nat) : Int))]) (cs' := [(Value.int .u64 (((b - a) : Nat) : Int))]) size82 (ev_hit hN rfl) (ev_hit hN rfl) rfl rfl rfl hB461 (Nat.le_of_ble_eq_true rfl) rfl ?_
  intro w464 hB461 E465
  have z_w464 := E465.size
  have O := O.keepX hB461_old E465 (by decide)
  have hb := grow_step1 hb E465 (by omega)
  refine reg_nil ?_
  refine hK457 _ _ ?_
  refine seq_any fun K466 hK466 => ?_
  refine one_reg ?_
  refine op_move (ev_hit hN rfl) ?_
  refine op_fn (vs := [(Value.int .i64 (((b - a) : Nat) : Int))]) ok78 ⟨(ev_hit hN rfl), trivial⟩ (npW_ret (b - a) _ (by omega)) ?_
  rintro _ w468 ⟨E469, M467, rfl, hM467, hM2467⟩
  have E469 := grown_of_below E469
  have z_w468 := E469.size
  have O := O.keep0 E469
  have hB461 := hB461.keep0 E469
  have hb := grow_step0 hb E469
  refine op_assign (ev_hit hN rfl) ?_
  refine reg_nil ?_
  refine hK466 _ _ ?_
  refine seq_any fun K470 hK470 => ?_
  refine one_reg ?_
  refine op_move (ev_base hN rfl s1) ?_
  refine op_move (ev_hit hN rfl) ?_
  refine op_quo (r := ((((b - a) / 4) : Nat) : Int)) (ev_hit hN rfl) rfl (by decide) (by rw [IntKind.wrap_i64, Int.tdiv_eq_ediv_of_nonneg (by omega)]; omega) ?_
  refine op_mul (r := ((((b - a) / 4 * 2) : Nat) : Int)) (ev_hit hN rfl) rfl (by rw [IntKind.wrap_i64]; omega) ?_
  refine op_add (ev_hit hN rfl) (ev_hit hN rfl) (add64 (by omega)) ?_
  refine op_sub (r := (((a + ((b - a) / 4 * 2) - 1) : Nat) : Int)) (ev_hit hN rfl) rfl (by rw [IntKind.wrap_i64]; omega) ?_
  refine op_assign (ev_hit hN rfl) ?_
  refine reg_nil ?_
  refine hK470 _ _ ?_
  refine wp_block ?_
  refine loop_m (fun mz_ az_ w' => ∃ (ix xs : Nat) (dk : Ar), mz_ = (a + b + 10 - ix) ∧ (az_.tmps.getD 0 undef = v) ∧ (az_.tmps.getD 1 undef = (Value.int .i64 ((a : Nat) : Int))) ∧ (az_.tmps.getD 6 undef = (Value.int .i64 (((b - a) : Nat) : Int))) ∧ (az_.tmps.getD 7 undef = (ptr b459 0)) ∧ (az_.tmps.getD 8 undef = (Value.int .u64 ((M467 : Nat) : Int))) ∧ (az_.tmps.getD 9 undef = (Value.int .i64 ((ix : Nat) : Int))) ∧ (dk.size = n) ∧ (a + ((b - a) / 4 * 2) - 1 ≤ ix ∧ ix ≤ a + ((b - a) / 4 * 2) + 2) ∧ (PI a b d dk) ∧ (w.grownBy w' v.ownBlock) ∧ (w468.heap.size ≤ w'.heap.size) ∧ (Bx w' b459 82 [(Value.int .u64 ((xs : Nat) : Int))]) ∧ (Own w' base 35 1 v n (dk.toList.map u16v))) _ hN hd ⟨(a + ((b - a) / 4 * 2) - 1), (b - a), _, rfl, (sl_base hN rfl s0), (sl_base hN rfl s1), (sl_hit hN rfl), (sl_hit hN rfl), (sl_hit hN rfl), (sl_hit hN rfl).trans (congrArg (Value.int .i64) (by omega)), (by first | assumption | (simp only [Array.size_setIfInBounds, swp_sz, siftDown_size]; assumption)), (by omega), (PI.rfl' _ _ _), hb, (Nat.le_refl _), hB461, O⟩ ?_
  rintro _ a471 w471 hN471 hd471 ⟨ix, xs, dk, rfl, s471_0, s471_1, s471_6, s471_7, s471_8, s471_9, hdk, hr1, hpi, hb, zl_w471, hxs, hO472⟩
  have z_w471 := hb.size
  refine seq_any fun K473 hK473 => ?_
  refine seq_any fun K474 hK474 => ?_
  refine one_reg ?_
  refine op_move (ev_base hN471 rfl s471_9) ?_
  refine op_move (ev_base hN471 rfl s471_1) ?_
  refine op_move (ev_base hN471 rfl s471_6) ?_
  refine op_quo (r := ((((b - a) / 4) : Nat) : Int)) (ev_hit hN471 rfl) rfl (by decide) (by rw [IntKind.wrap_i64, Int.tdiv_eq_ediv_of_nonneg (by omega)]; omega) ?_
  refine op_mul (r := ((((b - a) / 4 * 2) : Nat) : Int)) (ev_hit hN471 rfl) rfl (by rw [IntKind.wrap_i64]; omega) ?_
  refine op_add (ev_hit hN471 rfl) (ev_hit hN471 rfl) (add64 (by omega)) ?_
  refine op_add (ev_hit hN471 rfl) rfl (add64 (by omega)) ?_
  refine op_leq (ev_hit hN471 rfl) (ev_hit hN471 rfl) (fun c33 => ?_) (fun c33 => ?_)
  · -- 33T
   refine reg_nil ?_
   refine hK474 _ _ ?_
   refine wp_cond_true (ev_hit hN471 rfl) ?_
   refine wp_skip ?_
   refine hK473 _ _ ?_
   refine seq_any fun K475 hK475 => ?_
   refine wp_block ?_
   refine seq_any fun K476 hK476 => ?_
   refine one_reg ?_
   refine op_fn (vs := [(ptr b459 0)]) ok79 ⟨(ev_base hN471 rfl s471_7), trivial⟩ (xnextW_ret b459 _ _ hxs) ?_
   rintro _ w478 ⟨E479, rx477, rfl, hr477, hs477⟩
   have hxs_old := hxs
   have z_w478 := E479.size
   have hO472 := hO472.keepX hxs_old E479 (by decide)
   have hb := grow_step1 hb E479 (by omega)
   refine op_move (ev_base hN471 rfl s471_8) ?_
   refine op_sub (r := (((M467 - 1) : Nat) : Int)) (ev_hit hN471 rfl) rfl (by rw [show (M467 : Int) - 1 = ((M467 - 1 : Nat) : Int) by omega]; exact wrap_u64 (by omega)) ?_
   refine op_and (r := (((rx477 &&& (M467 - 1)) : Nat) : Int)) (ev_hit hN471 rfl) (ev_hit hN471 rfl) (and_64 (by omega) (by omega)) ?_
   have hand : (rx477 &&& (M467 - 1)) ≤ M467 - 1 := Nat.and_le_right
   refine op_conv (r := (((rx477 &&& (M467 - 1)) : Nat) : Int)) (ev_hit hN471 rfl) us60 Try.underlying3 (by rw [IntKind.wrap_i64]; omega) ?_
   refine op_assign (ev_hit hN471 rfl) ?_
   refine reg_nil ?_
   refine hK476 _ _ ?_
   refine seq_join1 (N := 65) (fun az_ w' => ∃ (ot : Nat), (az_.tmps.getD 0 undef = v) ∧ (az_.tmps.getD 1 undef = (Value.int .i64 ((a : Nat) : Int))) ∧ (az_.tmps.getD 6 undef = (Value.int .i64 (((b - a) : Nat) : Int))) ∧ (az_.tmps.getD 7 undef = (ptr b459 0)) ∧ (az_.tmps.getD 8 undef = (Value.int .u64 ((M467 : Nat) : Int))) ∧ (az_.tmps.getD 9 undef = (Value.int .i64 ((ix : Nat) : Int))) ∧ (az_.tmps.getD 10 undef = (Value.int .i64 ((ot : Nat) : Int))) ∧ (ot < b - a) ∧ (w.grownBy w' v.ownBlock) ∧ (w478.heap.size ≤ w'.heap.size) ∧ (Own w' base 35 1 v n (dk.toList.map u16v)) ∧ (Bx w' b459 82 [(Value.int .u64 ((rx477 : Nat) : Int))])) (fun hJ480 => ?_) ?_
   ·
    refine seq_any fun K481 hK481 => ?_
    refine seq_any fun K482 hK482 => ?_
    refine one_reg ?_
    refine op_move (ev_hit hN471 rfl) ?_
    refine op_move (ev_base hN471 rfl s471_6) ?_
    refine op_geq (ev_hit hN471 rfl) (ev_hit hN471 rfl) (fun c43 => ?_) (fun c43 => ?_)
    · -- 43T
     refine reg_nil ?_
     refine hK482 _ _ ?_
     refine wp_cond_true (ev_hit hN471 rfl) ?_
     refine one_reg ?_
     refine op_move (ev_hit hN471 rfl) ?_
     refine op_move (ev_base hN471 rfl s471_6) ?_
     refine op_sub (ev_hit hN471 rfl) (ev_hit hN471 rfl) (sub64 (by omega)) ?_
     refine op_assign (ev_hit hN471 rfl) ?_
     refine reg_nil ?_
     refine hK481 _ _ ?_
     exact hJ480 _ _ _ hN471 hd471 ⟨((rx477 &&& (M467 - 1)) - (b - a)), (sl_base hN471 rfl s471_0), (sl_base hN471 rfl s471_1), (sl_base hN471 rfl s471_6), (sl_base hN471 rfl s471_7), (sl_base hN471 rfl s471_8), (sl_base hN471 rfl s471_9), (sl_hit hN471 rfl).trans (congrArg (Value.int .i64) (by omega)), (by omega), hb, (by omega), hO472, hs477⟩
    · -- 43F
     refine reg_nil ?_
     refine hK482 _ _ ?_
     refine wp_cond_false (ev_hit hN471 rfl) ?_
     refine wp_skip ?_
     refine hK481 _ _ ?_
     exact hJ480 _ _ _ hN471 hd471 ⟨(rx477 &&& (M467 - 1)), (sl_base hN471 rfl s471_0), (sl_base hN471 rfl s471_1), (sl_base hN471 rfl s471_6), (sl_base hN471 rfl s471_7), (sl_base hN471 rfl s471_8), (sl_base hN471 rfl s471_9), (sl_hit hN471 rfl).trans (congrArg (Value.int .i64) (by omega)), (by omega), hb, (by omega), hO472, hs477⟩
   ·
    rintro a480 w480 hN480 hd480 ⟨ot, s480_0, s480_1, s480_6, s480_7, s480_8, s480_9, s480_10, hot, hb, zl_w480, hO472, hs477⟩
    have z_w480 := hb.size
    refine reg_mid (e := 35) (sz := 1) (base := base) (n := n) (v := v) (Φ := phiL [(fun uz _ => uz = v), (fun uz _ => uz = (Value.int .i64 ((ix : Nat) : Int))), (fun uz _ => uz = v), (fun uz _ => uz = (Value.int .i64 ((a : Nat) : Int))), (fun uz _ => uz = (Value.int .i64 ((ot : Nat) : Int))), (fun uz _ => uz = (Value.int .i64 (((a : Nat) : Int) + ((ot : Nat) : Int)))), (fun uz _ => uz = v), (fun uz _ => uz = (Value.int .i64 ((a : Nat) : Int))), (fun uz _ => uz = (Value.int .i64 ((ot : Nat) : Int))), (fun uz _ => uz = (Value.int .i64 (((a : Nat) : Int) + ((ot : Nat) : Int)))), (fun uz _ => ∃ bz oz, uz = ptr bz oz ∧ AtV v (a + ot) bz oz), (fun uz _ => uz = (Value.int .u16 (dk[(a + ot)]!.toNat : Int))), (fun uz _ => uz = v), (fun uz _ => uz = (Value.int .i64 ((ix : Nat) : Int))), (fun uz _ => ∃ bz oz, uz = ptr bz oz ∧ AtV v ix bz oz), (fun uz _ => uz = (Value.int .u16 (dk[ix]!.toNat : Int))), (fun uz _ => ∃ bz oz, uz = ptr bz oz ∧ AtV v ix bz oz), (fun _ _ => True), (fun uz _ => ∃ bz oz, uz = ptr bz oz ∧ AtV v (a + ot) bz oz), (fun _ _ => True)]) [17, 19] [(dk.toList.map u16v), ((dk.setIfInBounds ix dk[(a + ot)]!).toList.map u16v), (((dk.setIfInBounds ix dk[(a + ot)]!).setIfInBounds (a + ot) dk[ix]!).toList.map u16v)] mixed (by kernel_rfl) (by kernel_rfl) (by kernel_rfl) (by kernel_rfl) hN480 hO472 (StL.get (StL.eq (StL.eq (StL.eq (StL.eq (StL.eq (StL.eq (StL.eq (StL.eq (StL.eq (StL.eq (StL.at (StL.eq (StL.eq (StL.eq (StL.at (StL.eq (StL.at (StL.cons (fun _ _ _ _ h => h) (StL.at (StL.cons (fun _ _ _ _ h => h) (StL.nil _)))))))))))))))))))))) (ObRs.get (ObRs.cons ?_ (ObRs.cons ?_ (ObRs.cons ?_ (ObRs.cons ?_ (ObRs.cons ?_ (ObRs.cons ?_ (ObRs.cons ?_ (ObRs.cons ?_ (ObRs.cons ?_ (ObRs.cons ?_ (ObRs.cons ?_ (ObRs.cons ?_ (ObRs.cons ?_ (ObRs.cons ?_ (ObRs.cons ?_ (ObRs.cons ?_ (ObRs.cons ?_ (ObRs.pass rfl (ObRs.cons ?_ (ObRs.pass rfl (ObRs.nil)))))))))))))))))))))) (ObWs.get (ObWs.cons ?_ (ObWs.cons ?_ (ObWs.nil)))) ?_
    ·
     intro aA wA cA hNA hRA hckA hOA hbsA hdpA
     have qA_0 := (hbsA 0 rfl).trans (sl_base hN480 rfl s480_0)
     clear hbsA hdpA
     refine op_move (ev_base hNA rfl qA_0) ?_
     exact obR_end rfl rfl (grown_refl _ _)
    ·
     intro aA wA cA hNA hRA hckA hOA hbsA hdpA
     have qA_9 := (hbsA 9 rfl).trans (sl_base hN480 rfl s480_9)
     clear hbsA hdpA
     refine op_move (ev_base hNA rfl qA_9) ?_
     exact obR_end rfl rfl (grown_refl _ _)
    ·
     intro aA wA cA hNA hRA hckA hOA hbsA hdpA
     have qA_0 := (hbsA 0 rfl).trans (sl_base hN480 rfl s480_0)
     clear hbsA hdpA
     refine op_move (ev_base hNA rfl qA_0) ?_
     exact obR_end rfl rfl (grown_refl _ _)
    ·
     intro aA wA cA hNA hRA hckA hOA hbsA hdpA
     have qA_1 := (hbsA 1 rfl).trans (sl_base hN480 rfl s480_1)
     clear hbsA hdpA
     refine op_move (ev_base hNA rfl qA_1) ?_
     exact obR_end rfl rfl (grown_refl _ _)
    ·
     intro aA wA cA hNA hRA hckA hOA hbsA hdpA
     have qA_10 := (hbsA 10 rfl).trans (sl_base hN480 rfl s480_10)
     clear hbsA hdpA
     refine op_move (ev_base hNA rfl qA_10) ?_
     exact obR_end rfl rfl (grown_refl _ _)
    ·
     intro aA wA cA hNA hRA hckA hOA hbsA hdpA
     have qA_50 : Sl aA 50 (Value.int .i64 ((a : Nat) : Int)) := hdpA 3 _ 50 (by kernel_rfl) rfl rfl
     have qA_51 : Sl aA 51 (Value.int .i64 ((ot : Nat) : Int)) := hdpA 4 _ 51 (by kernel_rfl) rfl rfl
     clear hbsA hdpA
     refine op_add (ev_base hNA rfl qA_50) (ev_base hNA rfl qA_51) (add64 (by omega)) ?_
     exact obR_end rfl rfl (grown_refl _ _)
    ·
     intro aA wA cA hNA hRA hckA hOA hbsA hdpA
     have qA_0 := (hbsA 0 rfl).trans (sl_base hN480 rfl s480_0)
     clear hbsA hdpA
     refine op_move (ev_base hNA rfl qA_0) ?_
     exact obR_end rfl rfl (grown_refl _ _)
    ·
     intro aA wA cA hNA hRA hckA hOA hbsA hdpA
     have qA_1 := (hbsA 1 rfl).trans (sl_base hN480 rfl s480_1)
     clear hbsA hdpA
     refine op_move (ev_base hNA rfl qA_1) ?_
     exact obR_end rfl rfl (grown_refl _ _)
    ·
     intro aA wA cA hNA hRA hckA hOA hbsA hdpA
     have qA_10 := (hbsA 10 rfl).trans (sl_base hN480 rfl s480_10)
     clear hbsA hdpA
     refine op_move (ev_base hNA rfl qA_10) ?_
     exact obR_end rfl rfl (grown_refl _ _)
    ·
     intro aA wA cA hNA hRA hckA hOA hbsA hdpA
     have qA_54 : Sl aA 54 (Value.int .i64 ((a : Nat) : Int)) := hdpA 7 _ 54 (by kernel_rfl) rfl rfl
     have qA_55 : Sl aA 55 (Value.int .i64 ((ot : Nat) : Int)) := hdpA 8 _ 55 (by kernel_rfl) rfl rfl
     clear hbsA hdpA
     refine op_add (ev_base hNA rfl qA_54) (ev_base hNA rfl qA_55) (add64 (by omega)) ?_
     exact obR_end rfl rfl (grown_refl _ _)
    ·
     intro aA wA cA hNA hRA hckA hOA hbsA hdpA
     have qA_53 : Sl aA 53 v := hdpA 6 _ 53 (by kernel_rfl) rfl rfl
     have qA_56 : Sl aA 56 (Value.int .i64 (((a : Nat) : Int) + ((ot : Nat) : Int))) := hdpA 9 _ 56 (by kernel_rfl) rfl rfl
     clear hbsA hdpA
     refine op_index_own (i := (a + ot)) slt22 (ev_base hNA rfl qA_53) hOA (ev_base hNA rfl qA_56) (by omega) (by omega) ?_
     intro b_ o_ _ hA_
     exact obR_end rfl ⟨b_, o_, rfl, by simpa using hA_⟩ (grown_refl _ _)
    ·
     intro aA wA cA hNA hRA hckA hOA hbsA hdpA
     obtain ⟨bA_57, oA_57, qA_57, hAA_57⟩ := hdpA 10 _ 57 (by kernel_rfl) rfl rfl
     clear hbsA hdpA
     obtain rfl : cA = 0 := Nat.le_zero.1 (hckA 0 17 rfl (by kernel_rfl))
     have hOA : Own wA base 35 1 v n (dk.toList.map u16v) := hOA
     refine op_load1 (v := (Value.int .u16 (dk[(a + ot)]!.toNat : Int))) one35 (ev_base hNA rfl qA_57) (by have := hOA.cellAt hAA_57 0 _ (el_at (i := (a + ot)) (by first | omega | (simp only [Array.size_setIfInBounds, swp_sz, siftDown_size]; omega))); simpa using this) ?_
     exact obR_end rfl rfl (grown_refl _ _)
    ·
     intro aA wA cA hNA hRA hckA hOA hbsA hdpA
     have qA_0 := (hbsA 0 rfl).trans (sl_base hN480 rfl s480_0)
     clear hbsA hdpA
     refine op_move (ev_base hNA rfl qA_0) ?_
     exact obR_end rfl rfl (grown_refl _ _)
    ·
     intro aA wA cA hNA hRA hckA hOA hbsA hdpA
     have qA_9 := (hbsA 9 rfl).trans (sl_base hN480 rfl s480_9)
     clear hbsA hdpA
     refine op_move (ev_base hNA rfl qA_9) ?_
     exact obR_end rfl rfl (grown_refl _ _)
    ·
     intro aA wA cA hNA hRA hckA hOA hbsA hdpA
     have qA_59 : Sl aA 59 v := hdpA 12 _ 59 (by kernel_rfl) rfl rfl
     have qA_60 : Sl aA 60 (Value.int .i64 ((ix : Nat) : Int)) := hdpA 13 _ 60 (by kernel_rfl) rfl rfl
     clear hbsA hdpA
     refine op_index_own (i := ix) slt22 (ev_base hNA rfl qA_59) hOA (ev_base hNA rfl qA_60) (by omega) (by omega) ?_
     intro b_ o_ _ hA_
     exact obR_end rfl ⟨b_, o_, rfl, by simpa using hA_⟩ (grown_refl _ _)
    ·
     intro aA wA cA hNA hRA hckA hOA hbsA hdpA
     obtain ⟨bA_61, oA_61, qA_61, hAA_61⟩ := hdpA 14 _ 61 (by kernel_rfl) rfl rfl
     clear hbsA hdpA
     obtain rfl : cA = 0 := Nat.le_zero.1 (hckA 0 17 rfl (by kernel_rfl))
     have hOA : Own wA base 35 1 v n (dk.toList.map u16v) := hOA
     refine op_load1 (v := (Value.int .u16 (dk[ix]!.toNat : Int))) one35 (ev_base hNA rfl qA_61) (by have := hOA.cellAt hAA_61 0 _ (el_at (i := ix) (by first | omega | (simp only [Array.size_setIfInBounds, swp_sz, siftDown_size]; omega))); simpa using this) ?_
     exact obR_end rfl rfl (grown_refl _ _)
    ·
     intro aA wA cA hNA hRA hckA hOA hbsA hdpA
     have qA_47 : Sl aA 47 v := hdpA 0 _ 47 (by kernel_rfl) rfl rfl
     have qA_48 : Sl aA 48 (Value.int .i64 ((ix : Nat) : Int)) := hdpA 1 _ 48 (by kernel_rfl) rfl rfl
     clear hbsA hdpA
     refine op_index_own (i := ix) slt22 (ev_base hNA rfl qA_47) hOA (ev_base hNA rfl qA_48) (by omega) (by omega) ?_
     intro b_ o_ _ hA_
     exact obR_end rfl ⟨b_, o_, rfl, by simpa using hA_⟩ (grown_refl _ _)
    ·
     intro aA wA cA hNA hRA hckA hOA hbsA hdpA
     have qA_49 : Sl aA 49 v := hdpA 2 _ 49 (by kernel_rfl) rfl rfl
     have qA_52 : Sl aA 52 (Value.int .i64 (((a : Nat) : Int) + ((ot : Nat) : Int))) := hdpA 5 _ 52 (by kernel_rfl) rfl rfl
     clear hbsA hdpA
     refine op_index_own (i := (a + ot)) slt22 (ev_base hNA rfl qA_49) hOA (ev_base hNA rfl qA_52) (by omega) (by omega) ?_
     intro b_ o_ _ hA_
     exact obR_end rfl ⟨b_, o_, rfl, by simpa using hA_⟩ (grown_refl _ _)
    ·
     intro o_ ho_; obtain rfl := Option.some.inj ho_; intro aA wA hNA hRA hbsA hdpA hOA
     obtain ⟨bA_63, oA_63, qA_63, hAA_63⟩ := hdpA 16 _ 63 (by kernel_rfl) rfl rfl
     have qA_58 : Sl aA 58 (Value.int .u16 (dk[(a + ot)]!.toNat : Int)) := hdpA 11 _ 58 (by kernel_rfl) rfl rfl
     clear hbsA hdpA
     have hOA : Own wA base 35 1 v n (dk.toList.map u16v) := hOA
     refine op_store_own (vs := [(Value.int .u16 (dk[(a + ot)]!.toNat : Int))]) size35 (ev_base hNA rfl qA_63) (ev_base hNA rfl qA_58) rfl rfl rfl hOA hAA_63 (by have := hOA.1; simp at this ⊢; omega) ?_
     intro w_ hO_ E_
     exact obW_end rfl (hO_.cast rfl (set_arr (by first | omega | (simp only [Array.size_setIfInBounds, swp_sz, siftDown_size]; omega)))) E_
    ·
     intro o_ ho_; obtain rfl := Option.some.inj ho_; intro aA wA hNA hRA hbsA hdpA hOA
     obtain ⟨bA_64, oA_64, qA_64, hAA_64⟩ := hdpA 18 _ 64 (by kernel_rfl) rfl rfl
     have qA_62 : Sl aA 62 (Value.int .u16 (dk[ix]!.toNat : Int)) := hdpA 15 _ 62 (by kernel_rfl) rfl rfl
     clear hbsA hdpA
     have hOA : Own wA base 35 1 v n ((dk.setIfInBounds ix dk[(a + ot)]!).toList.map u16v) := hOA
     refine op_store_own (vs := [(Value.int .u16 (dk[ix]!.toNat : Int))]) size35 (ev_base hNA rfl qA_64) (ev_base hNA rfl qA_62) rfl rfl rfl hOA hAA_64 (by have := hOA.1; simp at this ⊢; omega) ?_
     intro w_ hO_ E_
     exact obW_end rfl (hO_.cast rfl (set_arr (by first | omega | (simp only [Array.size_setIfInBounds, swp_sz, siftDown_size]; omega)))) E_
    ·
     intro a483 w483 hN483 hd483 hbs483 hph483 hO483 E483
     have hd483 := hd483.trans hd480
     have s483_0 := (hbs483 0 rfl).trans (sl_base hN480 rfl s480_0)
     have s483_1 := (hbs483 1 rfl).trans (sl_base hN480 rfl s480_1)
     have s483_6 := (hbs483 6 rfl).trans (sl_base hN480 rfl s480_6)
     have s483_7 := (hbs483 7 rfl).trans (sl_base hN480 rfl s480_7)
     have s483_8 := (hbs483 8 rfl).trans (sl_base hN480 rfl s480_8)
     have s483_9 := (hbs483 9 rfl).trans (sl_base hN480 rfl s480_9)
     clear hbs483 hph483
     have hO483 : Own w483 base 35 1 v n (((dk.setIfInBounds ix dk[(a + ot)]!).setIfInBounds (a + ot) dk[ix]!).toList.map u16v) := hO483
     have z_w483 := E483.size
     have hs477 := hs477.keepO hO472 E483 (by decide)
     have hb := grow_stepX hb E483 rfl
     refine hK475 _ _ ?_
     refine one_reg ?_
     refine op_move (ev_base hN483 rfl s483_9) ?_
     refine op_add (ev_hit hN483 rfl) rfl (add64 (by omega)) ?_
     refine op_assign (ev_hit hN483 rfl) ?_
     refine reg_nil ?_
     -- round 15T 33T
     exact loop_next _ hN483 hd483 ⟨(ix + 1), rx477, _, rfl, (sl_base hN483 rfl s483_0), (sl_base hN483 rfl s483_1), (sl_base hN483 rfl s483_6), (sl_base hN483 rfl s483_7), (sl_base hN483 rfl s483_8), (sl_hit hN483 rfl).trans (congrArg (Value.int .i64) (by omega)), (by first | assumption | (simp only [Array.size_setIfInBounds, swp_sz, siftDown_size]; assumption)), (by omega), (hpi.tr (PI.swp (by omega) (by omega) (by omega) (by omega) (by first | omega | (simp only [Array.size_setIfInBounds, swp_sz]; omega)))), hb, (by omega), hs477, hO483⟩ (by omega)
  · -- 33F
   refine reg_nil ?_
   refine hK474 _ _ ?_
   refine wp_cond_false (ev_hit hN471 rfl) ?_
   refine wp_exit (then_exit (then_exit (blk_hit ?_)))
   refine end_ret ?_
   refine ret0 rfl hd471  ⟨_, rfl, ?_⟩
   -- path 15T 33F
   exact ⟨hb, rfl, _, hpi, hO472⟩
 · -- 15F
  refine reg_nil ?_
  refine hK456 _ _ ?_
  refine wp_cond_false (ev_hit hN rfl) ?_
  refine wp_skip ?_
  refine end_ret ?_
  refine ret0 rfl hd  ⟨_, rfl, ?_⟩
  -- path 15F
  exact ⟨hb, rfl, _, PI.rfl' _ _ _, O⟩

end Go.Proofs.Ytpmnljffdofkeaa

/- What the sort keeps from round to round. -/
namespace Go.Proofs.Ytpmnljffdofkeaa
open Go.Gx Go.Sort Go.RowKit
def Inv (a b x y : Nat) (d0 d : Ar) : Prop := a ≤ x ∧ x ≤ y ∧ y ≤ b ∧ b ≤ d0.size ∧ PI a b d0 d ∧ Go.Sort.Below ltT x y d ∧ Left a b x y d
theorem Inv.start {a b : Nat} {d : Ar} (h : Go.Sort.Below ltT a b d) (hab : a ≤ b) (hb : b ≤ d.size) : Inv a b a b d d := ⟨Nat.le_refl _, hab, Nat.le_refl _, hb, PI.rfl' _ _ _, h, Left.start _ _ _⟩
theorem Inv.rng {a b x y : Nat} {d0 d : Ar} (h : Inv a b x y d0 d) : a ≤ x ∧ x ≤ y ∧ y ≤ b := ⟨h.1, h.2.1, h.2.2.1⟩
theorem Inv.sz {a b x y : Nat} {d0 d : Ar} (h : Inv a b x y d0 d) : d.size = d0.size := h.2.2.2.2.1.sz
theorem Inv.hi {a b x y : Nat} {d0 d : Ar} (h : Inv a b x y d0 d) : y ≤ d.size := by have := h.sz; have := h.2.2.1; have := h.2.2.2.1; omega
theorem Inv.below {a b x y : Nat} {d0 d : Ar} (h : Inv a b x y d0 d) : Go.Sort.Below ltT x y d := h.2.2.2.2.2.1
theorem Inv.perm {a b x y : Nat} {d0 d d1 : Ar} (h : Inv a b x y d0 d) (hp : PI x y d d1) : Inv a b x y d0 d1 := by
  have hi := h.hi; have hs := h.sz
  obtain ⟨h1, h2, h3, h4, h5, h6, h7⟩ := h
  exact ⟨h1, h2, h3, h4, h5.tr (hp.mono h1 h3 (by omega)), hp.below hi h6, h7.perm hp⟩
theorem Inv.done {a b x y : Nat} {d0 d d1 : Ar} (h : Inv a b x y d0 d) (hp : PI x y d d1) (hs : SortedIn ltT x y d1) : PI a b d0 d1 ∧ SortedIn ltT a b d1 :=
  ⟨(h.perm hp).2.2.2.2.1, h.2.2.2.2.2.2 d1 hp hs⟩
theorem Inv.equal {a b x y pv : Nat} {d0 d : Ar} (h : Inv a b x y d0 d) (hx : x ≤ pv) (hy : pv < y) (h0 : 0 < x) (hl : ltT d[x - 1]! d[pv]! = false) :
    x < (partitionEqual ltT d x y pv).1 ∧ Inv a b (partitionEqual ltT d x y pv).1 y d0 (partitionEqual ltT d x y pv).2 := by
  have hi := h.hi; have hs := h.sz
  obtain ⟨h1, h2, h3, h4, h5, h6, h7⟩ := h
  have hall : ∀ i, x ≤ i → i < y → ltT d[i]! d[pv]! = false := fun i hi1 hi2 => by
    have g := (h6.resolve_left (by omega)) i hi1 hi2
    simp [ltT] at *; omega
  obtain ⟨g1, g2, g3, g4, g5⟩ := partitionEqual_holds ltT swoT d x y pv hx hy hi hall
  have g3 : PI x y d (partitionEqual ltT d x y pv).2 := g3
  have hall' := PI.all g3 hi (fun z => ltT z d[pv]! = false) hall
  generalize partitionEqual ltT d x y pv = q at *
  refine ⟨g1, by omega, g2, h3, h4, h5.tr (g3.mono h1 h3 (by omega)), .inr fun i hi1 hi2 => ?_, Left.equal h7 g3 (by omega) g2 hi g4 hall' g5⟩
  have k1 := g5 i hi1 hi2; have k2 := g4 (q.1 - 1) (by omega) (by omega)
  simp [ltT] at *; omega
theorem Inv.part {a b x y pv : Nat} {d0 d : Ar} (h : Inv a b x y d0 d) (hx : x ≤ pv) (hy : pv < y) :
    x ≤ (partition ltT d x y pv).1 ∧ (partition ltT d x y pv).1 < y ∧ (partition ltT d x y pv).2.2.size = d.size ∧ Go.Sort.Below ltT x (partition ltT d x y pv).1 (partition ltT d x y pv).2.2 ∧ Go.Sort.Below ltT ((partition ltT d x y pv).1 + 1) y (partition ltT d x y pv).2.2 ∧
    (∀ d2, PI x (partition ltT d x y pv).1 (partition ltT d x y pv).2.2 d2 → SortedIn ltT x (partition ltT d x y pv).1 d2 → Inv a b ((partition ltT d x y pv).1 + 1) y d0 d2) ∧
    (∀ d2, PI ((partition ltT d x y pv).1 + 1) y (partition ltT d x y pv).2.2 d2 → SortedIn ltT ((partition ltT d x y pv).1 + 1) y d2 → Inv a b x (partition ltT d x y pv).1 d0 d2) := by
  have hi := h.hi; have hs := h.sz
  obtain ⟨g1, g2, g3, g4, g5⟩ := partition_holds ltT swoT d x y pv hx hy hi
  have g3 : PI x y d (partition ltT d x y pv).2.2 := g3
  have hp := h.perm g3
  obtain ⟨h1, h2, h3, h4, h5, h6, h7⟩ := h
  generalize partition ltT d x y pv = q at *
  have hsq := g3.sz
  refine ⟨g1, g2, hsq, ?_, ?_, ?_, ?_⟩
  · rcases hp.below with hB | hB
    · exact .inl hB
    · exact .inr fun i hi1 hi2 => hB i hi1 (by omega)
  · exact .inr fun i hi1 hi2 => by rw [Nat.add_sub_cancel]; exact g5 i (by omega) hi2
  · intro d2 hq hso
    refine ⟨by omega, by omega, h3, h4, hp.2.2.2.2.1.tr (hq.mono h1 (by omega) (by omega)), ?_, Left.right h7 g3 g1 g2 hi g4 g5 hq hso⟩
    refine .inr fun i hi1 hi2 => ?_
    have e0 : d2[q.1]! = q.2.2[q.1]! := hq.2.1 q.1 (.inr (Nat.le_refl _))
    have e1 : d2[i]! = q.2.2[i]! := hq.2.1 i (.inr (by omega))
    rw [Nat.add_sub_cancel, e0, e1]; exact g5 i (by omega) hi2
  · intro d2 hq hso
    refine ⟨h1, g1, by omega, h4, hp.2.2.2.2.1.tr (hq.mono (by omega) h3 (by omega)), ?_, Left.left h7 g3 g1 g2 hi g4 g5 hq hso⟩
    rcases hp.below with hB | hB
    · exact .inl hB
    · by_cases hx0 : x = 0
      · exact .inl hx0
      · refine .inr fun i hi1 hi2 => ?_
        have e0 : d2[x - 1]! = q.2.2[x - 1]! := hq.2.1 (x - 1) (.inl (by omega))
        have e1 : d2[i]! = q.2.2[i]! := hq.2.1 i (.inl (by omega))
        rw [e0, e1]; exact hB i hi1 (by omega)
theorem Inv.lt {a b x y : Nat} {d0 d : Ar} (h : Inv a b x y d0 d) : PI a b d0 d := h.2.2.2.2.1
theorem Inv.ins {a b x y : Nat} {d0 d : Ar} (h : Inv a b x y d0 d) : PI a b d0 (insertionSort ltT d x y) ∧ SortedIn ltT a b (insertionSort ltT d x y) :=
  have g := insertionSort_holds swoT d x y h.2.1 h.hi
  h.done g.1 g.2
theorem Inv.heap {a b x y : Nat} {d0 d : Ar} (h : Inv a b x y d0 d) : PI a b d0 (heapSort ltT d x y) ∧ SortedIn ltT a b (heapSort ltT d x y) :=
  have g := heapSort_holds swoT d x y h.2.1 h.hi
  h.done g.1 g.2
theorem Inv.rev {a b x y : Nat} {d0 d : Ar} (h : Inv a b x y d0 d) : Inv a b x y d0 (reverseRange d x y) := h.perm (reverseRange_holds d x y h.2.1 h.hi)
theorem Inv.pins {a b x y : Nat} {d0 d : Ar} (h : Inv a b x y d0 d) (hxy : x < y) : Inv a b x y d0 (partialInsertionSort ltT d x y).1 ∧ ((partialInsertionSort ltT d x y).2 = true → PI a b d0 (partialInsertionSort ltT d x y).1 ∧ SortedIn ltT a b (partialInsertionSort ltT d x y).1) :=
  have g := partialInsertionSort_holds swoT d x y hxy h.hi h.below
  ⟨h.perm g.1, fun e => h.done g.1 (g.2 e)⟩
end Go.Proofs.Ytpmnljffdofkeaa

/- Walks, written by a program: what each function of the translation hands back. -/
namespace Go.Proofs.Ytpmnljffdofkeaa
open Go.Gx Go.RowKit
attribute [local irreducible] wpList wpStill Code.wp Calls
open Go.Sort (insertionSort insOuter insInner swp siftDown heapSort heapBuild heapPop scanUp scanDown partition partLoop partitionEqual partEqLoop scanSorted partialIns bitsLen partialInsertionSort shiftDown shiftUp SortedIn reverseRange reverseLoop fixDown fixUp)
def PdqIH (z : Nat) (v : Value) (n base : Nat) : Prop := ∀ (d : Ar) (a b lim : Nat) (w : World), d.size = n → a ≤ b → b ≤ n → lim ≤ 100 → b - a < z → Go.Sort.Below ltT a b d → Own w base 35 1 v n (d.toList.map u16v) → Ret Try.prog 63 #[v, .int .i64 (a : Int), .int .i64 (b : Int), .int .i64 (lim : Int)] w (fun v' w' => w.grownBy w' v.ownBlock ∧ v' = .tuple #[] ∧ ∃ d', PI a b d d' ∧ SortedIn ltT a b d' ∧ Own w' base 35 1 v n (d'.toList.map u16v))

set_option maxHeartbeats 4000000 in
theorem pdqW_step (z : Nat) (v : Value) (n base : Nat) (hn : n ≤ 4000000000000000000) (ih : PdqIH z v n base) (d : Ar) (a b lim : Nat) (w : World) (hd : d.size = n) (hab : a ≤ b) (hbn : b ≤ n) (hlim : lim ≤ 100) (hz : b - a = z) (hB : Go.Sort.Below ltT a b d) (O : Own w base 35 1 v n (d.toList.map u16v)) : Ret Try.prog 63 #[v, (Value.int .i64 ((a : Nat) : Int)), (Value.int .i64 ((b : Nat) : Int)), (Value.int .i64 ((lim : Nat) : Int))] w (fun v' w' => w.grownBy w' v.ownBlock ∧ v' = .tuple #[] ∧ ∃ d', PI a b d d' ∧ SortedIn ltT a b d' ∧ Own w' base 35 1 v n (d'.toList.map u16v)) := by
 have hb := grown_refl w v.ownBlock
 refine enter (N := 134) Try.func63 rfl rfl (by simp) fun a0 hN hd hA => ?_
 have s0 : a0.tmps.getD 0 undef = v := hA 0 (by simp)
 have s1 : a0.tmps.getD 1 undef = (Value.int .i64 ((a : Nat) : Int)) := hA 1 (by simp)
 have s2 : a0.tmps.getD 2 undef = (Value.int .i64 ((b : Nat) : Int)) := hA 2 (by simp)
 have s3 : a0.tmps.getD 3 undef = (Value.int .i64 ((lim : Nat) : Int)) := hA 3 (by simp)
 clear hA
 refine seq_any fun K484 hK484 => ?_
 refine one_reg ?_
 refine op_assign rfl ?_
 refine reg_nil ?_
 refine hK484 _ _ ?_
 refine seq_any fun K485 hK485 => ?_
 refine one_reg ?_
 refine op_assign rfl ?_
 refine reg_nil ?_
 refine hK485 _ _ ?_
 refine wp_block ?_
 refine loop_m (fun mz_ az_ w' => ∃ (x y lm : Nat) (wb wp : Bool) (dk : Ar), mz_ = (y - x) ∧ (az_.tmps.getD 0 undef = v) ∧ (az_.tmps.getD 1 undef = (Value.int .i64 ((x : Nat) : Int))) ∧ (az_.tmps.getD 2 undef = (Value.int .i64 ((y : Nat) : Int))) ∧ (az_.tmps.getD 3 undef = (Value.int .i64 ((lm : Nat) : Int))) ∧ (az_.tmps.getD 8 undef = (Value.bool wb)) ∧ (az_.tmps.getD 9 undef = (Value.bool wp)) ∧ (dk.size = n) ∧ (lm ≤ lim) ∧ (Inv a b x y d dk) ∧ (w.grownBy w' v.ownBlock) ∧ (w.heap.size ≤ w'.heap.size) ∧ (Own w' base 35 1 v n (dk.toList.map u16v))) _ hN hd ⟨a, b, lim, true, true, _, rfl, (sl_base hN rfl s0), (sl_base hN rfl s1).trans (congrArg (Value.int .i64) (by omega)), (sl_base hN rfl s2).trans (congrArg (Value.int .i64) (by omega)), (sl_base hN rfl s3).trans (congrArg (Value.int .i64) (by omega)), (sl_hit hN rfl), (sl_hit hN rfl), (by first | assumption | (simp only [Array.size_setIfInBounds, swp_sz, siftDown_size]; assumption)), Nat.le_refl _, (Inv.start hB hab (by omega)), hb, (Nat.le_refl _), O⟩ ?_
 rintro _ a486 w486 hN486 hd486 ⟨x, y, lm, wb, wp, dk, rfl, s486_0, s486_1, s486_2, s486_3, s486_8, s486_9, hdk, hlm, hinv, hb, zl_w486, hO487⟩
 have z_w486 := hb.size
 refine wp_block ?_
 refine seq_any fun K488 hK488 => ?_
 refine one_reg ?_
 have hrg := hinv.rng
 have hzk := hinv.sz
 refine op_move (ev_base hN486 rfl s486_2) ?_
 refine op_move (ev_base hN486 rfl s486_1) ?_
 refine op_sub (r := (((y - x) : Nat) : Int)) (ev_hit hN486 rfl) (ev_hit hN486 rfl) (by rw [IntKind.wrap_i64]; omega) ?_
 refine op_assign (ev_hit hN486 rfl) ?_
 refine reg_nil ?_
 refine hK488 _ _ ?_
 refine seq_any fun K489 hK489 => ?_
 refine seq_any fun K490 hK490 => ?_
 refine one_reg ?_
 refine op_move (ev_hit hN486 rfl) ?_
 refine op_leq (ev_hit hN486 rfl) rfl (fun c23 => ?_) (fun c23 => ?_)
 · -- 23T
  refine reg_nil ?_
  refine hK490 _ _ ?_
  refine wp_cond_true (ev_hit hN486 rfl) ?_
  refine seq_any fun K491 hK491 => ?_
  refine one_reg ?_
  refine op_move (ev_base hN486 rfl s486_0) ?_
  refine op_move (ev_base hN486 rfl s486_1) ?_
  refine op_move (ev_base hN486 rfl s486_2) ?_
  refine op_fn (vs := [v, (Value.int .i64 ((x : Nat) : Int)), (Value.int .i64 ((y : Nat) : Int))]) ok66 ⟨(ev_hit hN486 rfl), ⟨(ev_hit hN486 rfl), ⟨(ev_hit hN486 rfl), trivial⟩⟩⟩ (insSort_ret dk _ _ _ x y _ (by first | assumption | (simp only [Array.size_setIfInBounds, swp_sz, siftDown_size]; assumption)) (by omega) hO487 (by omega) (by omega)) ?_
  rintro _ w493 ⟨E494, rfl, hO492⟩
  have z_w493 := E494.size
  have hb := grow_stepX hb E494 rfl
  refine reg_nil ?_
  refine hK491 _ _ ?_
  refine wp_ret (then_ret (blk_ret (then_ret (blk_ret ( ?_)))))
  refine ret0 rfl hd486  ⟨_, rfl, ?_⟩
  -- path 23T
  exact ⟨hb, rfl, _, hinv.ins.1, hinv.ins.2, hO492⟩
 · -- 23F
  refine reg_nil ?_
  refine hK490 _ _ ?_
  refine wp_cond_false (ev_hit hN486 rfl) ?_
  refine wp_skip ?_
  refine hK489 _ _ ?_
  refine seq_any fun K495 hK495 => ?_
  refine seq_any fun K496 hK496 => ?_
  refine one_reg ?_
  refine op_move (ev_base hN486 rfl s486_3) ?_
  refine op_eql (ev_hit hN486 rfl) rfl (fun c29 => ?_) (fun c29 => ?_)
  · -- 29T
   refine reg_nil ?_
   refine hK496 _ _ ?_
   refine wp_cond_true (ev_hit hN486 rfl) ?_
   refine seq_any fun K497 hK497 => ?_
   refine one_reg ?_
   refine op_move (ev_base hN486 rfl s486_0) ?_
   refine op_move (ev_base hN486 rfl s486_1) ?_
   refine op_move (ev_base hN486 rfl s486_2) ?_
   refine op_fn (vs := [v, (Value.int .i64 ((x : Nat) : Int)), (Value.int .i64 ((y : Nat) : Int))]) ok67 ⟨(ev_hit hN486 rfl), ⟨(ev_hit hN486 rfl), ⟨(ev_hit hN486 rfl), trivial⟩⟩⟩ (heapW_ret dk _ _ _ x y _ (by first | assumption | (simp only [Array.size_setIfInBounds, swp_sz, siftDown_size]; assumption)) (by omega) hO487 (by omega) (by omega)) ?_
   rintro _ w499 ⟨E500, rfl, hO498⟩
   have z_w499 := E500.size
   have hb := grow_stepX hb E500 rfl
   refine reg_nil ?_
   refine hK497 _ _ ?_
   refine wp_ret (then_ret (blk_ret (then_ret (blk_ret ( ?_)))))
   refine ret0 rfl hd486  ⟨_, rfl, ?_⟩
   -- path 23F 29T
   exact ⟨hb, rfl, _, hinv.heap.1, hinv.heap.2, hO498⟩
  · -- 29F
   refine reg_nil ?_
   refine hK496 _ _ ?_
   refine wp_cond_false (ev_hit hN486 rfl) ?_
   refine wp_skip ?_
   refine hK495 _ _ ?_
   refine seq_join1 (N := 134) (fun az_ w' => ∃ (d1 : Ar) (l1 : Nat), (az_.tmps.getD 0 undef = v) ∧ (az_.tmps.getD 1 undef = (Value.int .i64 ((x : Nat) : Int))) ∧ (az_.tmps.getD 2 undef = (Value.int .i64 ((y : Nat) : Int))) ∧ (az_.tmps.getD 8 undef = (Value.bool wb)) ∧ (az_.tmps.getD 9 undef = (Value.bool wp)) ∧ (az_.tmps.getD 10 undef = (Value.int .i64 (((y - x) : Nat) : Int))) ∧ (az_.tmps.getD 3 undef = (Value.int .i64 ((l1 : Nat) : Int))) ∧ (l1 ≤ lm) ∧ (Inv a b x y d d1) ∧ (d1.size = n) ∧ (w.grownBy w' v.ownBlock) ∧ (w486.heap.size ≤ w'.heap.size) ∧ (Own w' base 35 1 v n (d1.toList.map u16v))) (fun hJ501 => ?_) ?_
   ·
    refine seq_any fun K503 hK503 => ?_
    refine seq_any fun K504 hK504 => ?_
    refine one_reg ?_
    refine op_move (ev_base hN486 rfl s486_8) ?_
    refine op_not (ev_hit hN486 rfl) ?_
    refine reg_nil ?_
    refine hK504 _ _ ?_
    refine wp_cond_split (ev_hit hN486 rfl) (fun c35 => ?_) (fun c35 => ?_)
    · -- 35T
     refine seq_any fun K505 hK505 => ?_
     refine one_reg ?_
     refine op_move (ev_base hN486 rfl s486_0) ?_
     refine op_move (ev_base hN486 rfl s486_1) ?_
     refine op_move (ev_base hN486 rfl s486_2) ?_
     refine op_fn (vs := [v, (Value.int .i64 ((x : Nat) : Int)), (Value.int .i64 ((y : Nat) : Int))]) ok68 ⟨(ev_hit hN486 rfl), ⟨(ev_hit hN486 rfl), ⟨(ev_hit hN486 rfl), trivial⟩⟩⟩ (bpW_ret dk _ _ _ x y _ (by first | assumption | (simp only [Array.size_setIfInBounds, swp_sz, siftDown_size]; assumption)) (by omega) hO487 (by omega) (by omega)) ?_
     rintro _ w507 ⟨E508, rfl, dd506, hpi506, hO506⟩
     have z_w507 := E508.size
     have hb := grow_stepX hb E508 rfl
     have hz506 : dd506.size = n := by first | exact (PI.sz hpi506).trans (by assumption) | (have hq := PI.sz hpi506; simp only [Array.size_setIfInBounds, swp_sz] at hq; omega)
     refine reg_nil ?_
     refine hK505 _ _ ?_
     refine one_reg ?_
     refine op_move (ev_base hN486 rfl s486_3) ?_
     refine op_sub (r := (((lm - 1) : Nat) : Int)) (ev_hit hN486 rfl) rfl (by rw [IntKind.wrap_i64]; omega) ?_
     refine op_assign (ev_hit hN486 rfl) ?_
     refine reg_nil ?_
     refine hK503 _ _ ?_
     exact hJ501 _ _ _ hN486 hd486 ⟨_, (lm - 1), (sl_base hN486 rfl s486_0), (sl_base hN486 rfl s486_1), (sl_base hN486 rfl s486_2), (sl_base hN486 rfl s486_8), (sl_base hN486 rfl s486_9), (sl_hit hN486 rfl), (sl_hit hN486 rfl).trans (congrArg (Value.int .i64) (by omega)), (by omega), (hinv.perm hpi506), (by first | assumption | (simp only [Array.size_setIfInBounds, swp_sz, siftDown_size]; assumption)), hb, (by omega), hO506⟩
    · -- 35F
     refine wp_skip ?_
     refine hK503 _ _ ?_
     exact hJ501 _ _ _ hN486 hd486 ⟨_, lm, (sl_base hN486 rfl s486_0), (sl_base hN486 rfl s486_1), (sl_base hN486 rfl s486_2), (sl_base hN486 rfl s486_8), (sl_base hN486 rfl s486_9), (sl_hit hN486 rfl), (sl_base hN486 rfl s486_3).trans (congrArg (Value.int .i64) (by omega)), (by omega), hinv, (by first | assumption | (simp only [Array.size_setIfInBounds, swp_sz, siftDown_size]; assumption)), hb, (by omega), hO487⟩
   ·
    rintro a501 w501 hN501 hd501 ⟨d1, l1, s501_0, s501_1, s501_2, s501_8, s501_9, s501_10, s501_3, hl1, hi1, hz1, hb, zl_w501, hO502⟩
    have z_w501 := hb.size
    refine seq_any fun K509 hK509 => ?_
    refine one_reg ?_
    refine op_move (ev_base hN501 rfl s501_0) ?_
    refine op_move (ev_base hN501 rfl s501_1) ?_
    refine op_move (ev_base hN501 rfl s501_2) ?_
    refine op_fn (vs := [v, (Value.int .i64 ((x : Nat) : Int)), (Value.int .i64 ((y : Nat) : Int))]) ok69 ⟨(ev_hit hN501 rfl), ⟨(ev_hit hN501 rfl), ⟨(ev_hit hN501 rfl), trivial⟩⟩⟩ (choosePW_ret d1 v _ x y _ (by first | assumption | (simp only [Array.size_setIfInBounds, swp_sz, siftDown_size]; assumption)) (by omega) (hO502.rdw.mono (Nat.zero_le _) (Nat.le_refl _)) (by omega) (by omega)) ?_
    rintro _ w511 ⟨E512, pv510, hn510, rfl, hx510, hy510⟩
    have E512 := grown_of_below E512
    have z_w511 := E512.size
    have hO502 := hO502.keep0 E512
    have hb := grow_step0 hb E512
    refine op_move (ev_hit hN501 rfl) ?_
    refine op_extract (ev_hit hN501 rfl) rfl ?_
    refine op_extract (ev_hit hN501 rfl) rfl ?_
    refine op_assign (ev_hit hN501 rfl) ?_
    refine op_assign (ev_hit hN501 rfl) ?_
    refine reg_nil ?_
    refine hK509 _ _ ?_
    refine seq_join1 (N := 134) (fun az_ w' => ∃ (d2 : Ar) (pv2 : Nat) (hn2 : Int), (az_.tmps.getD 0 undef = v) ∧ (az_.tmps.getD 1 undef = (Value.int .i64 ((x : Nat) : Int))) ∧ (az_.tmps.getD 2 undef = (Value.int .i64 ((y : Nat) : Int))) ∧ (az_.tmps.getD 3 undef = (Value.int .i64 ((l1 : Nat) : Int))) ∧ (az_.tmps.getD 8 undef = (Value.bool wb)) ∧ (az_.tmps.getD 9 undef = (Value.bool wp)) ∧ (az_.tmps.getD 10 undef = (Value.int .i64 (((y - x) : Nat) : Int))) ∧ (az_.tmps.getD 11 undef = (Value.int .i64 ((pv2 : Nat) : Int))) ∧ (az_.tmps.getD 12 undef = (Value.int .i64 hn2)) ∧ (x ≤ pv2 ∧ pv2 < y) ∧ (Inv a b x y d d2) ∧ (d2.size = n) ∧ (w.grownBy w' v.ownBlock) ∧ (w511.heap.size ≤ w'.heap.size) ∧ (Own w' base 35 1 v n (d2.toList.map u16v))) (fun hJ513 => ?_) ?_
    ·
     refine seq_any fun K515 hK515 => ?_
     refine seq_any fun K516 hK516 => ?_
     refine one_reg ?_
     refine op_move (ev_hit hN501 rfl) ?_
     refine op_eql (ev_hit hN501 rfl) rfl (fun c50 => ?_) (fun c50 => ?_)
     · -- 50T
      refine reg_nil ?_
      refine hK516 _ _ ?_
      refine wp_cond_true (ev_hit hN501 rfl) ?_
      refine seq_any fun K517 hK517 => ?_
      refine one_reg ?_
      refine op_move (ev_base hN501 rfl s501_0) ?_
      refine op_move (ev_base hN501 rfl s501_1) ?_
      refine op_move (ev_base hN501 rfl s501_2) ?_
      refine op_fn (vs := [v, (Value.int .i64 ((x : Nat) : Int)), (Value.int .i64 ((y : Nat) : Int))]) ok70 ⟨(ev_hit hN501 rfl), ⟨(ev_hit hN501 rfl), ⟨(ev_hit hN501 rfl), trivial⟩⟩⟩ (revW_ret d1 _ _ _ x y _ (by first | assumption | (simp only [Array.size_setIfInBounds, swp_sz, siftDown_size]; assumption)) (by omega) hO502 (by omega) (by omega)) ?_
      rintro _ w519 ⟨E520, rfl, hO518⟩
      have z_w519 := E520.size
      have hb := grow_stepX hb E520 rfl
      refine reg_nil ?_
      refine hK517 _ _ ?_
      refine seq_any fun K521 hK521 => ?_
      refine one_reg ?_
      refine op_move (ev_base hN501 rfl s501_2) ?_
      refine op_sub (r := (((y - 1) : Nat) : Int)) (ev_hit hN501 rfl) rfl (by rw [IntKind.wrap_i64]; omega) ?_
      refine op_move (ev_hit hN501 rfl) ?_
      refine op_move (ev_base hN501 rfl s501_1) ?_
      refine op_sub (r := (((pv510 - x) : Nat) : Int)) (ev_hit hN501 rfl) (ev_hit hN501 rfl) (by rw [IntKind.wrap_i64]; omega) ?_
      refine op_sub (r := (((y - 1 - (pv510 - x)) : Nat) : Int)) (ev_hit hN501 rfl) (ev_hit hN501 rfl) (by rw [IntKind.wrap_i64]; omega) ?_
      refine op_assign (ev_hit hN501 rfl) ?_
      refine reg_nil ?_
      refine hK521 _ _ ?_
      refine one_reg ?_
      refine op_assign rfl ?_
      refine reg_nil ?_
      refine hK515 _ _ ?_
      exact hJ513 _ _ _ hN501 hd501 ⟨_, (y - 1 - (pv510 - x)), _, (sl_base hN501 rfl s501_0), (sl_base hN501 rfl s501_1), (sl_base hN501 rfl s501_2), (sl_base hN501 rfl s501_3), (sl_base hN501 rfl s501_8), (sl_base hN501 rfl s501_9), (sl_base hN501 rfl s501_10), (sl_hit hN501 rfl).trans (congrArg (Value.int .i64) (by omega)), (sl_hit hN501 rfl), (by omega), hi1.rev, (by rw [Inv.sz (by first | exact hi1.rev | exact hi1)]; assumption), hb, (by omega), hO518⟩
     · -- 50F
      refine reg_nil ?_
      refine hK516 _ _ ?_
      refine wp_cond_false (ev_hit hN501 rfl) ?_
      refine wp_skip ?_
      refine hK515 _ _ ?_
      exact hJ513 _ _ _ hN501 hd501 ⟨_, pv510, _, (sl_base hN501 rfl s501_0), (sl_base hN501 rfl s501_1), (sl_base hN501 rfl s501_2), (sl_base hN501 rfl s501_3), (sl_base hN501 rfl s501_8), (sl_base hN501 rfl s501_9), (sl_base hN501 rfl s501_10), (sl_hit hN501 rfl).trans (congrArg (Value.int .i64) (by omega)), (sl_hit hN501 rfl), (by omega), hi1, (by rw [Inv.sz (by first | exact hi1.rev | exact hi1)]; assumption), hb, (by omega), hO502⟩
    ·
     rintro a513 w513 hN513 hd513 ⟨d2, pv2, hn2, s513_0, s513_1, s513_2, s513_3, s513_8, s513_9, s513_10, s513_11, s513_12, hp2, hi2, hz2, hb, zl_w513, hO514⟩
     have z_w513 := hb.size
     refine seq_join1 (N := 134) (fun az_ w' => ∃ (d3 : Ar), (az_.tmps.getD 0 undef = v) ∧ (az_.tmps.getD 1 undef = (Value.int .i64 ((x : Nat) : Int))) ∧ (az_.tmps.getD 2 undef = (Value.int .i64 ((y : Nat) : Int))) ∧ (az_.tmps.getD 3 undef = (Value.int .i64 ((l1 : Nat) : Int))) ∧ (az_.tmps.getD 8 undef = (Value.bool wb)) ∧ (az_.tmps.getD 9 undef = (Value.bool wp)) ∧ (az_.tmps.getD 10 undef = (Value.int .i64 (((y - x) : Nat) : Int))) ∧ (az_.tmps.getD 11 undef = (Value.int .i64 ((pv2 : Nat) : Int))) ∧ (Inv a b x y d d3) ∧ (d3.size = n) ∧ (w.grownBy w' v.ownBlock) ∧ (w513.heap.size ≤ w'.heap.size) ∧ (Own w' base 35 1 v n (d3.toList.map u16v))) (fun hJ522 => ?_) ?_
     ·
      refine seq_any fun K524 hK524 => ?_
      refine seq_any fun K525 hK525 => ?_
      refine one_reg ?_
      refine op_move (ev_base hN513 rfl s513_8) ?_
      refine op_move (ev_hit hN513 rfl) ?_
      rcases Bool.eq_false_or_eq_true (wb) with g62 | g62
      · -- 62T
       rw [g62]
       refine g_true (j := 1) (dj := 62) (b := true) rfl rfl rfl (ev_hit hN513 rfl) ?_
       refine op_move (ev_base hN513 rfl s513_9) ?_
       refine op_pick_t (ev_hit hN513 rfl) (ev_hit hN513 rfl) ?_
       refine op_move (ev_hit hN513 rfl) ?_
       rcases Bool.eq_false_or_eq_true (wp) with g65 | g65
       · -- 65T
        rw [g65]
        refine g_true (j := 4) (dj := 65) (b := true) rfl rfl rfl (ev_hit hN513 rfl) ?_
        refine op_move (ev_base hN513 rfl s513_12) ?_
        refine g_true (j := 4) (dj := 65) (b := true) rfl rfl rfl (ev_hit hN513 rfl) ?_
        refine op_eql (ev_hit hN513 rfl) rfl (fun c67 => ?_) (fun c67 => ?_)
        · -- 67T
         refine op_pick_t (ev_hit hN513 rfl) (ev_hit hN513 rfl) ?_
         refine reg_nil ?_
         refine hK525 _ _ ?_
         refine wp_cond_true (ev_hit hN513 rfl) ?_
         refine seq_any fun K526 hK526 => ?_
         refine one_reg ?_
         refine op_move (ev_base hN513 rfl s513_0) ?_
         refine op_move (ev_base hN513 rfl s513_1) ?_
         refine op_move (ev_base hN513 rfl s513_2) ?_
         refine op_fn (vs := [v, (Value.int .i64 ((x : Nat) : Int)), (Value.int .i64 ((y : Nat) : Int))]) ok71 ⟨(ev_hit hN513 rfl), ⟨(ev_hit hN513 rfl), ⟨(ev_hit hN513 rfl), trivial⟩⟩⟩ (partialW_ret d2 _ _ _ x y _ (by first | assumption | (simp only [Array.size_setIfInBounds, swp_sz, siftDown_size]; assumption)) (by omega) hO514 (by omega) (by omega)) ?_
         rintro _ w528 ⟨E529, rfl, hO527⟩
         have z_w528 := E529.size
         have hb := grow_stepX hb E529 rfl
         rcases Bool.eq_false_or_eq_true ((partialInsertionSort ltT d2 x y).2) with c72 | c72
         · -- 72T
          rw [c72]
          refine reg_nil ?_
          refine hK526 _ _ ?_
          refine wp_cond_true (ev_hit hN513 rfl) ?_
          refine wp_ret (then_ret (blk_ret (then_ret (blk_ret ( ?_)))))
          refine ret0 rfl hd513  ⟨_, rfl, ?_⟩
          -- path 23F 29F 62T 65T 67T 72T
          exact ⟨hb, rfl, _, ((hi2.pins (by omega)).2 (by first | assumption | simpa using c72)).1, ((hi2.pins (by omega)).2 (by first | assumption | simpa using c72)).2, hO527⟩
         · -- 72F
          rw [c72]
          refine reg_nil ?_
          refine hK526 _ _ ?_
          refine wp_cond_false (ev_hit hN513 rfl) ?_
          refine wp_skip ?_
          refine hK524 _ _ ?_
          exact hJ522 _ _ _ hN513 hd513 ⟨_, (sl_base hN513 rfl s513_0), (sl_base hN513 rfl s513_1), (sl_base hN513 rfl s513_2), (sl_base hN513 rfl s513_3), (sl_base hN513 rfl s513_8), (sl_base hN513 rfl s513_9), (sl_base hN513 rfl s513_10), (sl_base hN513 rfl s513_11), (hi2.pins (by omega)).1, (by rw [Inv.sz (by first | exact (hi2.pins (by omega)).1 | exact hi2)]; assumption), hb, (by omega), hO527⟩
        · -- 67F
         refine op_pick_t (ev_hit hN513 rfl) (ev_hit hN513 rfl) ?_
         refine reg_nil ?_
         refine hK525 _ _ ?_
         refine wp_cond_false (ev_hit hN513 rfl) ?_
         refine wp_skip ?_
         refine hK524 _ _ ?_
         exact hJ522 _ _ _ hN513 hd513 ⟨_, (sl_base hN513 rfl s513_0), (sl_base hN513 rfl s513_1), (sl_base hN513 rfl s513_2), (sl_base hN513 rfl s513_3), (sl_base hN513 rfl s513_8), (sl_base hN513 rfl s513_9), (sl_base hN513 rfl s513_10), (sl_base hN513 rfl s513_11), hi2, (by rw [Inv.sz (by first | exact (hi2.pins (by omega)).1 | exact hi2)]; assumption), hb, (by omega), hO514⟩
       · -- 65F
        rw [g65]
        refine g_false (j := 4) (dj := 65) (b := true) rfl rfl rfl (ev_hit hN513 rfl) rfl rfl ?_
        refine g_false (j := 4) (dj := 65) (b := true) rfl rfl rfl (ev_hit hN513 rfl) rfl rfl ?_
        refine op_pick_f (ev_hit hN513 rfl) rfl ?_
        refine reg_nil ?_
        refine hK525 _ _ ?_
        refine wp_cond_false (ev_hit hN513 rfl) ?_
        refine wp_skip ?_
        refine hK524 _ _ ?_
        exact hJ522 _ _ _ hN513 hd513 ⟨_, (sl_base hN513 rfl s513_0), (sl_base hN513 rfl s513_1), (sl_base hN513 rfl s513_2), (sl_base hN513 rfl s513_3), (sl_base hN513 rfl s513_8), (sl_base hN513 rfl s513_9), (sl_base hN513 rfl s513_10), (sl_base hN513 rfl s513_11), hi2, (by rw [Inv.sz (by first | exact (hi2.pins (by omega)).1 | exact hi2)]; assumption), hb, (by omega), hO514⟩
      · -- 62F
       rw [g62]
       refine g_false (j := 1) (dj := 62) (b := true) rfl rfl rfl (ev_hit hN513 rfl) rfl rfl ?_
       refine op_pick_f (ev_hit hN513 rfl) rfl ?_
       refine op_move (ev_hit hN513 rfl) ?_
       refine g_false (j := 4) (dj := 65) (b := true) rfl rfl rfl (ev_hit hN513 rfl) rfl rfl ?_
       refine g_false (j := 4) (dj := 65) (b := true) rfl rfl rfl (ev_hit hN513 rfl) rfl rfl ?_
       refine op_pick_f (ev_hit hN513 rfl) rfl ?_
       refine reg_nil ?_
       refine hK525 _ _ ?_
       refine wp_cond_false (ev_hit hN513 rfl) ?_
       refine wp_skip ?_
       refine hK524 _ _ ?_
       exact hJ522 _ _ _ hN513 hd513 ⟨_, (sl_base hN513 rfl s513_0), (sl_base hN513 rfl s513_1), (sl_base hN513 rfl s513_2), (sl_base hN513 rfl s513_3), (sl_base hN513 rfl s513_8), (sl_base hN513 rfl s513_9), (sl_base hN513 rfl s513_10), (sl_base hN513 rfl s513_11), hi2, (by rw [Inv.sz (by first | exact (hi2.pins (by omega)).1 | exact hi2)]; assumption), hb, (by omega), hO514⟩
     ·
      rintro a522 w522 hN522 hd522 ⟨d3, s522_0, s522_1, s522_2, s522_3, s522_8, s522_9, s522_10, s522_11, hi3, hz3, hb, zl_w522, hO523⟩
      have z_w522 := hb.size
      refine seq_join1 (N := 134) (fun az_ w' => (az_.tmps.getD 0 undef = v) ∧ (az_.tmps.getD 2 undef = (Value.int .i64 ((y : Nat) : Int))) ∧ (az_.tmps.getD 3 undef = (Value.int .i64 ((l1 : Nat) : Int))) ∧ (az_.tmps.getD 8 undef = (Value.bool wb)) ∧ (az_.tmps.getD 9 undef = (Value.bool wp)) ∧ (az_.tmps.getD 10 undef = (Value.int .i64 (((y - x) : Nat) : Int))) ∧ (az_.tmps.getD 11 undef = (Value.int .i64 ((pv2 : Nat) : Int))) ∧ (az_.tmps.getD 1 undef = (Value.int .i64 ((x : Nat) : Int))) ∧ (w.grownBy w' v.ownBlock) ∧ (w522.heap.size ≤ w'.heap.size) ∧ (Own w' base 35 1 v n (d3.toList.map u16v))) (fun hJ530 => ?_) ?_
      ·
       refine seq_any fun K531 hK531 => ?_
       refine seq_any fun K532 hK532 => ?_
       refine reg_still mixed (by kernel_rfl) ?_
       intro w534 E533
       have z_w534 := E533.size
       have hO523 := hO523.keep0 E533
       have hb := grow_step0 hb E533
       refine st_step rfl (fun _ h9 => op_move (ev_base hN522 rfl s522_1) h9) ?_
       by_cases g74 : 0 < ((x : Nat) : Int)
       · -- 74T
        refine st_step rfl (fun _ h9 => op_cmp (b := true) (ev_hit hN522 rfl) rfl (b_gtr (decide_eq_true g74)) h9) ?_
        refine st_step rfl (fun _ h9 => op_move (ev_hit hN522 rfl) h9) ?_
        refine st_g_true (j := 2) (dj := 75) (b := true) rfl rfl rfl (ev_hit hN522 rfl) ?_
        refine st_step rfl (fun _ h9 => op_move (ev_base hN522 rfl s522_0) h9) ?_
        refine st_g_true (j := 2) (dj := 75) (b := true) rfl rfl rfl (ev_hit hN522 rfl) ?_
        refine st_step rfl (fun _ h9 => op_move (ev_base hN522 rfl s522_1) h9) ?_
        refine st_g_true (j := 2) (dj := 75) (b := true) rfl rfl rfl (ev_hit hN522 rfl) ?_
        refine st_step rfl (fun _ h9 => op_sub (r := (((x - 1) : Nat) : Int)) (ev_hit hN522 rfl) rfl (by rw [IntKind.wrap_i64]; omega) h9) ?_
        refine st_g_true (j := 2) (dj := 75) (b := true) rfl rfl rfl (ev_hit hN522 rfl) ?_
        refine st_index_rd slt22 (ev_hit hN522 rfl) hO523.rdw (ev_hit hN522 rfl) (by omega) (by omega) ?_
        intro b535 o536 h0b535 h1b535 hc537
        refine st_g_true (j := 2) (dj := 75) (b := true) rfl rfl rfl (ev_hit hN522 rfl) ?_
        refine st_step rfl (fun _ h9 => op_load1 (v := (Value.int .u16 (d3[(x - 1)]!.toNat : Int))) one35 (ev_hit hN522 rfl) (by have := hc537 0 (Value.int .u16 (d3[(x - 1)]!.toNat : Int)) (by decide) (el_arr (i := (x - 1)) (by omega) (by first | omega | (simp only [Array.size_setIfInBounds, swp_sz, siftDown_size]; omega))); simpa using this) h9) ?_
        refine st_g_true (j := 2) (dj := 75) (b := true) rfl rfl rfl (ev_hit hN522 rfl) ?_
        refine st_step rfl (fun _ h9 => op_move (ev_base hN522 rfl s522_0) h9) ?_
        refine st_g_true (j := 2) (dj := 75) (b := true) rfl rfl rfl (ev_hit hN522 rfl) ?_
        refine st_step rfl (fun _ h9 => op_move (ev_base hN522 rfl s522_11) h9) ?_
        refine st_g_true (j := 2) (dj := 75) (b := true) rfl rfl rfl (ev_hit hN522 rfl) ?_
        refine st_index_rd slt22 (ev_hit hN522 rfl) hO523.rdw (ev_hit hN522 rfl) (by omega) (by omega) ?_
        intro b538 o539 h0b538 h1b538 hc540
        refine st_g_true (j := 2) (dj := 75) (b := true) rfl rfl rfl (ev_hit hN522 rfl) ?_
        refine st_step rfl (fun _ h9 => op_load1 (v := (Value.int .u16 (d3[pv2]!.toNat : Int))) one35 (ev_hit hN522 rfl) (by have := hc540 0 (Value.int .u16 (d3[pv2]!.toNat : Int)) (by decide) (el_arr (i := pv2) (by omega) (by first | omega | (simp only [Array.size_setIfInBounds, swp_sz, siftDown_size]; omega))); simpa using this) h9) ?_
        refine st_g_true (j := 2) (dj := 75) (b := true) rfl rfl rfl (ev_hit hN522 rfl) ?_
        refine st_fn (vs := [(Value.int .u16 (d3[(x - 1)]!.toNat : Int)), (Value.int .u16 (d3[pv2]!.toNat : Int))]) ok72 (⟨(ev_hit hN522 rfl), ⟨(ev_hit hN522 rfl), trivial⟩⟩) (Less16_ret d3[(x - 1)]! d3[pv2]! _) ?_
        refine st_g_true (j := 2) (dj := 75) (b := true) rfl rfl rfl (ev_hit hN522 rfl) ?_
        refine st_step rfl (fun _ h9 => op_not (ev_hit hN522 rfl) h9) ?_
        refine st_step rfl (fun _ h9 => op_pick_t (ev_hit hN522 rfl) (ev_hit hN522 rfl) h9) ?_
        refine st_nil ?_
        refine hK532 _ _ ?_
        refine wp_cond_split (ev_hit hN522 rfl) (fun c87 => ?_) (fun c87 => ?_)
        · -- 87T
         refine seq_any fun K541 hK541 => ?_
         refine one_reg ?_
         have heq5 := hi3.equal hp2.1 hp2.2 (by omega) (not_t c87)
         refine op_move (ev_base hN522 rfl s522_0) ?_
         refine op_move (ev_base hN522 rfl s522_1) ?_
         refine op_move (ev_base hN522 rfl s522_2) ?_
         refine op_move (ev_base hN522 rfl s522_11) ?_
         refine op_fn (vs := [v, (Value.int .i64 ((x : Nat) : Int)), (Value.int .i64 ((y : Nat) : Int)), (Value.int .i64 ((pv2 : Nat) : Int))]) ok73 ⟨(ev_hit hN522 rfl), ⟨(ev_hit hN522 rfl), ⟨(ev_hit hN522 rfl), ⟨(ev_hit hN522 rfl), trivial⟩⟩⟩⟩ (partEqW_ret d3 _ _ _ x y pv2 _ (by first | assumption | (simp only [Array.size_setIfInBounds, swp_sz, siftDown_size]; assumption)) (by omega) hO523 (by omega) (by omega) (by omega)) ?_
         rintro _ w544 ⟨E545, rfl, hO543⟩
         have z_w544 := E545.size
         have hb := grow_stepX hb E545 rfl
         refine op_assign (ev_hit hN522 rfl) ?_
         refine reg_nil ?_
         refine hK541 _ _ ?_
         refine seq_any fun K546 hK546 => ?_
         refine one_reg ?_
         refine op_move (ev_hit hN522 rfl) ?_
         refine op_assign (ev_hit hN522 rfl) ?_
         refine reg_nil ?_
         refine hK546 _ _ ?_
         refine wp_exit (then_exit (blk_hit ?_))
         -- round 23F 29F 74T 87T
         have hinv5 := heq5.2
         have hz5 : (partitionEqual ltT d3 x y pv2).2.size = n := by rw [Inv.sz hinv5]; assumption
         exact loop_next _ hN522 hd522 ⟨(partitionEqual ltT d3 x y pv2).1, y, l1, wb, wp, _, rfl, (sl_base hN522 rfl s522_0), (sl_hit hN522 rfl).trans (congrArg (Value.int .i64) (by omega)), (sl_base hN522 rfl s522_2).trans (congrArg (Value.int .i64) (by omega)), (sl_base hN522 rfl s522_3).trans (congrArg (Value.int .i64) (by omega)), (sl_base hN522 rfl s522_8), (sl_base hN522 rfl s522_9), (by first | assumption | (simp only [Array.size_setIfInBounds, swp_sz, siftDown_size]; assumption)), (by omega), hinv5, hb, (by omega), hO543⟩ (by omega)
        · -- 87F
         refine wp_skip ?_
         refine hK531 _ _ ?_
         exact hJ530 _ _ _ hN522 hd522 ⟨(sl_base hN522 rfl s522_0), (sl_base hN522 rfl s522_2), (sl_base hN522 rfl s522_3), (sl_base hN522 rfl s522_8), (sl_base hN522 rfl s522_9), (sl_base hN522 rfl s522_10), (sl_base hN522 rfl s522_11), (sl_base hN522 rfl s522_1), hb, (by omega), hO523⟩
       · -- 74F
        refine st_step rfl (fun _ h9 => op_cmp (b := false) (ev_hit hN522 rfl) rfl (b_gtr (decide_eq_false g74)) h9) ?_
        refine st_step rfl (fun _ h9 => op_move (ev_hit hN522 rfl) h9) ?_
        refine st_g_false (j := 2) (dj := 75) (b := true) rfl rfl rfl (ev_hit hN522 rfl) rfl rfl ?_
        refine st_g_false (j := 2) (dj := 75) (b := true) rfl rfl rfl (ev_hit hN522 rfl) rfl rfl ?_
        refine st_g_false (j := 2) (dj := 75) (b := true) rfl rfl rfl (ev_hit hN522 rfl) rfl rfl ?_
        refine st_g_false (j := 2) (dj := 75) (b := true) rfl rfl rfl (ev_hit hN522 rfl) rfl rfl ?_
        refine st_g_false (j := 2) (dj := 75) (b := true) rfl rfl rfl (ev_hit hN522 rfl) rfl rfl ?_
        refine st_g_false (j := 2) (dj := 75) (b := true) rfl rfl rfl (ev_hit hN522 rfl) rfl rfl ?_
        refine st_g_false (j := 2) (dj := 75) (b := true) rfl rfl rfl (ev_hit hN522 rfl) rfl rfl ?_
        refine st_g_false (j := 2) (dj := 75) (b := true) rfl rfl rfl (ev_hit hN522 rfl) rfl rfl ?_
        refine st_g_false (j := 2) (dj := 75) (b := true) rfl rfl rfl (ev_hit hN522 rfl) rfl rfl ?_
        refine st_g_false (j := 2) (dj := 75) (b := true) rfl rfl rfl (ev_hit hN522 rfl) rfl rfl ?_
        refine st_g_false (j := 2) (dj := 75) (b := true) rfl rfl rfl (ev_hit hN522 rfl) rfl rfl ?_
        refine st_step rfl (fun _ h9 => op_pick_f (ev_hit hN522 rfl) rfl h9) ?_
        refine st_nil ?_
        refine hK532 _ _ ?_
        refine wp_cond_false (ev_hit hN522 rfl) ?_
        refine wp_skip ?_
        refine hK531 _ _ ?_
        exact hJ530 _ _ _ hN522 hd522 ⟨(sl_base hN522 rfl s522_0), (sl_base hN522 rfl s522_2), (sl_base hN522 rfl s522_3), (sl_base hN522 rfl s522_8), (sl_base hN522 rfl s522_9), (sl_base hN522 rfl s522_10), (sl_base hN522 rfl s522_11), (sl_base hN522 rfl s522_1), hb, (by omega), hO523⟩
      ·
       rintro a530 w530 hN530 hd530 ⟨s530_0, s530_2, s530_3, s530_8, s530_9, s530_10, s530_11, s530_1, hb, zl_w530, hO523⟩
       have z_w530 := hb.size
       refine seq_any fun K547 hK547 => ?_
       refine one_reg ?_
       have hpt := hi3.part hp2.1 hp2.2
       refine op_move (ev_base hN530 rfl s530_0) ?_
       refine op_move (ev_base hN530 rfl s530_1) ?_
       refine op_move (ev_base hN530 rfl s530_2) ?_
       refine op_move (ev_base hN530 rfl s530_11) ?_
       refine op_fn (vs := [v, (Value.int .i64 ((x : Nat) : Int)), (Value.int .i64 ((y : Nat) : Int)), (Value.int .i64 ((pv2 : Nat) : Int))]) ok74 ⟨(ev_hit hN530 rfl), ⟨(ev_hit hN530 rfl), ⟨(ev_hit hN530 rfl), ⟨(ev_hit hN530 rfl), trivial⟩⟩⟩⟩ (partW_ret d3 _ _ _ x y pv2 _ (by first | assumption | (simp only [Array.size_setIfInBounds, swp_sz, siftDown_size]; assumption)) (by omega) hO523 (by omega) (by omega) (by omega)) ?_
       rintro _ w549 ⟨E550, rfl, hO548⟩
       have z_w549 := E550.size
       have hb := grow_stepX hb E550 rfl
       refine op_move (ev_hit hN530 rfl) ?_
       refine op_extract (ev_hit hN530 rfl) rfl ?_
       refine op_extract (ev_hit hN530 rfl) rfl ?_
       refine op_assign (ev_hit hN530 rfl) ?_
       refine op_assign (ev_hit hN530 rfl) ?_
       refine reg_nil ?_
       refine hK547 _ _ ?_
       refine seq_any fun K551 hK551 => ?_
       refine one_reg ?_
       refine op_move (ev_hit hN530 rfl) ?_
       refine op_assign (ev_hit hN530 rfl) ?_
       refine reg_nil ?_
       refine hK551 _ _ ?_
       refine seq_any fun K552 hK552 => ?_
       refine one_reg ?_
       refine op_move (ev_hit hN530 rfl) ?_
       refine op_move (ev_base hN530 rfl s530_1) ?_
       refine op_sub (r := ((((partition ltT d3 x y pv2).1 - x) : Nat) : Int)) (ev_hit hN530 rfl) (ev_hit hN530 rfl) (by rw [IntKind.wrap_i64]; omega) ?_
       refine op_move (ev_base hN530 rfl s530_2) ?_
       refine op_move (ev_hit hN530 rfl) ?_
       refine op_sub (r := (((y - (partition ltT d3 x y pv2).1) : Nat) : Int)) (ev_hit hN530 rfl) (ev_hit hN530 rfl) (by rw [IntKind.wrap_i64]; omega) ?_
       refine op_assign (ev_hit hN530 rfl) ?_
       refine op_assign (ev_hit hN530 rfl) ?_
       refine reg_nil ?_
       refine hK552 _ _ ?_
       refine seq_any fun K553 hK553 => ?_
       refine one_reg ?_
       refine op_move (ev_base hN530 rfl s530_10) ?_
       refine op_quo (r := ((((y - x) / 8) : Nat) : Int)) (ev_hit hN530 rfl) rfl (by decide) (by rw [IntKind.wrap_i64, Int.tdiv_eq_ediv_of_nonneg (by omega)]; omega) ?_
       refine op_assign (ev_hit hN530 rfl) ?_
       refine reg_nil ?_
       refine hK553 _ _ ?_
       refine seq_any fun K554 hK554 => ?_
       refine one_reg ?_
       refine op_move (ev_hit hN530 rfl) ?_
       refine op_move (ev_hit hN530 rfl) ?_
       refine op_lss (ev_hit hN530 rfl) (ev_hit hN530 rfl) (fun c113 => ?_) (fun c113 => ?_)
       · -- 113T
        refine reg_nil ?_
        refine hK554 _ _ ?_
        refine wp_cond_true (ev_hit hN530 rfl) ?_
        refine seq_any fun K555 hK555 => ?_
        refine one_reg ?_
        refine op_move (ev_hit hN530 rfl) ?_
        refine op_move (ev_hit hN530 rfl) ?_
        refine op_geq (ev_hit hN530 rfl) (ev_hit hN530 rfl) (fun c116 => ?_) (fun c116 => ?_)
        · -- 116T
         refine op_assign (ev_hit hN530 rfl) ?_
         refine reg_nil ?_
         refine hK555 _ _ ?_
         refine seq_any fun K556 hK556 => ?_
         refine one_reg ?_
         have hbl := hpt.2.2.2.1
         have hmz : (partition ltT d3 x y pv2).1 - x < z := by omega
         refine op_move (ev_base hN530 rfl s530_0) ?_
         refine op_move (ev_base hN530 rfl s530_1) ?_
         refine op_move (ev_hit hN530 rfl) ?_
         refine op_move (ev_base hN530 rfl s530_3) ?_
         refine op_fn (vs := [v, (Value.int .i64 ((x : Nat) : Int)), (Value.int .i64 (((partition ltT d3 x y pv2).1 : Nat) : Int)), (Value.int .i64 ((l1 : Nat) : Int))]) ok63 ⟨(ev_hit hN530 rfl), ⟨(ev_hit hN530 rfl), ⟨(ev_hit hN530 rfl), ⟨(ev_hit hN530 rfl), trivial⟩⟩⟩⟩ (ih (partition ltT d3 x y pv2).2.2 x ((partition ltT d3 x y pv2).1) l1 _ (hpt.2.2.1.trans hz3) (by omega) (by omega) (by omega) (by omega) hbl hO548) ?_
         rintro _ w558 ⟨E559, rfl, dd557, hpi557, hso557, hO557⟩
         have z_w558 := E559.size
         have hb := grow_stepX hb E559 rfl
         refine reg_nil ?_
         refine hK556 _ _ ?_
         refine one_reg ?_
         refine op_move (ev_hit hN530 rfl) ?_
         refine op_add (r := ((((partition ltT d3 x y pv2).1 + 1) : Nat) : Int)) (ev_hit hN530 rfl) rfl (by rw [IntKind.wrap_i64]; omega) ?_
         refine op_assign (ev_hit hN530 rfl) ?_
         refine reg_nil ?_
         refine blk_normal ?_
         -- round 23F 29F 113T 116T
         have hinv5 := hpt.2.2.2.2.2.1 _ hpi557 hso557
         have hz5 : dd557.size = n := by rw [Inv.sz hinv5]; assumption
         exact loop_next _ hN530 hd530 ⟨((partition ltT d3 x y pv2).1 + 1), y, l1, true, (partition ltT d3 x y pv2).2.1, _, rfl, (sl_base hN530 rfl s530_0), (sl_hit hN530 rfl).trans (congrArg (Value.int .i64) (by omega)), (sl_base hN530 rfl s530_2).trans (congrArg (Value.int .i64) (by omega)), (sl_base hN530 rfl s530_3).trans (congrArg (Value.int .i64) (by omega)), (sl_hit hN530 rfl), (sl_hit hN530 rfl), (by first | assumption | (simp only [Array.size_setIfInBounds, swp_sz, siftDown_size]; assumption)), (by omega), hinv5, hb, (by omega), hO557⟩ (by omega)
        · -- 116F
         refine op_assign (ev_hit hN530 rfl) ?_
         refine reg_nil ?_
         refine hK555 _ _ ?_
         refine seq_any fun K560 hK560 => ?_
         refine one_reg ?_
         have hbl := hpt.2.2.2.1
         have hmz : (partition ltT d3 x y pv2).1 - x < z := by omega
         refine op_move (ev_base hN530 rfl s530_0) ?_
         refine op_move (ev_base hN530 rfl s530_1) ?_
         refine op_move (ev_hit hN530 rfl) ?_
         refine op_move (ev_base hN530 rfl s530_3) ?_
         refine op_fn (vs := [v, (Value.int .i64 ((x : Nat) : Int)), (Value.int .i64 (((partition ltT d3 x y pv2).1 : Nat) : Int)), (Value.int .i64 ((l1 : Nat) : Int))]) ok63 ⟨(ev_hit hN530 rfl), ⟨(ev_hit hN530 rfl), ⟨(ev_hit hN530 rfl), ⟨(ev_hit hN530 rfl), trivial⟩⟩⟩⟩ (ih (partition ltT d3 x y pv2).2.2 x ((partition ltT d3 x y pv2).1) l1 _ (hpt.2.2.1.trans hz3) (by omega) (by omega) (by omega) (by omega) hbl hO548) ?_
         rintro _ w562 ⟨E563, rfl, dd561, hpi561, hso561, hO561⟩
         have z_w562 := E563.size
         have hb := grow_stepX hb E563 rfl
         refine reg_nil ?_
         refine hK560 _ _ ?_
         refine one_reg ?_
         refine op_move (ev_hit hN530 rfl) ?_
         refine op_add (r := ((((partition ltT d3 x y pv2).1 + 1) : Nat) : Int)) (ev_hit hN530 rfl) rfl (by rw [IntKind.wrap_i64]; omega) ?_
         refine op_assign (ev_hit hN530 rfl) ?_
         refine reg_nil ?_
         refine blk_normal ?_
         -- round 23F 29F 113T 116F
         have hinv5 := hpt.2.2.2.2.2.1 _ hpi561 hso561
         have hz5 : dd561.size = n := by rw [Inv.sz hinv5]; assumption
         exact loop_next _ hN530 hd530 ⟨((partition ltT d3 x y pv2).1 + 1), y, l1, false, (partition ltT d3 x y pv2).2.1, _, rfl, (sl_base hN530 rfl s530_0), (sl_hit hN530 rfl).trans (congrArg (Value.int .i64) (by omega)), (sl_base hN530 rfl s530_2).trans (congrArg (Value.int .i64) (by omega)), (sl_base hN530 rfl s530_3).trans (congrArg (Value.int .i64) (by omega)), (sl_hit hN530 rfl), (sl_hit hN530 rfl), (by first | assumption | (simp only [Array.size_setIfInBounds, swp_sz, siftDown_size]; assumption)), (by omega), hinv5, hb, (by omega), hO561⟩ (by omega)
       · -- 113F
        refine reg_nil ?_
        refine hK554 _ _ ?_
        refine wp_cond_false (ev_hit hN530 rfl) ?_
        refine seq_any fun K564 hK564 => ?_
        refine one_reg ?_
        refine op_move (ev_hit hN530 rfl) ?_
        refine op_move (ev_hit hN530 rfl) ?_
        refine op_geq (ev_hit hN530 rfl) (ev_hit hN530 rfl) (fun c126 => ?_) (fun c126 => ?_)
        · -- 126T
         refine op_assign (ev_hit hN530 rfl) ?_
         refine reg_nil ?_
         refine hK564 _ _ ?_
         refine seq_any fun K565 hK565 => ?_
         refine one_reg ?_
         have hbr := hpt.2.2.2.2.1
         have hmz : y - ((partition ltT d3 x y pv2).1 + 1) < z := by omega
         refine op_move (ev_base hN530 rfl s530_0) ?_
         refine op_move (ev_hit hN530 rfl) ?_
         refine op_add (r := ((((partition ltT d3 x y pv2).1 + 1) : Nat) : Int)) (ev_hit hN530 rfl) rfl (by rw [IntKind.wrap_i64]; omega) ?_
         refine op_move (ev_base hN530 rfl s530_2) ?_
         refine op_move (ev_base hN530 rfl s530_3) ?_
         refine op_fn (vs := [v, (Value.int .i64 ((((partition ltT d3 x y pv2).1 + 1) : Nat) : Int)), (Value.int .i64 ((y : Nat) : Int)), (Value.int .i64 ((l1 : Nat) : Int))]) ok63 ⟨(ev_hit hN530 rfl), ⟨(ev_hit hN530 rfl), ⟨(ev_hit hN530 rfl), ⟨(ev_hit hN530 rfl), trivial⟩⟩⟩⟩ (ih (partition ltT d3 x y pv2).2.2 ((partition ltT d3 x y pv2).1 + 1) y l1 _ (hpt.2.2.1.trans hz3) (by omega) (by omega) (by omega) (by omega) hbr hO548) ?_
         rintro _ w567 ⟨E568, rfl, dd566, hpi566, hso566, hO566⟩
         have z_w567 := E568.size
         have hb := grow_stepX hb E568 rfl
         refine reg_nil ?_
         refine hK565 _ _ ?_
         refine one_reg ?_
         refine op_move (ev_hit hN530 rfl) ?_
         refine op_assign (ev_hit hN530 rfl) ?_
         refine reg_nil ?_
         refine blk_normal ?_
         -- round 23F 29F 113F 126T
         have hinv5 := hpt.2.2.2.2.2.2 _ hpi566 hso566
         have hz5 : dd566.size = n := by rw [Inv.sz hinv5]; assumption
         exact loop_next _ hN530 hd530 ⟨x, (partition ltT d3 x y pv2).1, l1, true, (partition ltT d3 x y pv2).2.1, _, rfl, (sl_base hN530 rfl s530_0), (sl_base hN530 rfl s530_1).trans (congrArg (Value.int .i64) (by omega)), (sl_hit hN530 rfl).trans (congrArg (Value.int .i64) (by omega)), (sl_base hN530 rfl s530_3).trans (congrArg (Value.int .i64) (by omega)), (sl_hit hN530 rfl), (sl_hit hN530 rfl), (by first | assumption | (simp only [Array.size_setIfInBounds, swp_sz, siftDown_size]; assumption)), (by omega), hinv5, hb, (by omega), hO566⟩ (by omega)
        · -- 126F
         refine op_assign (ev_hit hN530 rfl) ?_
         refine reg_nil ?_
         refine hK564 _ _ ?_
         refine seq_any fun K569 hK569 => ?_
         refine one_reg ?_
         have hbr := hpt.2.2.2.2.1
         have hmz : y - ((partition ltT d3 x y pv2).1 + 1) < z := by omega
         refine op_move (ev_base hN530 rfl s530_0) ?_
         refine op_move (ev_hit hN530 rfl) ?_
         refine op_add (r := ((((partition ltT d3 x y pv2).1 + 1) : Nat) : Int)) (ev_hit hN530 rfl) rfl (by rw [IntKind.wrap_i64]; omega) ?_
         refine op_move (ev_base hN530 rfl s530_2) ?_
         refine op_move (ev_base hN530 rfl s530_3) ?_
         refine op_fn (vs := [v, (Value.int .i64 ((((partition ltT d3 x y pv2).1 + 1) : Nat) : Int)), (Value.int .i64 ((y : Nat) : Int)), (Value.int .i64 ((l1 : Nat) : Int))]) ok63 ⟨(ev_hit hN530 rfl), ⟨(ev_hit hN530 rfl), ⟨(ev_hit hN530 rfl), ⟨(ev_hit hN530 rfl), trivial⟩⟩⟩⟩ (ih (partition ltT d3 x y pv2).2.2 ((partition ltT d3 x y pv2).1 + 1) y l1 _ (hpt.2.2.1.trans hz3) (by omega) (by omega) (by omega) (by omega) hbr hO548) ?_
         rintro _ w571 ⟨E572, rfl, dd570, hpi570, hso570, hO570⟩
         have z_w571 := E572.size
         have hb := grow_stepX hb E572 rfl
         refine reg_nil ?_
         refine hK569 _ _ ?_
         refine one_reg ?_
         refine op_move (ev_hit hN530 rfl) ?_
         refine op_assign (ev_hit hN530 rfl) ?_
         refine reg_nil ?_
         refine blk_normal ?_
         -- round 23F 29F 113F 126F
         have hinv5 := hpt.2.2.2.2.2.2 _ hpi570 hso570
         have hz5 : dd570.size = n := by rw [Inv.sz hinv5]; assumption
         exact loop_next _ hN530 hd530 ⟨x, (partition ltT d3 x y pv2).1, l1, false, (partition ltT d3 x y pv2).2.1, _, rfl, (sl_base hN530 rfl s530_0), (sl_base hN530 rfl s530_1).trans (congrArg (Value.int .i64) (by omega)), (sl_hit hN530 rfl).trans (congrArg (Value.int .i64) (by omega)), (sl_base hN530 rfl s530_3).trans (congrArg (Value.int .i64) (by omega)), (sl_hit hN530 rfl), (sl_hit hN530 rfl), (by first | assumption | (simp only [Array.size_setIfInBounds, swp_sz, siftDown_size]; assumption)), (by omega), hinv5, hb, (by omega), hO570⟩ (by omega)

theorem pdqW_ret (d : Ar) (v : Value) (n base a b lim : Nat) (w : World) (hd : d.size = n) (hn : n ≤ 4000000000000000000) (hab : a ≤ b) (hbn : b ≤ n) (hlim : lim ≤ 100) (hB : Go.Sort.Below ltT a b d) (O : Own w base 35 1 v n (d.toList.map u16v)) : Ret Try.prog 63 #[v, .int .i64 (a : Int), .int .i64 (b : Int), .int .i64 (lim : Int)] w (fun v' w' => w.grownBy w' v.ownBlock ∧ v' = .tuple #[] ∧ ∃ d', PI a b d d' ∧ SortedIn ltT a b d' ∧ Own w' base 35 1 v n (d'.toList.map u16v)) := by
  have key : ∀ z, PdqIH z v n base := by
    intro z
    induction z with
    | zero => intro d a b lim w _ _ _ _ h; omega
    | succ z ih =>
      intro d a b lim w hd hab hbn hlim hz hB O
      exact pdqW_step (b - a) v n base hn (fun d a b lim w g1 g2 g3 g4 g5 => ih d a b lim w g1 g2 g3 g4 (by omega)) d a b lim w hd hab hbn hlim rfl hB O
  exact key (b - a + 1) d a b lim w hd hab hbn hlim (by omega) hB O

end Go.Proofs.Ytpmnljffdofkeaa

/- What values are, plainly. -/
namespace Go.Proofs.Ytpmnljffdofkeaa
open Go.Gx
/-- A value. -/
structure Vl where
  k : Int
  n : Int
  s : List UInt8
def okB (c : UInt8) : Bool := decide (32 ≤ c.toNat ∧ c.toNat ≤ 126)
def mayV (x : Vl) : Bool := if x.k = 1 then x.s.isEmpty else x.s.all okB && decide (x.k = 2) && decide (x.n = 0) && decide (x.s.length ≤ 30)
theorem take_snoc {l : List UInt8} {i : Nat} (h : i < l.length) : l.take (i + 1) = l.take i ++ [l.getD i 0] := by
  rw [List.take_succ_eq_append_getElem h]; simp [List.getD_eq_getElem?_getD, h]
theorem all_snoc {p : UInt8 → Bool} {l : List UInt8} {i : Nat} (h : i < l.length) (ha : (l.take i).all p = true) (hb : p (l.getD i 0) = true) : (l.take (i + 1)).all p = true := by
  rw [take_snoc h, List.all_append, ha]; simp only [List.all_cons, hb, List.all_nil]; rfl
theorem all_bad {p : UInt8 → Bool} {l : List UInt8} {i : Nat} (h : i < l.length) (hb : p (l.getD i 0) = false) : l.all p = false := by
  rw [List.all_eq_false]
  exact ⟨l.getD i 0, by rw [List.getD_eq_getElem?_getD, List.getElem?_eq_getElem h]; exact List.getElem_mem h, by rw [hb]; simp⟩
theorem all_whole {p : UInt8 → Bool} {l : List UInt8} {i : Nat} (h : l.length ≤ i) (ha : (l.take i).all p = true) : l.all p = true := by
  rwa [List.take_of_length_le h] at ha
/-- How values stand. -/
def cmpV (x y : Vl) : Int := if x.k < y.k then -1 else if y.k < x.k then 1 else if x.k = 1 then cmpI x.n y.n else cmpT x.s y.s
def cmpW (x y : Vl) : Int := if cmpI x.k y.k ≠ 0 then cmpI x.k y.k else if cmpI x.n y.n ≠ 0 then cmpI x.n y.n else cmpT x.s y.s
theorem el_one {cs : List Value} {e : Int} {i j n : Nat} {u : Value} (he : e = (i : Int)) (hi : i = 0) (h : cs[j]? = some u) : cs[e.toNat * n + j]? = some u := by subst he; subst hi; simpa using h
theorem twin_copy (bl : List UInt8) : bl.map u8v ++ ((List.replicate (bl.length + 3) (0 : UInt8)).map u8v).drop (bl.map u8v).length = (bl ++ [0, 0, 0]).map u8v := by
  simp only [List.map_replicate, List.length_map, List.drop_replicate, List.map_append, Nat.add_sub_cancel_left]; rfl
theorem getD_tail (bl t : List UInt8) (k : Nat) : (bl ++ t).getD (bl.length + k) 0 = t.getD k 0 := by
  rw [List.getD_eq_getElem?_getD, List.getElem?_append_right (by omega), Nat.add_sub_cancel_left, List.getD_eq_getElem?_getD]
/-- A value's key. -/
def keyV (x : Vl) : List UInt8 := if x.k = 1 then 1 :: be8 (upN x.n) else 2 :: (x.s ++ [0])
/-- The same, as the document tells it: the number as it stands, its highest bit turned. -/
def upU (n : Int) : Nat := if n < 0 then (n + 18446744073709551616).toNat else n.toNat
def keyU (m : Nat) : List UInt8 := (List.range 8).map fun i => if i = 0 then UInt8.ofNat (m / 2 ^ (56 - 8 * i) % 256) ^^^ 128 else UInt8.ofNat (m / 2 ^ (56 - 8 * i) % 256)
theorem keyU_take {m i : Nat} (hi : i < 8) : (keyU m).take (i + 1) = (keyU m).take i ++ [if i = 0 then UInt8.ofNat (m / 2 ^ (56 - 8 * i) % 256) ^^^ 128 else UInt8.ofNat (m / 2 ^ (56 - 8 * i) % 256)] := by
  unfold keyU
  rw [List.take_succ_eq_append_getElem (by simpa using hi)]
  simp
theorem keyU_len (m : Nat) : (keyU m).length = 8 := by simp [keyU]
def keyR (x : Vl) : List UInt8 := if x.k = 1 then 1 :: keyU (upU x.n) else 2 :: (x.s ++ [0])
def V0 : Vl := ⟨0, 0, []⟩
/-- The bytes behind a text's first byte: at which place the text ends, or why there is none. -/
def scanT : List UInt8 → Nat → Int ⊕ Nat
  | [], _ => .inl 2
  | c :: r, i => if c.toNat = 0 then .inr i else if i = 30 ∨ okB c = false then .inl 3 else scanT r (i + 1)
def triT (b : List UInt8) : Int ⊕ Nat → Vl × Int × Int
  | .inr i => (⟨2, 0, b.take i⟩, (i : Int) + 2, 0)
  | .inl e => (V0, 0, e)
def textR (b : List UInt8) : Vl × Int × Int := triT b (scanT b 0)
/-- What is read of bytes: a value, how many, and the error. -/
def takeV (b : List UInt8) : Vl × Int × Int := match b with
  | [] => (V0, 0, 2)
  | c :: r => if c.toNat = 1 then (if b.length < 9 then (V0, 0, 2) else (⟨1, (ofBe (r.take 8) : Int) - 9223372036854775808, []⟩, 9, 0)) else if c.toNat = 2 then textR r else (V0, 0, 3)
theorem scan_step {b : List UInt8} {i : Nat} (h : i < b.length) : scanT (b.drop i) i = if (b.getD i 0).toNat = 0 then .inr i else if i = 30 ∨ okB (b.getD i 0) = false then .inl 3 else scanT (b.drop (i + 1)) (i + 1) := by
  rw [List.drop_eq_getElem_cons h]
  simp [scanT, List.getD_eq_getElem?_getD, h]
theorem scan_end {b : List UInt8} {i : Nat} (h : b.length ≤ i) : scanT (b.drop i) i = .inl 2 := by
  rw [List.drop_of_length_le h]; rfl
theorem ofBe_small {l : List UInt8} (h : l.length ≤ 7) : ofBe l < 72057594037927936 := by
  have h1 := ofBe_lt l
  have h2 : 256 ^ l.length ≤ 256 ^ 7 := Nat.pow_le_pow_right (by decide) h
  have h3 : (256 : Nat) ^ 7 = 72057594037927936 := by decide
  omega
theorem ofBe_8 {l : List UInt8} (h : l.length ≤ 8) : ofBe l < 18446744073709551616 := by
  have h1 := ofBe_lt l
  have h2 : 256 ^ l.length ≤ 256 ^ 8 := Nat.pow_le_pow_right (by decide) h
  have h3 : (256 : Nat) ^ 8 = 18446744073709551616 := by decide
  omega
theorem u8_rng (c : UInt8) : 0 ≤ (c.toNat : Int) ∧ (c.toNat : Int) ≤ 18446744073709551615 := by have := c.toNat_lt; omega
theorem take_lo {b : List UInt8} (h : b = []) : takeV b = (V0, 0, 2) := by subst h; rfl
theorem take_cons {b : List UInt8} (h : 0 < b.length) : takeV b = if (b.getD 0 0).toNat = 1 then (if b.length < 9 then (V0, 0, 2) else (⟨1, (ofBe ((b.drop 1).take 8) : Int) - 9223372036854775808, []⟩, 9, 0)) else if (b.getD 0 0).toNat = 2 then textR (b.drop 1) else (V0, 0, 3) := by
  cases b with
  | nil => simp at h
  | cons c r => rfl
theorem textR_of {b : List UInt8} {q : Int ⊕ Nat} (h : scanT b 0 = q) : textR b = triT b q := by rw [textR, h]
theorem drop1_get (b : List UInt8) (i : Nat) : (b.drop 1).getD i 0 = b.getD (1 + i) 0 := by
  simp [List.getD_eq_getElem?_getD, List.getElem?_drop, Nat.add_comm]
theorem okB_t {c : UInt8} (h : 32 ≤ c.toNat ∧ c.toNat ≤ 126) : okB c = true := decide_eq_true h
theorem okB_f {c : UInt8} (h : ¬ (32 ≤ c.toNat ∧ c.toNat ≤ 126)) : okB c = false := decide_eq_false h
end Go.Proofs.Ytpmnljffdofkeaa

/- Values' keys and order, plainly: keys stand as values do, are read again, and are the same however they are told. -/
namespace Go.Proofs.Ytpmnljffdofkeaa
open Go.Gx
theorem cmpI_val (m n : Int) : cmpI m n = -1 ∨ cmpI m n = 0 ∨ cmpI m n = 1 := by simp only [cmpI]; (repeat' split) <;> omega
theorem cmpI_eq {m n : Int} : cmpI m n = 0 ↔ m = n := by simp only [cmpI]; (repeat' split) <;> omega
theorem cmpI_lt {m n : Int} : cmpI m n = -1 ↔ m < n := by simp only [cmpI]; (repeat' split) <;> omega
theorem cmpI_swap (m n : Int) : cmpI n m = - cmpI m n := by simp only [cmpI]; (repeat' split) <;> omega
theorem cmpT_be : ∀ (l1 l2 : List UInt8) (x y : Nat), l1.length = l2.length →
    (x < y → l1.foldl (fun x c => x * 256 + c.toNat) x < l2.foldl (fun x c => x * 256 + c.toNat) y) ∧ (y < x → l2.foldl (fun x c => x * 256 + c.toNat) y < l1.foldl (fun x c => x * 256 + c.toNat) x) ∧ (x = y → cmpT l1 l2 = cmpI (l1.foldl (fun x c => x * 256 + c.toNat) x : Nat) (l2.foldl (fun x c => x * 256 + c.toNat) y : Nat))
  | [], [], x, y, _ => ⟨fun h => h, fun h => h, fun h => by subst h; simp [cmpT, cmpI]⟩
  | [], _ :: _, _, _, h => by simp at h
  | _ :: _, [], _, _, h => by simp at h
  | a :: l1, b :: l2, x, y, h => by
    have ha := a.toNat_lt
    have hb := b.toNat_lt
    have ih := cmpT_be l1 l2 (x * 256 + a.toNat) (y * 256 + b.toNat) (by simpa using h)
    refine ⟨fun hxy => ih.1 (by omega), fun hxy => ih.2.1 (by omega), fun hxy => ?_⟩
    subst hxy
    simp only [cmpT, List.foldl_cons]
    by_cases h1 : a.toNat < b.toNat
    · rw [if_pos h1]
      have := ih.1 (by omega)
      exact (cmpI_lt.2 (by omega)).symm
    · rw [if_neg h1]
      by_cases h2 : b.toNat < a.toNat
      · rw [if_pos h2]
        have := ih.2.1 (by omega)
        have h3 := cmpI_swap (l2.foldl (fun x c => x * 256 + c.toNat) (x * 256 + b.toNat) : Nat) (l1.foldl (fun x c => x * 256 + c.toNat) (x * 256 + a.toNat) : Nat)
        rw [h3, cmpI_lt.2 (by omega)]; rfl
      · rw [if_neg h2]
        exact ih.2.2 (by omega)
theorem cmpT_ofBe {l1 l2 : List UInt8} (h : l1.length = l2.length) : cmpT l1 l2 = cmpI (ofBe l1 : Nat) (ofBe l2 : Nat) := (cmpT_be l1 l2 0 0 h).2.2 rfl
theorem ofBe_be8 {m : Nat} (h : m < 18446744073709551616) : ofBe (be8 m) = m := by
  have e : be8 m = [UInt8.ofNat (m / 2 ^ 56), UInt8.ofNat (m / 2 ^ 48), UInt8.ofNat (m / 2 ^ 40), UInt8.ofNat (m / 2 ^ 32), UInt8.ofNat (m / 2 ^ 24), UInt8.ofNat (m / 2 ^ 16), UInt8.ofNat (m / 2 ^ 8), UInt8.ofNat (m / 2 ^ 0)] := rfl
  rw [e]
  simp only [ofBe, List.foldl_cons, List.foldl_nil, UInt8.toNat_ofNat']
  omega
theorem cmpT_be8 {m n : Nat} (hm : m < 18446744073709551616) (hn : n < 18446744073709551616) : cmpT (be8 m) (be8 n) = cmpI (m : Int) (n : Int) := by
  rw [cmpT_ofBe (by rw [be8_len, be8_len]), ofBe_be8 hm, ofBe_be8 hn]
/-- A value whose parts fit. -/
def OkV (x : Vl) : Prop := (-9223372036854775808 ≤ x.k ∧ x.k ≤ 9223372036854775807) ∧ (-9223372036854775808 ≤ x.n ∧ x.n ≤ 9223372036854775807) ∧ x.s.length ≤ 9223372036854775807
theorem cmpT_cons {a : UInt8} {l r : List UInt8} : cmpT (a :: l) (a :: r) = cmpT l r := by simp [cmpT]
theorem key_int {a b : Int} (ha : -9223372036854775808 ≤ a ∧ a ≤ 9223372036854775807) (hb : -9223372036854775808 ≤ b ∧ b ≤ 9223372036854775807) : cmpT (1 :: be8 (upN a)) (1 :: be8 (upN b)) = cmpI a b := by
  rw [cmpT_cons, cmpT_be8 (by unfold upN; omega) (by unfold upN; omega)]
  simp only [cmpI, upN]
  (repeat' split) <;> omega
theorem cmpT_zero : ∀ {s t : List UInt8}, s.all okB = true → t.all okB = true → cmpT (s ++ [0]) (t ++ [0]) = cmpT s t
  | [], [], _, _ => by simp [cmpT]
  | [], b :: t, _, h => by
    simp only [List.all_cons, Bool.and_eq_true] at h
    have : 32 ≤ b.toNat := (of_decide_eq_true h.1).1
    simp [cmpT]; omega
  | a :: s, [], h, _ => by
    simp only [List.all_cons, Bool.and_eq_true] at h
    have : 32 ≤ a.toNat := (of_decide_eq_true h.1).1
    simp [cmpT]; omega
  | a :: s, b :: t, h, h' => by
    simp only [List.all_cons, Bool.and_eq_true] at h h'
    simp only [List.cons_append, cmpT, cmpT_zero h.2 h'.2]
/-- What a value that may be is: a number, or a text. -/
theorem may_cases {x : Vl} (h : mayV x = true) : (x.k = 1 ∧ x.s = []) ∨ (x.k = 2 ∧ x.n = 0 ∧ x.s.all okB = true ∧ x.s.length ≤ 30) := by
  unfold mayV at h
  split at h
  · exact .inl ⟨by assumption, by simpa using h⟩
  · simp at h
    exact .inr ⟨h.1.1.2, h.1.2, by simpa using h.1.1.1, h.2⟩
theorem may_len {x : Vl} (h : mayV x = true) : x.s.length ≤ 30 := by
  rcases may_cases h with ⟨_, h⟩ | ⟨_, _, _, h⟩
  · rw [h]; decide
  · exact h
theorem keys_stand {x y : Vl} (hx : mayV x = true) (hy : mayV y = true) (ox : OkV x) (oy : OkV y) : cmpT (keyV x) (keyV y) = cmpW x y := by
  obtain ⟨k, n, s⟩ := x
  obtain ⟨k', n', s'⟩ := y
  rcases may_cases hx with ⟨h1, h2⟩ | ⟨h1, h2, h3, h4⟩ <;> rcases may_cases hy with ⟨g1, g2⟩ | ⟨g1, g2, g3, g4⟩ <;> simp only at h1 h2 g1 g2 <;> subst h1 <;> subst h2 <;> subst g1 <;> subst g2
  · have := key_int ox.2.1 oy.2.1
    simp only [keyV, if_true, cmpW]
    rw [this]
    simp only [cmpI_eq.2 rfl, ne_eq, not_true_eq_false, if_false, cmpT]
    split
    · rfl
    · rename_i h; simpa using h
  · simp [keyV, cmpW, cmpT, cmpI]
  · simp [keyV, cmpW, cmpT, cmpI]
  · simp only [keyV, cmpW]
    rw [if_neg (by decide), if_neg (by decide), cmpT_cons, cmpT_zero h3 g3]
    simp [cmpI]
theorem cmpW_cmpV {x y : Vl} (hx : mayV x = true) (hy : mayV y = true) : cmpW x y = cmpV x y := by
  obtain ⟨k, n, s⟩ := x
  obtain ⟨k', n', s'⟩ := y
  rcases may_cases hx with ⟨h1, h2⟩ | ⟨h1, h2, h3, h4⟩ <;> rcases may_cases hy with ⟨g1, g2⟩ | ⟨g1, g2, g3, g4⟩ <;> simp only at h1 h2 g1 g2 <;> subst h1 <;> subst h2 <;> subst g1 <;> subst g2 <;> simp [cmpW, cmpV, cmpI, cmpT] <;> (try (intro h; exact h.symm))
theorem cmpW_swap (x y : Vl) : cmpW y x = - cmpW x y := by
  simp only [cmpW]
  rw [cmpI_swap x.k y.k, cmpI_swap x.n y.n, cmpT_swap x.s y.s]
  (repeat' split) <;> omega
theorem cmpW_zero {x y : Vl} : cmpW x y = 0 ↔ x = y := by
  obtain ⟨k, n, s⟩ := x
  obtain ⟨k', n', s'⟩ := y
  simp only [cmpW, Vl.mk.injEq]
  constructor
  · intro h
    split at h
    · exact absurd h (by assumption)
    · split at h
      · exact absurd h (by assumption)
      · rename_i h1 h2
        exact ⟨cmpI_eq.1 (by simpa using h1), cmpI_eq.1 (by simpa using h2), cmpT_eq h⟩
  · rintro ⟨rfl, rfl, rfl⟩
    simp [cmpI_eq.2 rfl, cmpT_refl]
theorem cmpT_trans : ∀ {a b c : List UInt8}, cmpT a b = -1 → cmpT b c = -1 → cmpT a c = -1
  | [], [], _, h, _ => by simp [cmpT] at h
  | _, _ :: _, [], _, h => by simp [cmpT] at h
  | _ :: _, [], _, h, _ => by simp [cmpT] at h
  | [], _ :: _, _ :: _, _, _ => by simp [cmpT]
  | a :: x, b :: y, c :: z, h, h' => by
    simp only [cmpT] at h h' ⊢
    by_cases h1 : a.toNat < b.toNat
    · by_cases h2 : b.toNat < c.toNat
      · rw [if_pos (by omega)]
      · rw [if_neg h2] at h'
        by_cases h3 : c.toNat < b.toNat
        · rw [if_pos h3] at h'; simp at h'
        · rw [if_pos (by omega)]
    · rw [if_neg h1] at h
      by_cases h2 : b.toNat < a.toNat
      · rw [if_pos h2] at h; simp at h
      · rw [if_neg h2] at h
        by_cases h3 : b.toNat < c.toNat
        · rw [if_pos (by omega)]
        · rw [if_neg h3] at h'
          by_cases h4 : c.toNat < b.toNat
          · rw [if_pos h4] at h'; simp at h'
          · rw [if_neg h4] at h'
            rw [if_neg (by omega), if_neg (by omega)]
            exact cmpT_trans h h'
theorem cmpW_lt {x y : Vl} : cmpW x y = -1 ↔ x.k < y.k ∨ (x.k = y.k ∧ (x.n < y.n ∨ (x.n = y.n ∧ cmpT x.s y.s = -1))) := by
  simp only [cmpW, cmpI]
  by_cases h1 : x.k < y.k
  · simp [h1]
  · by_cases h2 : y.k < x.k
    · simp [h1, h2]; omega
    · have e : x.k = y.k := by omega
      by_cases h3 : x.n < y.n
      · simp [h1, h2, e, h3]
      · by_cases h4 : y.n < x.n
        · simp [h1, h2, e, h3, h4]; omega
        · have e2 : x.n = y.n := by omega
          simp [h1, h2, e, h3, h4, e2]
theorem cmpW_trans {x y z : Vl} (h1 : cmpW x y = -1) (h2 : cmpW y z = -1) : cmpW x z = -1 := by
  rw [cmpW_lt] at h1 h2 ⊢
  have t := @cmpT_trans x.s y.s z.s
  rcases h1 with h1 | ⟨h1, h3 | ⟨h3, h4⟩⟩ <;> rcases h2 with h2 | ⟨h2, h5 | ⟨h5, h6⟩⟩
  · exact .inl (by omega)
  · exact .inl (by omega)
  · exact .inl (by omega)
  · exact .inl (by omega)
  · exact .inr ⟨by omega, .inl (by omega)⟩
  · exact .inr ⟨by omega, .inl (by omega)⟩
  · exact .inl (by omega)
  · exact .inr ⟨by omega, .inl (by omega)⟩
  · exact .inr ⟨by omega, .inr ⟨by omega, t h4 h6⟩⟩
theorem keyV_le (x : Vl) : (keyV x).length ≤ x.s.length + 9 := by
  unfold keyV
  split
  · rw [List.length_cons, be8_len]; omega
  · simp
theorem keyU_eq {n : Int} (h : -9223372036854775808 ≤ n ∧ n ≤ 9223372036854775807) : keyU (upU n) = be8 (upN n) := by
  have top : ∀ q : Nat, q < 256 → UInt8.ofNat (q % 256) ^^^ 128 = UInt8.ofNat ((q + 128) % 256) := by
    intro q hq
    have : ∀ q : Fin 256, UInt8.ofNat (q.val % 256) ^^^ 128 = UInt8.ofNat ((q.val + 128) % 256) := by decide +kernel
    exact this ⟨q, hq⟩
  have hb : ∀ m : Nat, UInt8.ofNat (m % 256) = UInt8.ofNat m := by
    intro m
    apply UInt8.toNat_inj.1
    rw [UInt8.toNat_ofNat', UInt8.toNat_ofNat']; omega
  have e : upN n = if n < 0 then upU n - 9223372036854775808 else upU n + 9223372036854775808 := by unfold upN upU; split <;> omega
  have hu : upU n < 18446744073709551616 ∧ (n < 0 → 9223372036854775808 ≤ upU n) ∧ (¬ n < 0 → upU n < 9223372036854775808) := by unfold upU; split <;> omega
  generalize upU n = u at *
  rw [e]
  have e2 : keyU u = [UInt8.ofNat (u / 2 ^ 56 % 256) ^^^ 128, UInt8.ofNat (u / 2 ^ 48 % 256), UInt8.ofNat (u / 2 ^ 40 % 256), UInt8.ofNat (u / 2 ^ 32 % 256), UInt8.ofNat (u / 2 ^ 24 % 256), UInt8.ofNat (u / 2 ^ 16 % 256), UInt8.ofNat (u / 2 ^ 8 % 256), UInt8.ofNat (u / 2 ^ 0 % 256)] := rfl
  have e3 : ∀ m, be8 m = [UInt8.ofNat (m / 2 ^ 56), UInt8.ofNat (m / 2 ^ 48), UInt8.ofNat (m / 2 ^ 40), UInt8.ofNat (m / 2 ^ 32), UInt8.ofNat (m / 2 ^ 24), UInt8.ofNat (m / 2 ^ 16), UInt8.ofNat (m / 2 ^ 8), UInt8.ofNat (m / 2 ^ 0)] := fun _ => rfl
  rw [e2, e3, top _ (by omega)]
  have key : ∀ a b : Nat, a % 256 = b % 256 → UInt8.ofNat a = UInt8.ofNat b := by
    intro a b hab
    rw [← hb a, ← hb b, hab]
  split <;> (simp only [List.cons.injEq, and_true]; refine ⟨key _ _ ?_, key _ _ ?_, key _ _ ?_, key _ _ ?_, key _ _ ?_, key _ _ ?_, key _ _ ?_, key _ _ ?_⟩ <;> omega)
theorem keyR_eq {x : Vl} (h : -9223372036854775808 ≤ x.n ∧ x.n ≤ 9223372036854775807) : keyR x = keyV x := by
  unfold keyR keyV
  rw [keyU_eq h]
theorem scan_text : ∀ {s r : List UInt8} {i : Nat}, s.all okB = true → i + s.length ≤ 30 → scanT (s ++ 0 :: r) i = .inr (i + s.length)
  | [], r, i, _, _ => by simp [scanT]
  | a :: s, r, i, h, hl => by
    simp only [List.all_cons, Bool.and_eq_true] at h
    have h1 : 32 ≤ a.toNat := (of_decide_eq_true h.1).1
    simp only [List.length_cons] at hl
    simp only [List.cons_append, scanT]
    rw [if_neg (by omega), if_neg (by rintro (h2 | h2); · omega
                                      · rw [h.1] at h2; cases h2), scan_text h.2 (by omega)]
    simp only [List.length_cons]; congr 1; omega
theorem take_key {x : Vl} (hx : mayV x = true) (ox : OkV x) (r : List UInt8) : takeV (keyV x ++ r) = (x, ((keyV x).length : Int), 0) := by
  obtain ⟨k, n, s⟩ := x
  rcases may_cases hx with ⟨h1, h2⟩ | ⟨h1, h2, h3, h4⟩ <;> simp only at h1 h2 <;> subst h1 <;> subst h2
  · have hn : -9223372036854775808 ≤ n ∧ n ≤ 9223372036854775807 := ox.2.1
    have e : keyV ⟨1, n, []⟩ = 1 :: be8 (upN n) := by simp [keyV]
    rw [e]
    simp only [List.cons_append, takeV]
    rw [if_pos (by decide), if_neg (by simp [be8_len]), List.take_append_of_le_length (by simp [be8_len]), List.take_of_length_le (by simp [be8_len]), ofBe_be8 (by unfold upN; omega)]
    simp only [List.length_cons, be8_len, Prod.mk.injEq, Vl.mk.injEq, true_and, and_true]
    refine ⟨?_, by decide⟩
    unfold upN; omega
  · simp only at h3 h4
    have e : keyV ⟨2, 0, s⟩ = 2 :: (s ++ [0]) := by simp [keyV]
    rw [e]
    have e2 : (2 :: (s ++ [0])) ++ r = 2 :: (s ++ 0 :: r) := by simp
    rw [e2]
    simp only [takeV]
    rw [if_neg (by decide), if_pos (by decide), textR_of (scan_text h3 (by omega))]
    simp [triT]; omega
theorem key_prefix {x y : Vl} (hx : mayV x = true) (hy : mayV y = true) (ox : OkV x) (oy : OkV y) (h : (keyV y).take (keyV x).length = keyV x) : x = y := by
  have h1 := take_key hx ox ((keyV y).drop (keyV x).length)
  have h2 := take_key hy oy []
  rw [List.append_nil] at h2
  have h3 : keyV x ++ (keyV y).drop (keyV x).length = keyV y := by
    conv => rhs; rw [← List.take_append_drop (keyV x).length (keyV y), h]
  rw [h3, h2] at h1
  exact (congrArg Prod.fst h1).symm
theorem cmpW_val (x y : Vl) : cmpW x y = -1 ∨ cmpW x y = 0 ∨ cmpW x y = 1 := by
  simp only [cmpW]
  have h1 := cmpI_val x.k y.k
  have h2 := cmpI_val x.n y.n
  have h3 := cmpT_val x.s y.s
  (repeat' split) <;> omega
theorem veq_of {x y : Vl} (h : x = y) : x.k = y.k ∧ x.n = y.n ∧ x.s = y.s := by subst h; exact ⟨rfl, rfl, rfl⟩
theorem vl_ext {x y : Vl} (h : x.k = y.k ∧ x.n = y.n ∧ x.s = y.s) : x = y := by
  obtain ⟨k, n, s⟩ := x
  obtain ⟨k', n', s'⟩ := y
  obtain ⟨h1, h2, h3⟩ := h
  simp only at h1 h2 h3
  rw [h1, h2, h3]
/-- The first byte that is 0; if there is none, how many there are. -/
def zf (s : List UInt8) : Nat := s.findIdx fun c => decide (c.toNat = 0)
def cutT (s : List UInt8) (i : Nat) : Nat := if zf s < i then zf s else s.length
theorem zf_le (s : List UInt8) : zf s ≤ s.length := List.findIdx_le_length
theorem zf_at {s : List UInt8} {i : Nat} (h : i < s.length) (hz : (s.getD i 0).toNat = 0) : zf s ≤ i := by
  rcases Nat.lt_or_ge i (zf s) with h1 | h1
  · have := List.not_of_lt_findIdx h1
    simp [List.getD_eq_getElem?_getD, h] at hz
    simp at this
    exact absurd hz this
  · exact h1
theorem zf_ne {s : List UInt8} {i : Nat} (h : i < s.length) (hz : ¬ (s.getD i 0).toNat = 0) : zf s ≠ i := by
  intro he
  have h1 : zf s < s.length := by omega
  have h2 := List.findIdx_getElem (w := h1)
  simp only [decide_eq_true_eq] at h2
  apply hz
  subst he
  rw [List.getD_eq_getElem?_getD, List.getElem?_eq_getElem h]
  exact h2
theorem cutT_hit {s : List UInt8} {i : Nat} (h : i < s.length) (hz : (s.getD i 0).toNat = 0) : min (cutT s i) i = cutT s (i + 1) := by
  have := zf_at h hz
  unfold cutT
  (repeat' split) <;> omega
theorem cutT_miss {s : List UInt8} {i : Nat} (h : i < s.length) (hz : ¬ (s.getD i 0).toNat = 0) : cutT s i = cutT s (i + 1) := by
  have := zf_ne h hz
  unfold cutT
  (repeat' split) <;> omega
theorem cutT_end {s : List UInt8} {i : Nat} (h : s.length ≤ i) : cutT s i = zf s := by
  have := zf_le s
  unfold cutT
  split <;> omega
theorem scan_zf : ∀ (s : List UInt8) (i : Nat), i ≤ 30 → scanT (s ++ [0]) i = if (s.take (zf s)).all okB = true ∧ i + zf s ≤ 30 then .inr (i + zf s) else .inl 3
  | [], i, h => by simp [scanT, zf, h]
  | c :: s, i, h => by
    have e : zf (c :: s) = if c.toNat = 0 then 0 else zf s + 1 := by
      unfold zf
      rw [List.findIdx_cons]
      by_cases hc : c.toNat = 0 <;> simp [hc]
    simp only [List.cons_append, scanT]
    by_cases hc : c.toNat = 0
    · rw [if_pos hc, e, if_pos hc]; simp [h]
    · rw [if_neg hc, e, if_neg hc]
      by_cases h2 : i = 30 ∨ okB c = false
      · rw [if_pos h2, if_neg]
        rintro ⟨h3, h4⟩
        simp only [List.take_succ_cons, List.all_cons, Bool.and_eq_true] at h3
        rcases h2 with h2 | h2
        · omega
        · rw [h3.1] at h2; cases h2
      · rw [if_neg h2, scan_zf s (i + 1) (by omega)]
        have h5 : okB c = true := by cases hq : okB c with | true => rfl | false => exact absurd (.inr hq) h2
        simp only [List.take_succ_cons, List.all_cons, h5, Bool.true_and]
        have e1 : i + 1 + zf s = i + (zf s + 1) := by omega
        rw [e1]
theorem take_text {s : List UInt8} : takeV (2 :: (s ++ [0])) = if mayV ⟨2, 0, s.take (zf s)⟩ = true then (⟨2, 0, s.take (zf s)⟩, (zf s : Int) + 2, 0) else (V0, 0, 3) := by
  simp only [takeV]
  rw [if_neg (by decide), if_pos (by decide), textR_of (scan_zf s 0 (by decide))]
  have hm : mayV ⟨2, 0, s.take (zf s)⟩ = true ↔ ((s.take (zf s)).all okB = true ∧ 0 + zf s ≤ 30) := by
    have := zf_le s
    simp [mayV, Nat.min_eq_left this]
  by_cases h : mayV ⟨2, 0, s.take (zf s)⟩ = true
  · rw [if_pos h, if_pos (hm.1 h)]
    simp only [triT]
    have := zf_le s
    rw [Nat.zero_add, List.take_append_of_le_length this]
  · rw [if_neg h, if_neg (fun hh => h (hm.2 hh))]
    rfl
theorem vt_stepT {s : List UInt8} {i : Nat} (h : i < s.length) (g : (decide (s.length ≤ 30) && (s.take i).all okB) = true) (ok : okB (s.getD i 0) = true) : (decide (s.length ≤ 30) && (s.take (i + 1)).all okB) = true := by
  simp only [Bool.and_eq_true] at g ⊢
  exact ⟨g.1, all_snoc h g.2 ok⟩
theorem vt_stepF {s : List UInt8} {i : Nat} (h : i < s.length) (g : (decide (s.length ≤ 30) && (s.take i).all okB) = false) : (decide (s.length ≤ 30) && (s.take (i + 1)).all okB) = false := by
  rw [take_snoc h, List.all_append, ← Bool.and_assoc, g]; rfl
theorem vt_stepX {s : List UInt8} {i : Nat} (h : i < s.length) (ok : okB (s.getD i 0) = false) : (decide (s.length ≤ 30) && (s.take (i + 1)).all okB) = false := by
  rw [take_snoc h, List.all_append]
  simp only [List.all_cons, List.all_nil, ok, Bool.false_and, Bool.and_false]
theorem vt_end {s : List UInt8} {i : Nat} (h : s.length ≤ i) : (decide (s.length ≤ 30) && (s.take i).all okB) = mayV ⟨2, 0, s⟩ := by
  rw [List.take_of_length_le h]
  simp [mayV, Bool.and_comm]
end Go.Proofs.Ytpmnljffdofkeaa

/- What rows are, plainly. -/
namespace Go.Proofs.Ytpmnljffdofkeaa
open Go.Gx
def cellsV (x : Vl) : List Value := [.int .i64 x.k, .int .i64 x.n, .string (bs x.s)]
theorem one_val (l : List Vl) : (l.flatMap cellsV).all Value.oneCell' = true := by
  rw [List.all_eq_true]; intro u hu
  obtain ⟨x, _, hx⟩ := List.mem_flatMap.1 hu
  simp [cellsV] at hx; rcases hx with rfl | rfl | rfl <;> rfl
theorem el_flat {α : Type} {f : α → List Value} {sz : Nat} (hf : ∀ u, (f u).length = sz) (hp : 0 < sz) {l : List α} {d : α} {e : Int} {i : Nat} (he : e = (i : Int)) (h : i < l.length) {j : Nat} {u : Value} (hu : (f (l.getD i d))[j]? = some u) :
    (l.flatMap f)[e.toNat * sz + j]? = some u := by
  have hj : j < sz := by rw [← hf (l.getD i d)]; exact (List.getElem?_eq_some_iff.1 hu).1
  subst he
  rw [flat_get hp l fun v _ => hf v]
  have e1 : ((i : Int).toNat * sz + j) / sz = i := by rw [Int.toNat_natCast, Nat.add_comm, Nat.add_mul_div_right _ _ hp, Nat.div_eq_of_lt hj, Nat.zero_add]
  have e2 : ((i : Int).toNat * sz + j) % sz = j := by rw [Int.toNat_natCast, Nat.add_comm, Nat.add_mul_mod_self_right, Nat.mod_eq_of_lt hj]
  rw [e1, e2, List.getElem?_eq_getElem h]
  simpa [List.getD_eq_getElem?_getD, h] using hu
theorem el_val {l : List Vl} {e : Int} {i j : Nat} {u : Value} (he : e = (i : Int)) (h : i < l.length) (hu : (cellsV (l.getD i V0))[j]? = some u) : (l.flatMap cellsV)[e.toNat * 3 + j]? = some u :=
  el_flat (f := cellsV) (sz := 3) (fun _ => rfl) (by decide) he h hu
theorem snoc {α : Type} {l : List α} {d : α} {i : Nat} (h : i < l.length) : l.take (i + 1) = l.take i ++ [l.getD i d] := by
  rw [List.take_succ_eq_append_getElem h]; simp [List.getD_eq_getElem?_getD, h]
theorem allsnoc {α : Type} {p : α → Bool} {l : List α} {d : α} {i : Nat} (h : i < l.length) (ha : (l.take i).all p = true) (hb : p (l.getD i d) = true) : (l.take (i + 1)).all p = true := by
  rw [snoc (d := d) h, List.all_append, ha]; simp only [List.all_cons, hb, List.all_nil]; rfl
theorem allbad {α : Type} {p : α → Bool} {l : List α} {d : α} {i : Nat} (h : i < l.length) (hb : p (l.getD i d) = false) : l.all p = false := by
  rw [List.all_eq_false]
  exact ⟨l.getD i d, by rw [List.getD_eq_getElem?_getD, List.getElem?_eq_getElem h]; exact List.getElem_mem h, by rw [hb]; simp⟩
theorem allwhole {α : Type} {p : α → Bool} {l : List α} {i : Nat} (h : l.length ≤ i) (ha : (l.take i).all p = true) : l.all p = true := by
  rwa [List.take_of_length_le h] at ha
theorem ok_at {α : Type} {R : α → Prop} {l : List α} {d : α} {i : Nat} (ho : ∀ x ∈ l, R x) (h : i < l.length) : R (l.getD i d) := by
  rw [List.getD_eq_getElem?_getD, List.getElem?_eq_getElem h]; exact ho _ (List.getElem_mem h)
def mayR (l : List Vl) : Bool := l.all mayV && decide (1 ≤ l.length ∧ l.length ≤ 6)
def putR (l : List Vl) : List UInt8 := if mayR l then UInt8.ofNat l.length :: l.flatMap keyV else []
theorem flat_le {key : Vl → List UInt8} {n : Nat} : ∀ {l : List Vl}, (∀ x ∈ l, (key x).length ≤ n) → (l.flatMap key).length ≤ l.length * n
  | [], _ => by simp
  | x :: l, h => by rw [List.flatMap_cons, List.length_append, List.length_cons, Nat.add_mul]; have := h x (by simp); have := flat_le (n := n) (l := l) fun y hy => h y (by simp [hy]); omega
theorem may_of {l : List Vl} (h : mayR l = true) : ∀ x ∈ l, mayV x = true := by
  unfold mayR at h; simp only [Bool.and_eq_true, List.all_eq_true] at h; exact h.1
theorem mayR_len {l : List Vl} (h : mayR l = true) : 1 ≤ l.length ∧ l.length ≤ 6 := by
  unfold mayR at h; simp only [Bool.and_eq_true, decide_eq_true_eq] at h; exact h.2
theorem may_at {l : List Vl} {i : Nat} (h : mayR l = true) (hi : i < l.length) : mayV (l.getD i V0) = true := ok_at (may_of h) hi
theorem keyV_39 {x : Vl} (h : mayV x = true) : (keyV x).length ≤ 39 := by have := keyV_le x; have := may_len h; omega
theorem acc_le {l : List Vl} {i : Nat} (h : mayR l = true) : ((l.take i).flatMap keyV).length ≤ 234 := by
  have h1 := flat_le (key := keyV) (n := 39) (l := l.take i) fun x hx => keyV_39 (may_of h x (List.mem_of_mem_take hx))
  have h2 := mayR_len h
  have h3 : (l.take i).length ≤ 6 := by simp; omega
  omega
/-- So many values of bytes: the values, the bytes behind them, the error. -/
def manyA (acc : List Vl) : Nat → List UInt8 → List Vl × List UInt8 × Int
  | 0, b => (acc, b, 0)
  | n + 1, b => if (takeV b).2.2 ≠ 0 then ([], b.drop (takeV b).2.1.toNat, (takeV b).2.2) else manyA (acc ++ [(takeV b).1]) n (b.drop (takeV b).2.1.toNat)
theorem many_end {acc : List Vl} {b : List UInt8} : manyA acc 0 b = (acc, b, 0) := rfl
theorem many_bad {acc : List Vl} {n i : Nat} {b : List UInt8} (hi : i < n) (h : (takeV b).2.2 ≠ 0) : manyA acc (n - i) b = ([], b.drop (takeV b).2.1.toNat, (takeV b).2.2) := by
  obtain ⟨k, hk⟩ : ∃ k, n - i = k + 1 := ⟨n - i - 1, by omega⟩
  rw [hk, manyA, if_pos h]
theorem many_step {acc : List Vl} {n i : Nat} {b : List UInt8} (hi : i < n) (h : (takeV b).2.2 = 0) : manyA acc (n - i) b = manyA (acc ++ [(takeV b).1]) (n - (i + 1)) (b.drop (takeV b).2.1.toNat) := by
  obtain ⟨k, hk⟩ : ∃ k, n - i = k + 1 := ⟨n - i - 1, by omega⟩
  rw [hk, manyA, if_neg (by simpa using h)]
  congr 1; omega
def takeR (b : List UInt8) : List Vl × Int :=
  if b.length = 0 then ([], 2) else if (b.getD 0 0).toNat < 1 ∨ 6 < (b.getD 0 0).toNat then ([], 3)
  else if (manyA [] (b.getD 0 0).toNat (b.drop 1)).2.2 ≠ 0 then ([], (manyA [] (b.getD 0 0).toNat (b.drop 1)).2.2)
  else if 0 < (manyA [] (b.getD 0 0).toNat (b.drop 1)).2.1.length then ([], 3) else ((manyA [] (b.getD 0 0).toNat (b.drop 1)).1, 0)
def lightR (l : List Vl) : Bool := l.all (fun x : Vl => decide (x.s.length ≤ 200)) && decide (l.length ≤ 20)
instance : DecidableEq Vl := fun x y => if h : x.k = y.k ∧ x.n = y.n ∧ x.s = y.s then isTrue (vl_ext h) else isFalse (fun e => h (by subst e; exact ⟨rfl, rfl, rfl⟩))
theorem scanT_val : ∀ (b : List UInt8) (i : Nat), (∃ j, scanT b i = .inr j ∧ i ≤ j ∧ j < i + b.length) ∨ scanT b i = .inl 2 ∨ scanT b i = .inl 3
  | [], i => .inr (.inl rfl)
  | c :: r, i => by
    unfold scanT
    split
    · exact .inl ⟨i, rfl, by omega, by simp⟩
    · split
      · exact .inr (.inr rfl)
      · rcases scanT_val r (i + 1) with ⟨j, h1, h2, h3⟩ | h | h
        · exact .inl ⟨j, h1, by omega, by simp; omega⟩
        · exact .inr (.inl h)
        · exact .inr (.inr h)
/-- How many bytes are read: no more than there are; the error is 0, 2 or 3. -/
theorem takeV_len (b : List UInt8) : 0 ≤ (takeV b).2.1 ∧ (takeV b).2.1 ≤ b.length ∧ ((takeV b).2.2 = 0 ∨ (takeV b).2.2 = 2 ∨ (takeV b).2.2 = 3) := by
  unfold takeV
  split
  · simp [V0]
  · rename_i c r
    split
    · split
      · simp; omega
      · rename_i hh; simp at hh ⊢; omega
    · split
      · unfold textR
        rcases scanT_val r 0 with ⟨j, h1, h2, h3⟩ | h | h
        · rw [h1]; simp [triT]; omega
        · rw [h]; simp [triT]; omega
        · rw [h]; simp [triT]; omega
      · simp; omega
theorem takeV_ok (b : List UInt8) (h : b.length ≤ 9223372036854775807) : OkV (takeV b).1 := by
  unfold takeV
  split
  · simp [V0, OkV]
  · rename_i c r
    split
    · split
      · simp [V0, OkV]
      · have := ofBe_8 (l := r.take 8) (by simp; omega)
        simp [OkV]; omega
    · split
      · unfold textR
        rcases scanT_val r 0 with ⟨j, h1, h2, h3⟩ | h | h
        · rw [h1]; simp [triT, OkV]; simp at h; omega
        · rw [h]; simp [triT, V0, OkV]
        · rw [h]; simp [triT, V0, OkV]
      · simp [V0, OkV]
theorem many_ok : ∀ (n : Nat) (acc : List Vl) (b : List UInt8), b.length ≤ 9223372036854775807 → (∀ x ∈ acc, OkV x) → ∀ x ∈ (manyA acc n b).1, OkV x
  | 0, acc, b, _, ha => by rw [many_end]; exact ha
  | n + 1, acc, b, hb, ha => by
    rw [manyA]
    split
    · simp
    · refine many_ok n _ _ (by simp; omega) fun x hx => ?_
      rcases List.mem_append.1 hx with hx | hx
      · exact ha x hx
      · simp at hx; subst hx; exact takeV_ok b hb
theorem takeR_ok {b : List UInt8} (hb : b.length ≤ 9223372036854775807) : ∀ x ∈ (takeR b).1, OkV x := by
  unfold takeR
  split
  · simp
  · split
    · simp
    · split
      · simp
      · split
        · simp
        · exact many_ok _ _ _ (by simp; omega) (by simp)
theorem many_len : ∀ (n : Nat) (acc : List Vl) (b : List UInt8), (manyA acc n b).1.length ≤ acc.length + n
  | 0, acc, b => by rw [many_end]; exact Nat.le_refl _
  | n + 1, acc, b => by
    rw [manyA]
    split
    · simp
    · have := many_len n (acc ++ [(takeV b).1]) (b.drop (takeV b).2.1.toNat)
      simp at this; omega
theorem takeR_len (b : List UInt8) : (takeR b).1.length ≤ 255 := by
  unfold takeR
  have := many_len (b.getD 0 0).toNat [] (b.drop 1)
  have h2 := (b.getD 0 0).toNat_lt
  split
  · simp
  · split
    · simp
    · split
      · simp
      · split
        · simp
        · exact Nat.le_trans this (by rw [List.length_nil]; omega)
theorem putR_le (l : List Vl) : (putR l).length ≤ 235 := by
  unfold putR
  split
  · rename_i h
    have := acc_le (i := l.length) h
    simp at this ⊢; omega
  · simp
end Go.Proofs.Ytpmnljffdofkeaa

/- What labels are, plainly. -/
namespace Go.Proofs.Ytpmnljffdofkeaa
open Go.Gx
abbrev Lb := List UInt16
/-- Tags that rise, each once. -/
def Rise (l : Lb) : Prop := l.Pairwise (fun a b => a.toNat < b.toNat)
instance (l : Lb) : Decidable (Rise l) := List.instDecidablePairwise l
def mayL (l : Lb) : Bool := decide (Rise l) && decide (l.length ≤ 8)
theorem rise_nil : Rise [] := List.Pairwise.nil
theorem rise_one {l : Lb} : Rise (l.take 1) := by
  cases l with
  | nil => exact List.Pairwise.nil
  | cons a l => simp [Rise]
theorem rise_at {l : Lb} {i j : Nat} (h : Rise l) (hij : i < j) (hj : j < l.length) : (l.getD i 0).toNat < (l.getD j 0).toNat := by
  have := List.pairwise_iff_getElem.1 h i j (by omega) hj hij
  simpa [List.getD_eq_getElem?_getD, show i < l.length by omega, hj] using this
theorem rise_step {l : Lb} {i : Nat} (hi : 0 < i) (hl : i < l.length) (h : Rise (l.take i)) (hlt : (l.getD (i - 1) 0).toNat < (l.getD i 0).toNat) : Rise (l.take (i + 1)) := by
  rw [snoc (d := 0) hl]
  refine List.pairwise_append.2 ⟨h, by simp, fun a ha b hb => ?_⟩
  simp at hb; subst hb
  obtain ⟨j, hj, rfl⟩ := List.getElem_of_mem ha
  have hj' : j < i := by simp at hj; omega
  rw [List.getElem_take]
  have e : l[j]'(by omega) = l.getD j 0 := by simp [List.getD_eq_getElem?_getD, show j < l.length by omega]
  have e2 : l[i]?.getD 0 = l.getD i 0 := by simp [List.getD_eq_getElem?_getD]
  rw [e]
  try rw [e2]
  rcases Nat.lt_or_ge j (i - 1) with h1 | h1
  · have h2 := rise_at (i := j) (j := i - 1) h h1 (by simp; omega)
    have e3 : (l.take i).getD j 0 = l.getD j 0 := by simp [List.getD_eq_getElem?_getD, List.getElem?_take, hj']
    have e4 : (l.take i).getD (i - 1) 0 = l.getD (i - 1) 0 := by simp [List.getD_eq_getElem?_getD, List.getElem?_take, show i - 1 < i by omega]
    rw [e3, e4] at h2
    omega
  · have : j = i - 1 := by omega
    subst this; exact hlt
theorem rise_bad {l : Lb} {i : Nat} (hi : 0 < i) (hl : i < l.length) (h : ¬ (l.getD (i - 1) 0).toNat < (l.getD i 0).toNat) : ¬ Rise l := fun hr => h (rise_at hr (by omega) hl)
theorem mayL_rise {l : Lb} (h : mayL l = true) : Rise l := by unfold mayL at h; simp only [Bool.and_eq_true, decide_eq_true_eq] at h; exact h.1
theorem mayL_len {l : Lb} (h : mayL l = true) : l.length ≤ 8 := by unfold mayL at h; simp only [Bool.and_eq_true, decide_eq_true_eq] at h; exact h.2
/-- How labels stand: fewer tags first. -/
def cmpG : Lb → Lb → Int
  | [], [] => 0
  | [], _ :: _ => -1
  | _ :: _, [] => 1
  | a :: l, b :: m => if a.toNat < b.toNat then -1 else if b.toNat < a.toNat then 1 else cmpG l m
def cmpL (a b : Lb) : Int := if a.length < b.length then -1 else if b.length < a.length then 1 else cmpG a b
theorem cmpG_step {a b : Lb} {i : Nat} (ha : i < a.length) (hb : i < b.length) : cmpG (a.drop i) (b.drop i) = if (a.getD i 0).toNat < (b.getD i 0).toNat then -1 else if (b.getD i 0).toNat < (a.getD i 0).toNat then 1 else cmpG (a.drop (i + 1)) (b.drop (i + 1)) := by
  rw [List.drop_eq_getElem_cons ha, List.drop_eq_getElem_cons hb]
  simp [cmpG, List.getD_eq_getElem?_getD, ha, hb]
theorem cmpG_end {a b : Lb} {i : Nat} (ha : a.length ≤ i) (hb : b.length ≤ i) : cmpG (a.drop i) (b.drop i) = 0 := by
  rw [List.drop_of_length_le ha, List.drop_of_length_le hb]; rfl
theorem cmpG_refl : ∀ (a : Lb), cmpG a a = 0
  | [] => rfl
  | a :: l => by simp [cmpG, cmpG_refl l]
theorem cmpG_eq : ∀ {a b : Lb}, cmpG a b = 0 → a = b
  | [], [], _ => rfl
  | [], _ :: _, h => by simp [cmpG] at h
  | _ :: _, [], h => by simp [cmpG] at h
  | a :: l, b :: m, h => by
    unfold cmpG at h
    split at h
    · simp at h
    · split at h
      · simp at h
      · have : a = b := UInt16.toNat_inj.1 (by omega)
        rw [this, cmpG_eq h]
theorem cmpL_zero {a b : Lb} : cmpL a b = 0 ↔ a = b := by
  constructor
  · intro h
    unfold cmpL at h
    split at h
    · simp at h
    · split at h
      · simp at h
      · exact cmpG_eq h
  · rintro rfl; simp [cmpL, cmpG_refl]
def be2 (t : UInt16) : List UInt8 := [UInt8.ofNat (t.toNat / 256), UInt8.ofNat t.toNat]
theorem flat_len' : ∀ (l : Lb), (l.flatMap be2).length = l.length * 2
  | [] => rfl
  | a :: l => by rw [List.flatMap_cons, List.length_append, flat_len' l, List.length_cons]; simp [be2]; omega
/-- A label's bytes. -/
def putL (l : Lb) : List UInt8 := UInt8.ofNat l.length :: l.flatMap be2
theorem flat_len2 (l : Lb) : (l.flatMap be2).length = l.length * 2 := flat_len' l
theorem putL_len (l : Lb) : (putL l).length = 1 + l.length * 2 := by rw [putL, List.length_cons, flat_len']; omega
/-- The tags that bytes say. -/
def tagsL (n : Nat) (b : List UInt8) : Lb := (List.range n).map fun i => UInt16.ofNat ((b.getD (1 + 2 * i) 0).toNat * 256 + (b.getD (2 + 2 * i) 0).toNat)
theorem tags_step {n : Nat} {b : List UInt8} : tagsL (n + 1) b = tagsL n b ++ [UInt16.ofNat ((b.getD (1 + 2 * n) 0).toNat * 256 + (b.getD (2 + 2 * n) 0).toNat)] := by
  simp [tagsL, List.range_succ]
theorem tags_len (n : Nat) (b : List UInt8) : (tagsL n b).length = n := by simp [tagsL]
/-- What is read of bytes: a label, how many, the error. -/
def takeL (b : List UInt8) : Lb × Int × Int :=
  if b.length = 0 then ([], 0, 2) else if 8 < (b.getD 0 0).toNat then ([], 0, 3) else if b.length < 1 + 2 * (b.getD 0 0).toNat then ([], 0, 2)
  else if Rise (tagsL (b.getD 0 0).toNat b) then (tagsL (b.getD 0 0).toNat b, ((1 + 2 * (b.getD 0 0).toNat : Nat) : Int), 0) else ([], 0, 3)
theorem takeL_len (b : List UInt8) : 0 ≤ (takeL b).2.1 ∧ (takeL b).2.1 ≤ b.length ∧ ((takeL b).2.2 = 0 ∨ (takeL b).2.2 = 2 ∨ (takeL b).2.2 = 3) ∧ (takeL b).1.length ≤ 8 := by
  unfold takeL
  split
  · simp
  · split
    · simp
    · split
      · simp
      · split
        · refine ⟨by simp only; omega, by simp only; omega, .inl rfl, ?_⟩
          show (tagsL _ b).length ≤ 8
          rw [tags_len]; omega
        · simp
/-- A key of a value, a label, a number. -/
def keyX (x : Vl) (l : Lb) (n : Nat) : List UInt8 := keyV x ++ putL l ++ be8 n
/-- What is read of bytes: a value, a label, a number, the error. -/
def takeX (b : List UInt8) : Vl × Lb × Nat × Int :=
  if (takeV b).2.2 ≠ 0 then (V0, [], 0, (takeV b).2.2)
  else if (takeL (b.drop (takeV b).2.1.toNat)).2.2 ≠ 0 then (V0, [], 0, (takeL (b.drop (takeV b).2.1.toNat)).2.2)
  else if (b.drop ((takeV b).2.1.toNat + (takeL (b.drop (takeV b).2.1.toNat)).2.1.toNat)).length < 8 then (V0, [], 0, 2)
  else if 8 < (b.drop ((takeV b).2.1.toNat + (takeL (b.drop (takeV b).2.1.toNat)).2.1.toNat)).length then (V0, [], 0, 3)
  else ((takeV b).1, (takeL (b.drop (takeV b).2.1.toNat)).1, ofBe (b.drop ((takeV b).2.1.toNat + (takeL (b.drop (takeV b).2.1.toNat)).2.1.toNat)), 0)
theorem takeX_lab (b : List UInt8) : (takeX b).2.1.length ≤ 8 := by
  unfold takeX
  have := takeL_len (b.drop (takeV b).2.1.toNat)
  (repeat' split) <;> first | exact this.2.2.2 | simp
end Go.Proofs.Ytpmnljffdofkeaa

/- Lists of tags put in order, plainly: what stands twice goes; the one rising list of what a list holds. -/
namespace Go.Proofs.Ytpmnljffdofkeaa
open Go.Gx Go.Sort Go.RowKit
def dd : List UInt16 → List UInt16
  | [] => []
  | [x] => [x]
  | x :: y :: r => if x = y then dd (y :: r) else x :: dd (y :: r)
theorem dd_snoc : ∀ (l : List UInt16) (x y : UInt16), dd (l ++ [x, y]) = if x = y then dd (l ++ [x]) else dd (l ++ [x]) ++ [y]
  | [], x, y => by by_cases h : x = y <;> simp [dd, h]
  | [a], x, y => by
    have ih := dd_snoc [] x y
    simp only [List.nil_append] at ih
    simp only [List.cons_append, List.nil_append]
    rw [dd, ih]; by_cases h : x = y <;> by_cases h2 : a = x <;> simp [dd, h, h2]
  | a :: b :: l, x, y => by
    have ih := dd_snoc (b :: l) x y
    simp only [List.cons_append] at ih ⊢
    rw [dd, ih, dd]; by_cases h : x = y <;> by_cases h2 : a = b <;> simp [h, h2]
theorem ar_take {d : Ar} {i : Nat} (h : i < d.size) : d.toList.take (i + 1) = d.toList.take i ++ [d[i]!] := by
  have h' : i < d.toList.length := by simpa using h
  rw [List.take_add_one, List.getElem?_eq_getElem h']
  simp [h]
theorem dd_step {d : Ar} {i : Nat} (h0 : 1 ≤ i) (h : i < d.size) : dd (d.toList.take (i + 1)) = if d[i - 1]! = d[i]! then dd (d.toList.take i) else dd (d.toList.take i) ++ [d[i]!] := by
  have e : d.toList.take i = d.toList.take (i - 1) ++ [d[i - 1]!] := by
    have := ar_take (d := d) (i := i - 1) (by omega)
    rwa [show i - 1 + 1 = i by omega] at this
  rw [ar_take h, e, List.append_assoc]
  exact dd_snoc _ _ _
theorem dd_one {d : Ar} (h : 1 ≤ d.size) : dd (d.toList.take 1) = d.toList.take 1 := by
  rcases hl : d.toList with _ | ⟨a, r⟩
  · rfl
  · rfl
theorem dd_same {d : Ar} {i : Nat} (h0 : 1 ≤ i) (h : i < d.size) (hs : dd (d.toList.take i) = d.toList.take i) (hne : ¬ d[i]! = d[i - 1]!) : dd (d.toList.take (i + 1)) = d.toList.take (i + 1) := by
  rw [dd_step h0 h, if_neg (fun e => hne e.symm), hs, ar_take h]
theorem dd_short {d : Ar} (h : d.size < 2) : dd d.toList = d.toList := by
  rcases hl : d.toList with _ | ⟨a, _ | ⟨b, r⟩⟩
  · rfl
  · rfl
  · have := congrArg List.length hl; simp at this; omega
theorem dd_full {d : Ar} {n : Nat} (hd : d.size = n) (hs : dd (d.toList.take n) = d.toList.take n) : dd d.toList = d.toList := by
  have e : d.toList.take n = d.toList := by rw [List.take_of_length_le]; simp [hd]
  rwa [e] at hs
/-- the round in which what is new is kept -/
theorem dd_keep {d dk : Ar} {i k : Nat} (h0 : 1 ≤ i) (h : i < d.size) (hk : k < i) (hz : dk.size = d.size) (hdd : dk.toList.take k = dd (d.toList.take i)) (hsame : ∀ j, k ≤ j → dk[j]! = d[j]!) (hne : ¬ d[i]! = d[i - 1]!) :
    (dk.setIfInBounds k d[i]!).toList.take (k + 1) = dd (d.toList.take (i + 1)) ∧ ∀ j, k + 1 ≤ j → (dk.setIfInBounds k d[i]!)[j]! = d[j]! := by
  constructor
  · rw [dd_step h0 h, if_neg (fun e => hne e.symm), ← hdd, ar_take (by simp; omega)]
    congr 1
    · rw [Array.toList_setIfInBounds, List.take_set_of_le (Nat.le_refl _)]
    · rw [Array.getElem!_eq_getD, Array.getD, dif_pos (by simp; omega)]; simp
  · intro j hj
    rw [← hsame j (by omega)]
    generalize d[i]! = z
    have hkj : k ≠ j := by omega
    simp [getElem!_def, Array.getElem?_setIfInBounds, hkj]
theorem u16_eq {x y : UInt16} (h : (x.toNat : Int) = (y.toNat : Int)) : x = y := UInt16.toNat_inj.1 (by omega)
def clr (d : Ar) (k : Nat) : Ar := (d.toList.take k ++ List.replicate (d.size - k) 0).toArray
theorem clr_cs {d : Ar} {n k : Nat} (hd : d.size = n) : (d.toList.map u16v).take k ++ List.replicate (n - k) (Value.int .u16 0) = (clr d k).toList.map u16v := by
  subst hd; simp [clr, u16v]
theorem clr_take {d : Ar} {k : Nat} (hk : k ≤ d.size) : (clr d k).toList.take k = d.toList.take k := by
  simp [clr, List.take_append, hk]
theorem el_arr_tail {d : Ar} {e : Int} {i k : Nat} (he : e = (i : Int)) (h : k + i < d.size) : ((d.toList.map u16v).drop k)[e.toNat * 1 + 0]? = some (Value.int .u16 (d[k + i]!.toNat : Int)) := by
  subst he
  have e1 : d[k + i]! = d[k + i] := by simp [h]
  rw [e1]; simp [u16v, h]
end Go.Proofs.Ytpmnljffdofkeaa

/- Walks, written by a program: what each function of the translation hands back. -/
namespace Go.Proofs.Ytpmnljffdofkeaa
open Go.Gx Go.RowKit
attribute [local irreducible] wpList wpStill Code.wp Calls
open Go.Sort (insertionSort insOuter insInner swp siftDown heapSort heapBuild heapPop scanUp scanDown partition partLoop partitionEqual partEqLoop scanSorted partialIns bitsLen partialInsertionSort shiftDown shiftUp SortedIn reverseRange reverseLoop fixDown fixUp)
theorem compW_ret (d : Ar) (v : Value) (n base : Nat) (z0 : Nat) (w : World) (hd : d.size = n) (hn : n ≤ 4000000000000000000) (O : Own w base 35 1 v n (d.toList.map u16v)) : Ret Try.prog 58 #[v] w (fun v' w' => w.grownBy w' v.ownBlock ∧ v'.ownBlock = v.ownBlock ∧ Own w' base 35 1 v' (dd d.toList).length ((dd d.toList).map u16v)) := by
 have hb := grown_refl w v.ownBlock
 refine enter (N := 61) Try.func58 rfl rfl (by simp) fun a0 hN hd hA => ?_
 have s0 : a0.tmps.getD 0 undef = v := hA 0 (by simp)
 clear hA
 refine seq_any fun K573 hK573 => ?_
 refine one_reg ?_
 refine op_assign rfl ?_
 refine reg_nil ?_
 refine hK573 _ _ ?_
 refine seq_any fun K574 hK574 => ?_
 refine seq_any fun K575 hK575 => ?_
 refine one_reg ?_
 refine op_move (ev_base hN rfl s0) ?_
 refine op_len_rd Try.underlying22 (ev_hit hN rfl) O.rdw ?_
 refine op_lss (ev_hit hN rfl) rfl (fun c8 => ?_) (fun c8 => ?_)
 · -- 8T
  refine reg_nil ?_
  refine hK575 _ _ ?_
  refine wp_cond_true (ev_hit hN rfl) ?_
  refine seq_any fun K576 hK576 => ?_
  refine one_reg ?_
  refine op_move (ev_base hN rfl s0) ?_
  refine op_assign (ev_hit hN rfl) ?_
  refine reg_nil ?_
  refine hK576 _ _ ?_
  refine wp_ret (then_ret ( ?_))
  refine ret1 rfl hd (ev_hit hN rfl) ⟨_, rfl, ?_⟩
  -- path 8T
  have hzl : d.toList.length = n := by simp; assumption
  exact ⟨hb, rfl, by rw [dd_short (by omega), hzl]; exact O⟩
 · -- 8F
  refine reg_nil ?_
  refine hK575 _ _ ?_
  refine wp_cond_false (ev_hit hN rfl) ?_
  refine wp_skip ?_
  refine hK574 _ _ ?_
  refine seq_any fun K577 hK577 => ?_
  refine seq_any fun K578 hK578 => ?_
  refine one_reg ?_
  refine op_assign rfl ?_
  refine reg_nil ?_
  refine hK578 _ _ ?_
  refine wp_block ?_
  refine loop_m (fun mz_ az_ w' => ∃ (i : Nat), mz_ = (n + 1 - i) ∧ (az_.tmps.getD 0 undef = v) ∧ (az_.tmps.getD 3 undef = (Value.int .i64 ((i : Nat) : Int))) ∧ (1 ≤ i ∧ i ≤ n) ∧ (dd (d.toList.take i) = d.toList.take i) ∧ (w.grownBy w' v.ownBlock) ∧ (w.heap.size ≤ w'.heap.size) ∧ (Own w' base 35 1 v n (d.toList.map u16v))) _ hN hd ⟨1, rfl, (sl_base hN rfl s0), (sl_hit hN rfl).trans (congrArg (Value.int .i64) (by omega)), (by omega), (dd_one (by omega)), hb, (Nat.le_refl _), O⟩ ?_
  rintro _ a579 w579 hN579 hd579 ⟨i, rfl, s579_0, s579_3, hi, hsm, hb, zl_w579, O⟩
  have z_w579 := hb.size
  refine seq_any fun K580 hK580 => ?_
  refine seq_any fun K581 hK581 => ?_
  refine one_reg ?_
  refine op_move (ev_base hN579 rfl s579_3) ?_
  refine op_move (ev_base hN579 rfl s579_0) ?_
  refine op_len_rd Try.underlying22 (ev_hit hN579 rfl) O.rdw ?_
  refine op_lss (ev_hit hN579 rfl) (ev_hit hN579 rfl) (fun c13 => ?_) (fun c13 => ?_)
  · -- 13T
   refine reg_nil ?_
   refine hK581 _ _ ?_
   refine wp_cond_true (ev_hit hN579 rfl) ?_
   refine wp_skip ?_
   refine hK580 _ _ ?_
   refine seq_any fun K582 hK582 => ?_
   refine wp_block ?_
   refine seq_any fun K583 hK583 => ?_
   refine reg_still mixed (by kernel_rfl) ?_
   intro w585 E584
   have z_w585 := E584.size
   have O := O.keep0 E584
   have hb := grow_step0 hb E584
   refine st_step rfl (fun _ h9 => op_move (ev_base hN579 rfl s579_0) h9) ?_
   refine st_step rfl (fun _ h9 => op_move (ev_base hN579 rfl s579_3) h9) ?_
   refine st_index_rd slt22 (ev_hit hN579 rfl) O.rdw (ev_hit hN579 rfl) (by omega) (by omega) ?_
   intro b586 o587 h0b586 h1b586 hc588
   refine st_step rfl (fun _ h9 => op_load1 (v := (Value.int .u16 (d[i]!.toNat : Int))) one35 (ev_hit hN579 rfl) (by have := hc588 0 (Value.int .u16 (d[i]!.toNat : Int)) (by decide) (el_arr (i := i) (by omega) (by first | omega | (simp only [Array.size_setIfInBounds, swp_sz, siftDown_size]; omega))); simpa using this) h9) ?_
   refine st_step rfl (fun _ h9 => op_move (ev_base hN579 rfl s579_0) h9) ?_
   refine st_step rfl (fun _ h9 => op_move (ev_base hN579 rfl s579_3) h9) ?_
   refine st_step rfl (fun _ h9 => op_sub (ev_hit hN579 rfl) rfl (sub64 (by omega)) h9) ?_
   refine st_index_rd slt22 (ev_hit hN579 rfl) O.rdw (ev_hit hN579 rfl) (by omega) (by omega) ?_
   intro b589 o590 h0b589 h1b589 hc591
   refine st_step rfl (fun _ h9 => op_load1 (v := (Value.int .u16 (d[(i - 1)]!.toNat : Int))) one35 (ev_hit hN579 rfl) (by have := hc591 0 (Value.int .u16 (d[(i - 1)]!.toNat : Int)) (by decide) (el_arr (i := (i - 1)) (by omega) (by first | omega | (simp only [Array.size_setIfInBounds, swp_sz, siftDown_size]; omega))); simpa using this) h9) ?_
   refine st_step rfl (fun _ h9 => op_cmp (b := (decide ((d[i]!.toNat : Int) = (d[(i - 1)]!.toNat : Int)))) (ev_hit hN579 rfl) (ev_hit hN579 rfl) (b_eql rfl) h9) ?_
   refine st_nil ?_
   refine hK583 _ _ ?_
   refine wp_cond_split (ev_hit hN579 rfl) (fun c25 => ?_) (fun c25 => ?_)
   · -- 25T
    have c25 := of_decide_eq_true c25
    refine seq_any fun K592 hK592 => ?_
    refine one_reg ?_
    refine op_move (ev_base hN579 rfl s579_0) ?_
    refine op_move (ev_base hN579 rfl s579_3) ?_
    refine op_slice_tail (k := i) slt22 (ev_hit hN579 rfl) O.rdw (by omega) (ev_hit hN579 rfl) (by omega) ?_
    refine op_assign (ev_hit hN579 rfl) ?_
    refine reg_nil ?_
    refine hK592 _ _ ?_
    refine seq_any fun K593 hK593 => ?_
    refine seq_any fun K594 hK594 => ?_
    refine one_reg ?_
    refine op_assign rfl ?_
    refine reg_nil ?_
    refine hK594 _ _ ?_
    refine wp_block ?_
    refine loop_m (fun mz_ az_ w' => ∃ (k2 kk : Nat) (dk : Ar), mz_ = (n + 1 - k2) ∧ (az_.tmps.getD 0 undef = v) ∧ (az_.tmps.getD 4 undef = (tailV v i)) ∧ (az_.tmps.getD 5 undef = (Value.int .i64 ((k2 : Nat) : Int))) ∧ (az_.tmps.getD 3 undef = (Value.int .i64 ((kk : Nat) : Int))) ∧ (dk.size = n) ∧ (1 ≤ k2 ∧ i + k2 ≤ n ∧ 1 ≤ kk ∧ kk < i + k2) ∧ (dk.toList.take kk = dd (d.toList.take (i + k2))) ∧ (∀ j9, kk ≤ j9 → dk[j9]! = d[j9]!) ∧ (w.grownBy w' v.ownBlock) ∧ (w585.heap.size ≤ w'.heap.size) ∧ (Own w' base 35 1 v n (dk.toList.map u16v))) _ hN579 hd579 ⟨1, i, _, rfl, (sl_base hN579 rfl s579_0), (sl_hit hN579 rfl), (sl_hit hN579 rfl).trans (congrArg (Value.int .i64) (by omega)), (sl_base hN579 rfl s579_3).trans (congrArg (Value.int .i64) (by omega)), (by first | assumption | (simp only [Array.size_setIfInBounds, swp_sz, siftDown_size]; assumption)), (by omega), (by rw [dd_step (by omega) (by omega), if_pos (u16_eq c25).symm, hsm]), (fun _ _ => rfl), hb, (Nat.le_refl _), O⟩ ?_
    rintro _ a595 w595 hN595 hd595 ⟨k2, kk, dk, rfl, s595_0, s595_4, s595_5, s595_3, hdk, hr2, hdd, hsame, hb, zl_w595, hO596⟩
    have z_w595 := hb.size
    refine seq_any fun K597 hK597 => ?_
    refine seq_any fun K598 hK598 => ?_
    refine one_reg ?_
    refine op_move (ev_base hN595 rfl s595_5) ?_
    refine op_move (ev_base hN595 rfl s595_4) ?_
    refine op_len_rd Try.underlying22 (ev_hit hN595 rfl) (RdC.tail hO596.rdw (by omega) (by omega)) ?_
    refine op_lss (ev_hit hN595 rfl) (ev_hit hN595 rfl) (fun c32 => ?_) (fun c32 => ?_)
    · -- 32T
     refine reg_nil ?_
     refine hK598 _ _ ?_
     refine wp_cond_true (ev_hit hN595 rfl) ?_
     refine wp_skip ?_
     refine hK597 _ _ ?_
     refine seq_any fun K599 hK599 => ?_
     refine wp_block ?_
     refine seq_any fun K600 hK600 => ?_
     refine reg_still mixed (by kernel_rfl) ?_
     intro w602 E601
     have z_w602 := E601.size
     have hO596 := hO596.keep0 E601
     have hb := grow_step0 hb E601
     refine st_step rfl (fun _ h9 => op_move (ev_base hN595 rfl s595_4) h9) ?_
     refine st_step rfl (fun _ h9 => op_move (ev_base hN595 rfl s595_5) h9) ?_
     refine st_index_rd slt22 (ev_hit hN595 rfl) (RdC.tail hO596.rdw (by omega) (by omega)) (ev_hit hN595 rfl) (by omega) (by omega) ?_
     intro b603 o604 h0b603 h1b603 hc605
     refine st_step rfl (fun _ h9 => op_load1 (v := (Value.int .u16 (dk[i + k2]!.toNat : Int))) one35 (ev_hit hN595 rfl) (by have := hc605 0 (Value.int .u16 (dk[i + k2]!.toNat : Int)) (by decide) (el_arr_tail (i := k2) (by omega) (by omega)); simpa using this) h9) ?_
     refine st_step rfl (fun _ h9 => op_move (ev_base hN595 rfl s595_4) h9) ?_
     refine st_step rfl (fun _ h9 => op_move (ev_base hN595 rfl s595_5) h9) ?_
     refine st_step rfl (fun _ h9 => op_sub (ev_hit hN595 rfl) rfl (sub64 (by omega)) h9) ?_
     refine st_index_rd slt22 (ev_hit hN595 rfl) (RdC.tail hO596.rdw (by omega) (by omega)) (ev_hit hN595 rfl) (by omega) (by omega) ?_
     intro b606 o607 h0b606 h1b606 hc608
     refine st_step rfl (fun _ h9 => op_load1 (v := (Value.int .u16 (dk[i + (k2 - 1)]!.toNat : Int))) one35 (ev_hit hN595 rfl) (by have := hc608 0 (Value.int .u16 (dk[i + (k2 - 1)]!.toNat : Int)) (by decide) (el_arr_tail (i := (k2 - 1)) (by omega) (by omega)); simpa using this) h9) ?_
     refine st_step rfl (fun _ h9 => op_cmp (b := (decide ((dk[i + k2]!.toNat : Int) ≠ (dk[i + (k2 - 1)]!.toNat : Int)))) (ev_hit hN595 rfl) (ev_hit hN595 rfl) (b_neq rfl) h9) ?_
     refine st_nil ?_
     refine hK600 _ _ ?_
     refine wp_cond_split (ev_hit hN595 rfl) (fun c44 => ?_) (fun c44 => ?_)
     · -- 44T
      have c44 := of_decide_eq_true c44
      refine seq_any fun K609 hK609 => ?_
      refine one_reg ?_
      refine op_move (ev_base hN595 rfl s595_0) ?_
      refine op_move (ev_base hN595 rfl s595_3) ?_
      refine op_move (ev_base hN595 rfl s595_4) ?_
      refine op_move (ev_base hN595 rfl s595_5) ?_
      refine op_index_rd slt22 (ev_hit hN595 rfl) (RdC.tail hO596.rdw (by omega) (by omega)) (ev_hit hN595 rfl) (by omega) (by omega) ?_
      intro b610 o611 h0b610 h1b610 hc612
      refine op_load1 (v := (Value.int .u16 (dk[i + k2]!.toNat : Int))) one35 (ev_hit hN595 rfl) (by have := hc612 0 (Value.int .u16 (dk[i + k2]!.toNat : Int)) (by decide) (el_arr_tail (i := k2) (by omega) (by omega)); simpa using this) ?_
      refine op_index_own (i := kk) slt22 (ev_hit hN595 rfl) hO596 (ev_hit hN595 rfl) (by omega) (by omega) ?_
      intro b613 o614 lo_b613 hA615
      have hA615 : AtV v (kk) b613 o614 := by simpa using hA615
      have hP618 := hO596
      refine op_store_own (vs := [(Value.int .u16 (dk[i + k2]!.toNat : Int))]) size35 (ev_hit hN595 rfl) (ev_hit hN595 rfl) rfl rfl rfl hP618 hA615 (by have := hP618.1; simp; omega) ?_
      intro w616 hO619 E617
      have z_w616 := E617.size
      have hb := grow_stepX hb E617 rfl
      have hO619 : Own w616 base 35 1 v n (((dk.setIfInBounds kk dk[i + k2]!)).toList.map u16v) := by exact hO619.cast rfl (set_arr (by first | omega | (simp only [Array.size_setIfInBounds, swp_sz]; omega)))
      refine reg_nil ?_
      refine hK609 _ _ ?_
      refine one_reg ?_
      refine op_move (ev_base hN595 rfl s595_3) ?_
      refine op_add (ev_hit hN595 rfl) rfl (add64 (by omega)) ?_
      refine op_assign (ev_hit hN595 rfl) ?_
      refine reg_nil ?_
      refine hK599 _ _ ?_
      refine one_reg ?_
      refine op_move (ev_base hN595 rfl s595_5) ?_
      refine op_add (ev_hit hN595 rfl) rfl (add64 (by omega)) ?_
      refine op_assign (ev_hit hN595 rfl) ?_
      refine reg_nil ?_
      -- round 8F 13T 25T 32T 44T
      have hk5 := dd_keep (d := d) (dk := dk) (i := i + k2) (k := kk) (by omega) (by omega) (by omega) (by omega) hdd hsame (by rw [← hsame (i + k2) (by omega), ← hsame (i + k2 - 1) (by omega)]; intro e; apply c44; rw [show i + (k2 - 1) = i + k2 - 1 by omega, e])
      rw [← hsame (i + k2) (by omega)] at hk5
      exact loop_next _ hN595 hd595 ⟨(k2 + 1), (kk + 1), _, rfl, (sl_base hN595 rfl s595_0), (sl_base hN595 rfl s595_4), (sl_hit hN595 rfl).trans (congrArg (Value.int .i64) (by omega)), (sl_hit hN595 rfl).trans (congrArg (Value.int .i64) (by omega)), (by first | assumption | (simp only [Array.size_setIfInBounds, swp_sz, siftDown_size]; assumption)), (by omega), hk5.1, hk5.2, hb, (by omega), hO619⟩ (by omega)
     · -- 44F
      have c44 := of_decide_eq_false c44
      refine wp_skip ?_
      refine hK599 _ _ ?_
      refine one_reg ?_
      refine op_move (ev_base hN595 rfl s595_5) ?_
      refine op_add (ev_hit hN595 rfl) rfl (add64 (by omega)) ?_
      refine op_assign (ev_hit hN595 rfl) ?_
      refine reg_nil ?_
      -- round 8F 13T 25T 32T 44F
      have hk5 := hdd
      exact loop_next _ hN595 hd595 ⟨(k2 + 1), kk, _, rfl, (sl_base hN595 rfl s595_0), (sl_base hN595 rfl s595_4), (sl_hit hN595 rfl).trans (congrArg (Value.int .i64) (by omega)), (sl_base hN595 rfl s595_3).trans (congrArg (Value.int .i64) (by omega)), (by first | assumption | (simp only [Array.size_setIfInBounds, swp_sz, siftDown_size]; assumption)), (by omega), (hdd.trans (by rw [← Nat.add_assoc, dd_step (by omega) (by omega), if_pos]; rw [← hsame (i + k2) (by omega), ← hsame (i + k2 - 1) (by omega), show i + k2 - 1 = i + (k2 - 1) by omega]; exact (u16_eq (Decidable.not_not.1 c44)).symm)), hsame, hb, (by omega), hO596⟩ (by omega)
    · -- 32F
     refine reg_nil ?_
     refine hK598 _ _ ?_
     refine wp_cond_false (ev_hit hN595 rfl) ?_
     refine wp_exit (then_exit (then_exit (blk_hit ?_)))
     refine hK593 _ _ ?_
     refine seq_any fun K620 hK620 => ?_
     refine one_reg ?_
     refine op_move (ev_base hN595 rfl s595_0) ?_
     refine op_move (ev_base hN595 rfl s595_3) ?_
     refine op_slice_tail (k := kk) slt22 (ev_hit hN595 rfl) hO596.rdw (by omega) (ev_hit hN595 rfl) (by omega) ?_
     refine op_clear_tail slt22 rfl rfl (ev_hit hN595 rfl) hO596 (by omega) ?_
     intro w621 hO622 E623
     have z_w621 := E623.size
     have hb := grow_stepX hb E623 rfl
     have hO622 : Own w621 base 35 1 v n ((clr dk kk).toList.map u16v) := hO622.cast rfl (clr_cs (by assumption))
     refine reg_nil ?_
     refine hK620 _ _ ?_
     refine seq_any fun K624 hK624 => ?_
     refine one_reg ?_
     refine op_move (ev_base hN595 rfl s595_0) ?_
     refine op_move (ev_base hN595 rfl s595_3) ?_
     have hfull : d.toList.take (i + k2) = d.toList := by rw [List.take_of_length_le]; simp; omega
     have hD : dk.toList.take kk = dd d.toList := by rw [hdd, hfull]
     have hDl : (dd d.toList).length = kk := by rw [← hD]; simp; omega
     refine op_slice_own_hi (m := kk) slt22 (ev_hit hN595 rfl) hO622 (ev_hit hN595 rfl) (by omega) (by omega) ?_
     intro v625 hO626 ho627
     have hO626 : Own w621 base 35 1 v625 kk (((dd d.toList)).map u16v) := by (simp only [Nat.mul_one] at hO626; rw [← List.map_take, clr_take (by omega), hD] at hO626; exact hO626)
     refine op_assign (ev_hit hN595 rfl) ?_
     refine reg_nil ?_
     refine hK624 _ _ ?_
     refine wp_ret (blk_ret (then_ret (then_ret (blk_ret (then_ret ( ?_))))))
     refine ret1 rfl hd595 (ev_hit hN595 rfl) ⟨_, rfl, ?_⟩
     -- path 8F 13T 25T 32F
     exact ⟨hb, (ho627.trans rfl), by rw [hDl]; exact hO626⟩
   · -- 25F
    have c25 := of_decide_eq_false c25
    refine wp_skip ?_
    refine hK582 _ _ ?_
    refine one_reg ?_
    refine op_move (ev_base hN579 rfl s579_3) ?_
    refine op_add (ev_hit hN579 rfl) rfl (add64 (by omega)) ?_
    refine op_assign (ev_hit hN579 rfl) ?_
    refine reg_nil ?_
    -- round 8F 13T 25F
    exact loop_next _ hN579 hd579 ⟨(i + 1), rfl, (sl_base hN579 rfl s579_0), (sl_hit hN579 rfl).trans (congrArg (Value.int .i64) (by omega)), (by omega), (dd_same (by omega) (by omega) hsm (fun e => c25 (by rw [e]))), hb, (by omega), O⟩ (by omega)
  · -- 13F
   refine reg_nil ?_
   refine hK581 _ _ ?_
   refine wp_cond_false (ev_hit hN579 rfl) ?_
   refine wp_exit (then_exit (then_exit (blk_hit ?_)))
   refine hK577 _ _ ?_
   refine seq_any fun K628 hK628 => ?_
   refine one_reg ?_
   refine op_move (ev_base hN579 rfl s579_0) ?_
   refine op_assign (ev_hit hN579 rfl) ?_
   refine reg_nil ?_
   refine hK628 _ _ ?_
   refine wp_ret ?_
   refine ret1 rfl hd579 (ev_hit hN579 rfl) ⟨_, rfl, ?_⟩
   -- path 8F 13F
   have hzl : d.toList.length = n := by simp; assumption
   exact ⟨hb, rfl, by rw [dd_full (n := n) (by assumption) (by rw [show n = i by omega]; exact hsm), hzl]; exact O⟩

end Go.Proofs.Ytpmnljffdofkeaa

/- The one rising list of what a list holds. -/
namespace Go.Proofs.Ytpmnljffdofkeaa
open Go.Gx Go.Sort Go.RowKit
theorem dd_mem (x : UInt16) : ∀ (l : List UInt16), x ∈ dd l ↔ x ∈ l
  | [] => Iff.rfl
  | [_] => Iff.rfl
  | a :: b :: r => by
    have ih := dd_mem x (b :: r)
    rw [dd]
    by_cases h : a = b
    · subst h; rw [if_pos rfl, ih]; simp
    · rw [if_neg h, List.mem_cons, ih, List.mem_cons (a := x) (b := a)]
theorem dd_rise : ∀ (l : List UInt16), l.Pairwise (fun a b => a.toNat ≤ b.toNat) → Rise (dd l)
  | [], _ => List.Pairwise.nil
  | [a], _ => List.pairwise_singleton _ _
  | a :: b :: r, h => by
    have h2 := List.pairwise_cons.1 h
    have ih := dd_rise (b :: r) h2.2
    rw [dd]
    by_cases e : a = b
    · rw [if_pos e]; exact ih
    · rw [if_neg e]
      refine List.pairwise_cons.2 ⟨fun z hz => ?_, ih⟩
      rw [dd_mem] at hz
      have hab := h2.1 b (by simp)
      have hne : a.toNat ≠ b.toNat := fun q => e (UInt16.toNat_inj.1 q)
      rcases List.mem_cons.1 hz with rfl | hz
      · omega
      · have := (List.pairwise_cons.1 h2.2).1 z hz; omega
theorem rise_ext : ∀ {a b : Lb}, Rise a → Rise b → (∀ x, x ∈ a ↔ x ∈ b) → a = b
  | [], [], _, _, _ => rfl
  | [], y :: b, _, _, h => by have := (h y).2 (by simp); simp at this
  | x :: a, [], _, _, h => by have := (h x).1 (by simp); simp at this
  | x :: a, y :: b, ha, hb, h => by
    have ha' := List.pairwise_cons.1 ha
    have hb' := List.pairwise_cons.1 hb
    have e : x = y := by
      rcases List.mem_cons.1 ((h x).1 (by simp)) with q | q
      · exact q
      · rcases List.mem_cons.1 ((h y).2 (by simp)) with q' | q'
        · exact q'.symm
        · have := hb'.1 x q; have := ha'.1 y q'; omega
    subst e
    rw [rise_ext ha'.2 hb'.2 fun z => ?_]
    have hz := h z
    simp only [List.mem_cons] at hz
    constructor
    · intro q
      rcases hz.1 (.inr q) with r | r
      · subst r; have := ha'.1 z q; omega
      · exact r
    · intro q
      rcases hz.2 (.inr q) with r | r
      · subst r; have := hb'.1 z q; omega
      · exact r
def insT (x : UInt16) : Lb → Lb
  | [] => [x]
  | y :: r => if y.toNat < x.toNat then y :: insT x r else if y = x then y :: r else x :: y :: r
theorem insT_mem (x z : UInt16) : ∀ (l : Lb), z ∈ insT x l ↔ z = x ∨ z ∈ l
  | [] => by simp [insT]
  | y :: r => by
    rw [insT]
    split
    · rw [List.mem_cons, insT_mem x z r, List.mem_cons]; constructor <;> rintro (h | h | h) <;> simp [h]
    · split
      · rename_i h; subst h; simp
      · simp
theorem insT_rise {x : UInt16} : ∀ {l : Lb}, Rise l → Rise (insT x l)
  | [], _ => List.pairwise_singleton _ _
  | y :: r, h => by
    have h' := List.pairwise_cons.1 h
    rw [insT]
    split
    · refine List.pairwise_cons.2 ⟨fun z hz => ?_, insT_rise h'.2⟩
      rcases (insT_mem x z r).1 hz with rfl | hz
      · assumption
      · exact h'.1 z hz
    · split
      · exact h
      · rename_i h1 h2
        have hne : y.toNat ≠ x.toNat := fun q => h2 (UInt16.toNat_inj.1 q)
        refine List.pairwise_cons.2 ⟨fun z hz => ?_, h⟩
        rcases List.mem_cons.1 hz with rfl | hz
        · omega
        · have := h'.1 z hz; omega
def nrm (l : Lb) : Lb := l.foldl (fun acc x => insT x acc) []
theorem nrm_go : ∀ (l acc : Lb), Rise acc → Rise (l.foldl (fun acc x => insT x acc) acc) ∧ ∀ z, z ∈ l.foldl (fun acc x => insT x acc) acc ↔ z ∈ acc ∨ z ∈ l
  | [], acc, h => ⟨h, fun z => by simp⟩
  | x :: l, acc, h => by
    obtain ⟨h1, h2⟩ := nrm_go l (insT x acc) (insT_rise h)
    refine ⟨h1, fun z => ?_⟩
    rw [List.foldl_cons, h2, insT_mem, List.mem_cons]
    constructor
    · rintro ((h | h) | h) <;> simp [h]
    · rintro (h | h | h) <;> simp [h]
theorem nrm_rise (l : Lb) : Rise (nrm l) := (nrm_go l [] rise_nil).1
theorem nrm_mem (l : Lb) (z : UInt16) : z ∈ nrm l ↔ z ∈ l := by have := (nrm_go l [] rise_nil).2 z; simpa [nrm] using this
theorem nrm_of {l a : Lb} (h : Rise a) (hm : ∀ z, z ∈ a ↔ z ∈ l) : a = nrm l := rise_ext h (nrm_rise l) fun z => (hm z).trans (nrm_mem l z).symm
theorem nrm_id {l : Lb} (h : Rise l) : nrm l = l := (nrm_of h fun _ => Iff.rfl).symm
theorem nrm_congr {a b : Lb} (h : ∀ z, z ∈ a ↔ z ∈ b) : nrm a = nrm b := nrm_of (nrm_rise a) fun z => (nrm_mem a z).trans (h z)
theorem sort_nrm {d d' : Ar} {n : Nat} (hd : d.size = n) (hp : PI 0 n d d') (hs : SortedIn ltT 0 n d') : dd d'.toList = nrm d.toList := by
  have hz : d'.size = n := hp.sz.trans hd
  have e1 : d.extract 0 n = d := by rw [← hd]; exact Array.extract_size
  have e2 : d'.extract 0 n = d' := by rw [← hz]; exact Array.extract_size
  have hperm := hp.2.2
  rw [e1, e2] at hperm
  refine nrm_of (dd_rise _ ?_) fun z => (dd_mem z _).trans hperm.mem_iff
  rw [List.pairwise_iff_getElem]
  intro i j hi hj hij
  have hi' : i < d'.size := by simpa using hi
  have hj' : j < d'.size := by simpa using hj
  have := hs i j (Nat.zero_le _) hij (by omega)
  simp only [ltT, decide_eq_false_iff_not] at this
  have a1 : d'[i]! = d'.toList[i] := by simp [hi']
  have a2 : d'[j]! = d'.toList[j] := by simp [hj']
  rw [a1, a2] at this
  omega
theorem take_nrm {l : Lb} {i : Nat} (h : i < l.length) : nrm (l.take (i + 1)) = insT (l.getD i 0) (nrm (l.take i)) := by
  have e : l.take (i + 1) = l.take i ++ [l.getD i 0] := by
    rw [List.take_add_one, List.getElem?_eq_getElem h]; simp [h]
  rw [e, nrm, List.foldl_append]; rfl
end Go.Proofs.Ytpmnljffdofkeaa

/- Walks, written by a program: what each function of the translation hands back. -/
namespace Go.Proofs.Ytpmnljffdofkeaa
open Go.Gx Go.RowKit
attribute [local irreducible] wpList wpStill Code.wp Calls
open Go.Sort (insertionSort insOuter insInner swp siftDown heapSort heapBuild heapPop scanUp scanDown partition partLoop partitionEqual partEqLoop scanSorted partialIns bitsLen partialInsertionSort shiftDown shiftUp SortedIn reverseRange reverseLoop fixDown fixUp)
theorem cloneW_ret (l : Lb) (v : Value) (w : World) (hz : l.length ≤ 1000000000000) (hl : RdC w 0 w.heap.size 1 v l.length (l.map u16v)) : Ret Try.prog 56 #[v] w (fun v' w' => Below w.heap.size w w' ∧ Own w' w.heap.size 35 1 v' l.length (l.map u16v)) := by
 have hb := Below.refl w.heap.size w
 refine enter (N := 8) Try.func56 rfl rfl (by simp) fun a0 hN hd hA => ?_
 have s0 : a0.tmps.getD 0 undef = v := hA 0 (by simp)
 clear hA
 refine seq_any fun K629 hK629 => ?_
 refine one_reg ?_
 refine op_assign rfl ?_
 refine reg_nil ?_
 refine hK629 _ _ ?_
 refine seq_any fun K630 hK630 => ?_
 refine seq_any fun K631 hK631 => ?_
 refine one_reg ?_
 refine op_move (ev_base hN rfl s0) ?_
 refine op_eql_nil slt22 (ev_hit hN rfl) rfl hl (fun c4 => ?_) ?_
 · -- 4T
  refine reg_nil ?_
  refine hK631 _ _ ?_
  refine wp_cond_true (ev_hit hN rfl) ?_
  refine seq_any fun K632 hK632 => ?_
  refine one_reg ?_
  refine op_assign rfl ?_
  refine reg_nil ?_
  refine hK632 _ _ ?_
  refine wp_ret (then_ret ( ?_))
  refine ret1 rfl hd (ev_hit hN rfl) ⟨_, rfl, ?_⟩
  -- path 4T
  exact ⟨hb, by rw [List.length_eq_zero_iff.1 c4]; exact Own.nil _ _ _ _⟩
 · -- 4F
  refine reg_nil ?_
  refine hK631 _ _ ?_
  refine wp_cond_false (ev_hit hN rfl) ?_
  refine wp_skip ?_
  refine hK630 _ _ ?_
  refine seq_any fun K633 hK633 => ?_
  refine one_reg ?_
  refine op_bslice (e := 35) (pv := []) (cs := []) trivial (by kernel_rfl) ?_
  intro w634 b635 lo_b635 hi_b635 hB637 E636
  have z_w634 := E636.size
  have hl := hl.keep0 E636
  have hb := below_step0 hb E636 hb.size
  refine op_move (ev_base hN rfl s0) ?_
  have hP643 := (Own.ofBx (base := w.heap.size) (sz := 1) (n := 0) hB637 rfl (by decide) (by omega))
  refine op_append slt22 (ev_hit hN rfl) hP643 (ev_hit hN rfl) (Src.ofRd Try.underlying22 (by decide) hl (one_u16 _)) (by unfold maxLen; omega) (by omega) hb.size ?_
  intro v638 w639 hO641 E640 hm642
  have z_w639 := E640.size
  have hl := hl.keepO hP643 E640 (by omega)
  have hb := below_stepO hb hP643 E640 hb.size (by omega)
  have hO641 : Own w639 w.heap.size 35 1 v638 (0 + l.length) ((l).map u16v) := by simpa [u8v, u16v, cellsV] using hO641
  refine op_assign (ev_hit hN rfl) ?_
  refine reg_nil ?_
  refine hK633 _ _ ?_
  refine wp_ret ?_
  refine ret1 rfl hd (ev_hit hN rfl) ⟨_, rfl, ?_⟩
  -- path 4F
  exact ⟨hb, hO641.cast (by simp) (by simp)⟩

theorem sortW_ret (d : Ar) (v : Value) (n base : Nat) (z0 : Nat) (w : World) (hd : d.size = n) (hn : n ≤ 4000000000000000000) (O : Own w base 35 1 v n (d.toList.map u16v)) : Ret Try.prog 57 #[v] w (fun v' w' => w.grownBy w' v.ownBlock ∧ v' = .tuple #[] ∧ ∃ d', PI 0 n d d' ∧ SortedIn ltT 0 n d' ∧ Own w' base 35 1 v n (d'.toList.map u16v)) := by
 have hb := grown_refl w v.ownBlock
 refine enter (N := 11) Try.func57 rfl rfl (by simp) fun a0 hN hd hA => ?_
 have s0 : a0.tmps.getD 0 undef = v := hA 0 (by simp)
 clear hA
 refine seq_any fun K644 hK644 => ?_
 refine one_reg ?_
 refine op_move (ev_base hN rfl s0) ?_
 refine op_len_rd Try.underlying22 (ev_hit hN rfl) O.rdw ?_
 refine op_assign (ev_hit hN rfl) ?_
 refine reg_nil ?_
 refine hK644 _ _ ?_
 refine one_reg ?_
 refine op_move (ev_base hN rfl s0) ?_
 refine op_move (ev_hit hN rfl) ?_
 refine op_move (ev_hit hN rfl) ?_
 refine op_conv (r := ((n : Nat) : Int)) (ev_hit hN rfl) us3 Try.underlying60 (wrap_u64 (by omega)) ?_
 have hbl : bitsLen n ≤ 62 := (Go.Sort.bitsLen_le_iff n 62).2 (by omega)
 refine op_fn (vs := [(Value.int .u64 ((n : Nat) : Int))]) ok64 ⟨(ev_hit hN rfl), trivial⟩ (lenW_ret n _ (by omega)) ?_
 rintro _ w645 ⟨E646, rfl⟩
 have E646 := grown_of_below E646
 have z_w645 := E646.size
 have O := O.keep0 E646
 have hb := grow_step0 hb E646
 refine op_fn (vs := [v, (Value.int .i64 0), (Value.int .i64 ((n : Nat) : Int)), (Value.int .i64 (((bitsLen n) : Nat) : Int))]) ok63 ⟨(ev_hit hN rfl), ⟨rfl, ⟨(ev_hit hN rfl), ⟨(ev_hit hN rfl), trivial⟩⟩⟩⟩ (pdqW_ret d _ _ _ 0 n ((bitsLen n)) _ (by first | assumption | (simp only [Array.size_setIfInBounds, swp_sz, siftDown_size]; assumption)) (by omega) (by omega) (by omega) (by omega) (.inl rfl) O) ?_
 rintro _ w648 ⟨E649, rfl, dd647, hpi647, hso647, hO647⟩
 have z_w648 := E649.size
 have hb := grow_stepX hb E649 rfl
 refine reg_nil ?_
 refine end_ret ?_
 refine ret0 rfl hd  ⟨_, rfl, ?_⟩
 -- path
 exact ⟨hb, rfl, _, hpi647, hso647, hO647⟩

theorem sortedW_ret (l : Lb) (v : Value) (w : World) (hz : l.length ≤ 1000000000000) (hl : RdC w 0 w.heap.size 1 v l.length (l.map u16v)) : Ret Try.prog 46 #[v] w (fun v' w' => Below w.heap.size w w' ∧ Own w' w.heap.size 35 1 v' (nrm l).length ((nrm l).map u16v)) := by
 have hb := Below.refl w.heap.size w
 refine enter (N := 10) Try.func46 rfl rfl (by simp) fun a0 hN hd hA => ?_
 have s0 : a0.tmps.getD 0 undef = v := hA 0 (by simp)
 clear hA
 refine seq_any fun K650 hK650 => ?_
 refine one_reg ?_
 refine op_assign rfl ?_
 refine reg_nil ?_
 refine hK650 _ _ ?_
 refine seq_any fun K651 hK651 => ?_
 refine one_reg ?_
 refine op_move (ev_base hN rfl s0) ?_
 refine op_fn (vs := [v]) ok56 ⟨(ev_hit hN rfl), trivial⟩ (cloneW_ret l _ _ (by omega) (show RdC w 0 w.heap.size 1 v l.length (l.map u16v) from by have hh : RdC w 0 w.heap.size 1 _ _ _ := (hl.mono (L' := 0) (B' := w.heap.size) (Nat.zero_le _) (by omega)); first | exact hh | exact hh.cast (by first | omega | (simp; try omega)) (by first | rfl | simp [u16v]))) ?_
 rintro v652 w653 ⟨E654, hO652⟩
 have E654 := grown_of_below E654
 have z_w653 := E654.size
 have hl := hl.keep0 E654
 have hb := below_step0 hb E654 hb.size
 have hO652 := hO652.mono (base' := w.heap.size) (by omega)
 refine op_assign (ev_hit hN rfl) ?_
 refine reg_nil ?_
 refine hK651 _ _ ?_
 refine seq_any fun K655 hK655 => ?_
 refine one_reg ?_
 refine op_move (ev_hit hN rfl) ?_
 refine op_fn (vs := [v652]) ok57 ⟨(ev_hit hN rfl), trivial⟩ (sortW_ret l.toArray _ l.length _ 0 _ (by simp) (by omega) hO652) ?_
 rintro _ w657 ⟨E658, rfl, dd656, hpi656, hso656, hO656⟩
 have z_w657 := E658.size
 have hl := hl.keepO hO652 E658 (by omega)
 have hb := below_stepO hb hO652 E658 hb.size (by omega)
 have hsn : dd dd656.toList = nrm l := sort_nrm (by simp) hpi656 hso656
 have hsz : dd656.size = l.length := (PI.sz hpi656).trans (by simp)
 refine reg_nil ?_
 refine hK655 _ _ ?_
 refine seq_any fun K659 hK659 => ?_
 refine one_reg ?_
 refine op_move (ev_hit hN rfl) ?_
 refine op_fn (vs := [v652]) ok58 ⟨(ev_hit hN rfl), trivial⟩ (compW_ret dd656 _ l.length _ 0 _ (by first | assumption | (simp only [Array.size_setIfInBounds, swp_sz, siftDown_size]; assumption)) (by omega) hO656) ?_
 rintro v660 w661 ⟨E662, hob660, hO660⟩
 have z_w661 := E662.size
 have hl := hl.keepO hO656 E662 (by omega)
 have hb := below_stepO hb hO656 E662 hb.size (by omega)
 refine op_assign (ev_hit hN rfl) ?_
 refine reg_nil ?_
 refine hK659 _ _ ?_
 refine wp_ret ?_
 refine ret1 rfl hd (ev_hit hN rfl) ⟨_, rfl, ?_⟩
 -- path
 rw [hsn] at hO660
 exact ⟨hb, hO660⟩

end Go.Proofs.Ytpmnljffdofkeaa

/- Labels taken apart and put together, plainly. -/
namespace Go.Proofs.Ytpmnljffdofkeaa
open Go.Gx Go.RowKit
def inL (x : UInt16) (m : Lb) : Bool := decide (x ∈ m)
def ninL (x : UInt16) (m : Lb) : Bool := !inL x m
def minusL (l m : Lb) : Lb := l.filter (fun x => ninL x m)
def meetL (l m : Lb) : Lb := l.filter (fun x => inL x m)
def flowsL (l m : Lb) : Bool := l.all (fun x => inL x m)
theorem in_t {x : UInt16} {m : Lb} {i : Nat} (h : i < m.length) (e : (m.getD i 0) = x) : inL x m = true := by
  subst e; unfold inL; simp [h]
theorem in_f {x : UInt16} {m : Lb} {i : Nat} (hi : m.length ≤ i) (h : ∀ j, j < i → m.getD j 0 ≠ x) : inL x m = false := by
  unfold inL
  rw [decide_eq_false_iff_not]
  intro hm
  obtain ⟨j, hj, e⟩ := List.getElem_of_mem hm
  exact h j (by omega) (by simp [hj, e])
theorem no_step {x : UInt16} {m : Lb} {i : Nat} (h : ∀ j, j < i → m.getD j 0 ≠ x) (e : ¬ m.getD i 0 = x) : ∀ j, j < i + 1 → m.getD j 0 ≠ x := fun j hj => by
  by_cases q : j = i
  · subst q; exact e
  · exact h j (by omega)
theorem lb_take {l : Lb} {i : Nat} (h : i < l.length) : l.take (i + 1) = l.take i ++ [l.getD i 0] := by
  rw [List.take_add_one, List.getElem?_eq_getElem h]; simp [h]
theorem filter_t {l : Lb} {i : Nat} {p : UInt16 → Bool} (h : i < l.length) (hp : p (l.getD i 0) = true) : (l.take (i + 1)).filter p = (l.take i).filter p ++ [l.getD i 0] := by
  rw [lb_take h, List.filter_append, List.filter_cons, if_pos hp]; rfl
theorem filter_f {l : Lb} {i : Nat} {p : UInt16 → Bool} (h : i < l.length) (hp : p (l.getD i 0) = false) : (l.take (i + 1)).filter p = (l.take i).filter p := by
  rw [lb_take h, List.filter_append, List.filter_cons, if_neg (by rw [hp]; decide), List.filter_nil, List.append_nil]
theorem filter_le {l : Lb} {i : Nat} {p : UInt16 → Bool} : ((l.take i).filter p).length ≤ i := Nat.le_trans (List.length_filter_le _ _) (by simp; omega)
theorem all_f {l : Lb} {i : Nat} {p : UInt16 → Bool} (h : i < l.length) (hp : p (l.getD i 0) = false) : l.all p = false := by
  rw [List.all_eq_false]
  exact ⟨l.getD i 0, by simp [h], by simpa using hp⟩
theorem all_step {l : Lb} {i : Nat} {p : UInt16 → Bool} (h : i < l.length) (ha : (l.take i).all p = true) (hp : p (l.getD i 0) = true) : (l.take (i + 1)).all p = true := by
  rw [lb_take h, List.all_append, ha]; simp only [List.all_cons, List.all_nil, hp]; rfl
theorem all_end {l : Lb} {i : Nat} {p : UInt16 → Bool} (h : l.length ≤ i) (ha : (l.take i).all p = true) : l.all p = true := by
  rwa [List.take_of_length_le h] at ha
theorem flows_minus (l m : Lb) : flowsL l m = decide ((minusL l m).length = 0) := by
  unfold flowsL minusL ninL
  rw [Bool.eq_iff_iff, decide_eq_true_iff, List.length_eq_zero_iff, List.filter_eq_nil_iff]
  simp
theorem take_all (l : Lb) {i : Nat} (h : l.length ≤ i) : l.take i = l := List.take_of_length_le h
theorem insT_at {x : UInt16} : ∀ {acc : Lb} {j : Nat}, (∀ k, k < j → (acc.getD k 0).toNat < x.toNat) → j ≤ acc.length → (j = acc.length ∨ ¬ (acc.getD j 0).toNat < x.toNat) →
    ((¬ j = acc.length ∧ acc.getD j 0 = x → insT x acc = acc) ∧ (j = acc.length ∨ acc.getD j 0 ≠ x → insT x acc = acc.take j ++ [x] ++ acc.drop j))
  | [], j, _, h2, _ => by
    have : j = 0 := by simpa using h2
    subst this
    exact ⟨fun h => absurd rfl h.1, fun _ => rfl⟩
  | y :: r, 0, _, _, h3 => by
    have hy : ¬ y.toNat < x.toNat := by simpa using h3
    refine ⟨fun h => ?_, fun h => ?_⟩
    · have e : y = x := by simpa using h.2
      rw [insT, if_neg hy, if_pos e]
    · have e : ¬ y = x := by simpa using h
      rw [insT, if_neg hy, if_neg e]; rfl
  | y :: r, j + 1, h1, h2, h3 => by
    have hy : y.toNat < x.toNat := by simpa using h1 0 (by omega)
    obtain ⟨g1, g2⟩ := insT_at (acc := r) (j := j) (fun k hk => by simpa using h1 (k + 1) (by omega)) (by simpa using h2) (by simpa using h3)
    refine ⟨fun h => ?_, fun h => ?_⟩
    · rw [insT, if_pos hy, g1 (by simpa using h)]
    · rw [insT, if_pos hy, g2 (by simpa using h)]; simp
theorem lt_step {x : UInt16} {acc : Lb} {j : Nat} (h : ∀ k, k < j → (acc.getD k 0).toNat < x.toNat) (e : (acc.getD j 0).toNat < x.toNat) : ∀ k, k < j + 1 → (acc.getD k 0).toNat < x.toNat := fun k hk => by
  by_cases q : k = j
  · subst q; exact e
  · exact h k (by omega)
theorem insT_len {x : UInt16} : ∀ {acc : Lb}, (insT x acc).length ≤ acc.length + 1
  | [] => by simp [insT]
  | y :: r => by
    have := insT_len (x := x) (acc := r)
    rw [insT]; split
    · simp; omega
    · split <;> simp
theorem nrm_len {l : Lb} {i : Nat} (h : i ≤ l.length) : (nrm (l.take i)).length ≤ i := by
  induction i with
  | zero => simp [nrm]
  | succ i ih => rw [take_nrm (by omega)]; have := insT_len (x := l.getD i 0) (acc := nrm (l.take i)); have := ih (by omega); omega
theorem nrm_lenL (l : Lb) : (nrm l).length ≤ l.length := by have := nrm_len (l := l) (Nat.le_refl _); rwa [List.take_length] at this
theorem nin_t {x : UInt16} {m : Lb} (h : inL x m = false) : ninL x m = true := by unfold ninL; rw [h]; rfl
theorem nin_f {x : UInt16} {m : Lb} (h : inL x m = true) : ninL x m = false := by unfold ninL; rw [h]; rfl
end Go.Proofs.Ytpmnljffdofkeaa
