/- Walks, written by a program: what each function of the translation hands back. -/
import Derived.Test.YtpmnljffdofkeaaB2
namespace Go.Proofs.Ytpmnljffdofkeaa
open Go.Gx Go.RowKit
attribute [local irreducible] wpList wpStill Code.wp Calls
open Go.Sort (insertionSort insOuter insInner swp siftDown heapSort heapBuild heapPop scanUp scanDown partition partLoop partitionEqual partEqLoop scanSorted partialIns bitsLen partialInsertionSort shiftDown shiftUp SortedIn reverseRange reverseLoop fixDown fixUp)
theorem heapW_ret (d : Ar) (v : Value) (n base : Nat) (a b : Nat) (w : World) (hd : d.size = n) (hn : n ≤ 4000000000000000000) (O : Own w base 35 1 v n (d.toList.map u16v)) (hab : a ≤ b) (hbn : b ≤ n) : Ret Try.prog 67 #[v, (Value.int .i64 ((a : Nat) : Int)), (Value.int .i64 ((b : Nat) : Int))] w (fun v' w' => w.grownBy w' v.ownBlock ∧ v' = .tuple #[] ∧ Own w' base 35 1 v n ((heapSort ltT d a b).toList.map u16v)) := by
 have hb := grown_refl w v.ownBlock
 refine enter (N := 56) Try.func67 rfl rfl (by simp) fun a0 hN hd hA => ?_
 have s0 : a0.tmps.getD 0 undef = v := hA 0 (by simp)
 have s1 : a0.tmps.getD 1 undef = (Value.int .i64 ((a : Nat) : Int)) := hA 1 (by simp)
 have s2 : a0.tmps.getD 2 undef = (Value.int .i64 ((b : Nat) : Int)) := hA 2 (by simp)
 clear hA
 refine seq_any fun K78 hK78 => ?_
 refine one_reg ?_
 refine op_move (ev_base hN rfl s1) ?_
 refine op_assign (ev_hit hN rfl) ?_
 refine reg_nil ?_
 refine hK78 _ _ ?_
 refine seq_any fun K79 hK79 => ?_
 refine one_reg ?_
 refine op_assign rfl ?_
 refine reg_nil ?_
 refine hK79 _ _ ?_
 refine seq_any fun K80 hK80 => ?_
 refine one_reg ?_
 refine op_move (ev_base hN rfl s2) ?_
 refine op_move (ev_base hN rfl s1) ?_
 refine op_sub (r := ((b - a : Nat) : Int)) (ev_hit hN rfl) (ev_hit hN rfl) (by rw [IntKind.wrap_i64]; omega) ?_
 refine op_assign (ev_hit hN rfl) ?_
 refine reg_nil ?_
 refine hK80 _ _ ?_
 refine seq_any fun K81 hK81 => ?_
 refine seq_any fun K82 hK82 => ?_
 refine one_reg ?_
 refine op_move (ev_hit hN rfl) ?_
 refine op_sub (ev_hit hN rfl) rfl (sub64 (by omega)) ?_
 refine op_quo (r := (((b - a - 1) / 2 : Nat) : Int)) (ev_hit hN rfl) rfl (by decide) (by rw [tdiv2, IntKind.wrap_i64]; omega) ?_
 refine op_assign (ev_hit hN rfl) ?_
 refine reg_nil ?_
 refine hK82 _ _ ?_
 refine wp_block ?_
 refine loop_m (fun mz_ az_ w' => ∃ (k : Nat) (dk : Ar), mz_ = (k + 1) ∧ (az_.tmps.getD 0 undef = v) ∧ (az_.tmps.getD 6 undef = (Value.int .i64 ((a : Nat) : Int))) ∧ (az_.tmps.getD 7 undef = (Value.int .i64 0)) ∧ (az_.tmps.getD 8 undef = (Value.int .i64 ((b - a : Nat) : Int))) ∧ (az_.tmps.getD 9 undef = (Value.int .i64 (((k : Nat) : Int) - 1))) ∧ (dk.size = n) ∧ (k ≤ (b - a - 1) / 2 + 1) ∧ (heapBuild ltT (b - a) a ((b - a - 1) / 2 + 1) d = heapBuild ltT (b - a) a k dk) ∧ (w.grownBy w' v.ownBlock) ∧ (w.heap.size ≤ w'.heap.size) ∧ (Own w' base 35 1 v n (dk.toList.map u16v))) _ hN hd ⟨((b - a - 1) / 2 + 1), _, rfl, (sl_base hN rfl s0), (sl_hit hN rfl), (sl_hit hN rfl), (sl_hit hN rfl), (sl_hit hN rfl).trans (congrArg (Value.int .i64) (by omega)), (by first | assumption | (simp only [Array.size_setIfInBounds, swp_sz, siftDown_size]; assumption)), Nat.le_refl _, rfl, hb, (Nat.le_refl _), O⟩ ?_
 rintro _ a83 w83 hN83 hd83 ⟨k, dk, rfl, s83_0, s83_6, s83_7, s83_8, s83_9, hdk, hk, hs, hb, zl_w83, hO84⟩
 have z_w83 := hb.size
 refine seq_any fun K85 hK85 => ?_
 refine seq_any fun K86 hK86 => ?_
 refine one_reg ?_
 refine op_move (ev_base hN83 rfl s83_9) ?_
 refine op_geq (ev_hit hN83 rfl) rfl (fun c19 => ?_) (fun c19 => ?_)
 · -- 19T
  refine reg_nil ?_
  refine hK86 _ _ ?_
  refine wp_cond_true (ev_hit hN83 rfl) ?_
  refine wp_skip ?_
  refine hK85 _ _ ?_
  refine seq_any fun K87 hK87 => ?_
  refine wp_block ?_
  refine one_reg ?_
  refine op_move (ev_base hN83 rfl s83_0) ?_
  refine op_move ((ev_base hN83 rfl s83_9).trans (congrArg (Value.int .i64) (show _ = ((k - 1 : Nat) : Int) by omega))) ?_
  refine op_move (ev_base hN83 rfl s83_8) ?_
  refine op_move (ev_base hN83 rfl s83_6) ?_
  refine op_fn (vs := [v, (Value.int .i64 ((k - 1 : Nat) : Int)), (Value.int .i64 ((b - a : Nat) : Int)), (Value.int .i64 ((a : Nat) : Int))]) ok77 ⟨(ev_hit hN83 rfl), ⟨(ev_hit hN83 rfl), ⟨(ev_hit hN83 rfl), ⟨(ev_hit hN83 rfl), trivial⟩⟩⟩⟩ (siftDownW_ret dk _ _ _ (k - 1) (b - a) a _ (by first | assumption | (simp only [Array.size_setIfInBounds, swp_sz, siftDown_size]; assumption)) (by omega) hO84 (by omega) (by omega)) ?_
  rintro _ w89 ⟨E90, rfl, hO88⟩
  have z_w89 := E90.size
  have hb := grow_stepX hb E90 rfl
  refine reg_nil ?_
  refine hK87 _ _ ?_
  refine one_reg ?_
  refine op_move (ev_base hN83 rfl s83_9) ?_
  refine op_sub (ev_hit hN83 rfl) rfl (sub64 (by omega)) ?_
  refine op_assign (ev_hit hN83 rfl) ?_
  refine reg_nil ?_
  -- round 19T
  exact loop_next _ hN83 hd83 ⟨(k - 1), _, rfl, (sl_base hN83 rfl s83_0), (sl_base hN83 rfl s83_6), (sl_base hN83 rfl s83_7), (sl_base hN83 rfl s83_8), (sl_hit hN83 rfl).trans (congrArg (Value.int .i64) (by omega)), (by first | assumption | (simp only [Array.size_setIfInBounds, swp_sz, siftDown_size]; assumption)), (by omega), (hs.trans (heapBuild_go' (by omega))), hb, (by omega), hO88⟩ (by omega)
 · -- 19F
  refine reg_nil ?_
  refine hK86 _ _ ?_
  refine wp_cond_false (ev_hit hN83 rfl) ?_
  refine wp_exit (then_exit (then_exit (blk_hit ?_)))
  refine hK81 _ _ ?_
  refine seq_any fun K91 hK91 => ?_
  refine one_reg ?_
  refine op_move (ev_base hN83 rfl s83_8) ?_
  refine op_sub (ev_hit hN83 rfl) rfl (sub64 (by omega)) ?_
  refine op_assign (ev_hit hN83 rfl) ?_
  refine reg_nil ?_
  refine hK91 _ _ ?_
  refine wp_block ?_
  refine loop_m (fun mz_ az_ w' => ∃ (q : Nat) (dj : Ar), mz_ = (q + 1) ∧ (az_.tmps.getD 0 undef = v) ∧ (az_.tmps.getD 6 undef = (Value.int .i64 ((a : Nat) : Int))) ∧ (az_.tmps.getD 7 undef = (Value.int .i64 0)) ∧ (az_.tmps.getD 10 undef = (Value.int .i64 (((q : Nat) : Int) - 1))) ∧ (dj.size = n) ∧ (q ≤ b - a) ∧ (heapPop ltT a (b - a) (heapBuild ltT (b - a) a ((b - a - 1) / 2 + 1) d) = heapPop ltT a q dj) ∧ (w.grownBy w' v.ownBlock) ∧ (w83.heap.size ≤ w'.heap.size) ∧ (Own w' base 35 1 v n (dj.toList.map u16v))) _ hN83 hd83 ⟨(b - a), _, rfl, (sl_base hN83 rfl s83_0), (sl_base hN83 rfl s83_6), (sl_base hN83 rfl s83_7), (sl_hit hN83 rfl).trans (congrArg (Value.int .i64) (by omega)), (by first | assumption | (simp only [Array.size_setIfInBounds, swp_sz, siftDown_size]; assumption)), Nat.le_refl _, (congrArg (heapPop ltT a (b - a)) (hs.trans (by rw [show k = 0 by omega]; rfl))), hb, (Nat.le_refl _), hO84⟩ ?_
  rintro _ a92 w92 hN92 hd92 ⟨q, dj, rfl, s92_0, s92_6, s92_7, s92_10, hdj, hk, hs2, hb, zl_w92, hO93⟩
  have z_w92 := hb.size
  refine seq_any fun K94 hK94 => ?_
  refine seq_any fun K95 hK95 => ?_
  refine one_reg ?_
  refine op_move (ev_base hN92 rfl s92_10) ?_
  refine op_geq (ev_hit hN92 rfl) rfl (fun c30 => ?_) (fun c30 => ?_)
  · -- 30T
   refine reg_nil ?_
   refine hK95 _ _ ?_
   refine wp_cond_true (ev_hit hN92 rfl) ?_
   refine wp_skip ?_
   refine hK94 _ _ ?_
   refine seq_any fun K96 hK96 => ?_
   refine wp_block ?_
   refine seq_any fun K97 hK97 => ?_
   refine reg_mid (e := 35) (sz := 1) (base := base) (n := n) (v := v) (Φ := phiL [(fun uz _ => uz = v), (fun uz _ => uz = (Value.int .i64 ((a : Nat) : Int))), (fun uz _ => uz = v), (fun uz _ => uz = (Value.int .i64 ((a : Nat) : Int))), (fun uz _ => uz = (Value.int .i64 ((q - 1 : Nat) : Int))), (fun uz _ => uz = (Value.int .i64 (((a : Nat) : Int) + ((q - 1 : Nat) : Int)))), (fun uz _ => uz = v), (fun uz _ => uz = (Value.int .i64 ((a : Nat) : Int))), (fun uz _ => uz = (Value.int .i64 ((q - 1 : Nat) : Int))), (fun uz _ => uz = (Value.int .i64 (((a : Nat) : Int) + ((q - 1 : Nat) : Int)))), (fun uz _ => ∃ bz oz, uz = ptr bz oz ∧ AtV v (a + (q - 1)) bz oz), (fun uz _ => uz = (Value.int .u16 (dj[(a + (q - 1))]!.toNat : Int))), (fun uz _ => uz = v), (fun uz _ => uz = (Value.int .i64 ((a : Nat) : Int))), (fun uz _ => ∃ bz oz, uz = ptr bz oz ∧ AtV v a bz oz), (fun uz _ => uz = (Value.int .u16 (dj[a]!.toNat : Int))), (fun uz _ => ∃ bz oz, uz = ptr bz oz ∧ AtV v a bz oz), (fun _ _ => True), (fun uz _ => ∃ bz oz, uz = ptr bz oz ∧ AtV v (a + (q - 1)) bz oz), (fun _ _ => True)]) [17, 19] [(dj.toList.map u16v), ((dj.setIfInBounds a dj[(a + (q - 1))]!).toList.map u16v), (((dj.setIfInBounds a dj[(a + (q - 1))]!).setIfInBounds (a + (q - 1)) dj[a]!).toList.map u16v)] mixed (by kernel_rfl) (by kernel_rfl) (by kernel_rfl) (by kernel_rfl) hN92 hO93 (StL.get (StL.eq (StL.eq (StL.eq (StL.eq (StL.eq (StL.eq (StL.eq (StL.eq (StL.eq (StL.eq (StL.at (StL.eq (StL.eq (StL.eq (StL.at (StL.eq (StL.at (StL.cons (fun _ _ _ _ h => h) (StL.at (StL.cons (fun _ _ _ _ h => h) (StL.nil _)))))))))))))))))))))) (ObRs.get (ObRs.cons ?_ (ObRs.cons ?_ (ObRs.cons ?_ (ObRs.cons ?_ (ObRs.cons ?_ (ObRs.cons ?_ (ObRs.cons ?_ (ObRs.cons ?_ (ObRs.cons ?_ (ObRs.cons ?_ (ObRs.cons ?_ (ObRs.cons ?_ (ObRs.cons ?_ (ObRs.cons ?_ (ObRs.cons ?_ (ObRs.cons ?_ (ObRs.cons ?_ (ObRs.pass rfl (ObRs.cons ?_ (ObRs.pass rfl (ObRs.nil)))))))))))))))))))))) (ObWs.get (ObWs.cons ?_ (ObWs.cons ?_ (ObWs.nil)))) ?_
   ·
    intro aA wA cA hNA hRA hckA hOA hbsA hdpA
    have qA_0 := (hbsA 0 rfl).trans (sl_base hN92 rfl s92_0)
    clear hbsA hdpA
    refine op_move (ev_base hNA rfl qA_0) ?_
    exact obR_end rfl rfl (grown_refl _ _)
   ·
    intro aA wA cA hNA hRA hckA hOA hbsA hdpA
    have qA_6 := (hbsA 6 rfl).trans (sl_base hN92 rfl s92_6)
    clear hbsA hdpA
    refine op_move (ev_base hNA rfl qA_6) ?_
    exact obR_end rfl rfl (grown_refl _ _)
   ·
    intro aA wA cA hNA hRA hckA hOA hbsA hdpA
    have qA_0 := (hbsA 0 rfl).trans (sl_base hN92 rfl s92_0)
    clear hbsA hdpA
    refine op_move (ev_base hNA rfl qA_0) ?_
    exact obR_end rfl rfl (grown_refl _ _)
   ·
    intro aA wA cA hNA hRA hckA hOA hbsA hdpA
    have qA_6 := (hbsA 6 rfl).trans (sl_base hN92 rfl s92_6)
    clear hbsA hdpA
    refine op_move (ev_base hNA rfl qA_6) ?_
    exact obR_end rfl rfl (grown_refl _ _)
   ·
    intro aA wA cA hNA hRA hckA hOA hbsA hdpA
    have qA_10 := (hbsA 10 rfl).trans (sl_base hN92 rfl s92_10)
    clear hbsA hdpA
    refine op_move ((ev_base hNA rfl qA_10).trans (congrArg (Value.int .i64) (show _ = ((q - 1 : Nat) : Int) by omega))) ?_
    exact obR_end rfl rfl (grown_refl _ _)
   ·
    intro aA wA cA hNA hRA hckA hOA hbsA hdpA
    have qA_36 : Sl aA 36 (Value.int .i64 ((a : Nat) : Int)) := hdpA 3 _ 36 (by kernel_rfl) rfl rfl
    have qA_37 : Sl aA 37 (Value.int .i64 ((q - 1 : Nat) : Int)) := hdpA 4 _ 37 (by kernel_rfl) rfl rfl
    clear hbsA hdpA
    refine op_add (ev_base hNA rfl qA_36) (ev_base hNA rfl qA_37) (add64 (by omega)) ?_
    exact obR_end rfl rfl (grown_refl _ _)
   ·
    intro aA wA cA hNA hRA hckA hOA hbsA hdpA
    have qA_0 := (hbsA 0 rfl).trans (sl_base hN92 rfl s92_0)
    clear hbsA hdpA
    refine op_move (ev_base hNA rfl qA_0) ?_
    exact obR_end rfl rfl (grown_refl _ _)
   ·
    intro aA wA cA hNA hRA hckA hOA hbsA hdpA
    have qA_6 := (hbsA 6 rfl).trans (sl_base hN92 rfl s92_6)
    clear hbsA hdpA
    refine op_move (ev_base hNA rfl qA_6) ?_
    exact obR_end rfl rfl (grown_refl _ _)
   ·
    intro aA wA cA hNA hRA hckA hOA hbsA hdpA
    have qA_10 := (hbsA 10 rfl).trans (sl_base hN92 rfl s92_10)
    clear hbsA hdpA
    refine op_move ((ev_base hNA rfl qA_10).trans (congrArg (Value.int .i64) (show _ = ((q - 1 : Nat) : Int) by omega))) ?_
    exact obR_end rfl rfl (grown_refl _ _)
   ·
    intro aA wA cA hNA hRA hckA hOA hbsA hdpA
    have qA_40 : Sl aA 40 (Value.int .i64 ((a : Nat) : Int)) := hdpA 7 _ 40 (by kernel_rfl) rfl rfl
    have qA_41 : Sl aA 41 (Value.int .i64 ((q - 1 : Nat) : Int)) := hdpA 8 _ 41 (by kernel_rfl) rfl rfl
    clear hbsA hdpA
    refine op_add (ev_base hNA rfl qA_40) (ev_base hNA rfl qA_41) (add64 (by omega)) ?_
    exact obR_end rfl rfl (grown_refl _ _)
   ·
    intro aA wA cA hNA hRA hckA hOA hbsA hdpA
    have qA_39 : Sl aA 39 v := hdpA 6 _ 39 (by kernel_rfl) rfl rfl
    have qA_42 : Sl aA 42 (Value.int .i64 (((a : Nat) : Int) + ((q - 1 : Nat) : Int))) := hdpA 9 _ 42 (by kernel_rfl) rfl rfl
    clear hbsA hdpA
    refine op_index_own (i := (a + (q - 1))) slt22 (ev_base hNA rfl qA_39) hOA (ev_base hNA rfl qA_42) (by omega) (by omega) ?_
    intro b_ o_ _ hA_
    exact obR_end rfl ⟨b_, o_, rfl, by simpa using hA_⟩ (grown_refl _ _)
   ·
    intro aA wA cA hNA hRA hckA hOA hbsA hdpA
    obtain ⟨bA_43, oA_43, qA_43, hAA_43⟩ := hdpA 10 _ 43 (by kernel_rfl) rfl rfl
    clear hbsA hdpA
    obtain rfl : cA = 0 := Nat.le_zero.1 (hckA 0 17 rfl (by kernel_rfl))
    have hOA : Own wA base 35 1 v n (dj.toList.map u16v) := hOA
    refine op_load1 (v := (Value.int .u16 (dj[(a + (q - 1))]!.toNat : Int))) one35 (ev_base hNA rfl qA_43) (by have := hOA.cellAt hAA_43 0 _ (el_at (i := (a + (q - 1))) (by first | omega | (simp only [Array.size_setIfInBounds, swp_sz, siftDown_size]; omega))); simpa using this) ?_
    exact obR_end rfl rfl (grown_refl _ _)
   ·
    intro aA wA cA hNA hRA hckA hOA hbsA hdpA
    have qA_0 := (hbsA 0 rfl).trans (sl_base hN92 rfl s92_0)
    clear hbsA hdpA
    refine op_move (ev_base hNA rfl qA_0) ?_
    exact obR_end rfl rfl (grown_refl _ _)
   ·
    intro aA wA cA hNA hRA hckA hOA hbsA hdpA
    have qA_6 := (hbsA 6 rfl).trans (sl_base hN92 rfl s92_6)
    clear hbsA hdpA
    refine op_move (ev_base hNA rfl qA_6) ?_
    exact obR_end rfl rfl (grown_refl _ _)
   ·
    intro aA wA cA hNA hRA hckA hOA hbsA hdpA
    have qA_45 : Sl aA 45 v := hdpA 12 _ 45 (by kernel_rfl) rfl rfl
    have qA_46 : Sl aA 46 (Value.int .i64 ((a : Nat) : Int)) := hdpA 13 _ 46 (by kernel_rfl) rfl rfl
    clear hbsA hdpA
    refine op_index_own (i := a) slt22 (ev_base hNA rfl qA_45) hOA (ev_base hNA rfl qA_46) (by omega) (by omega) ?_
    intro b_ o_ _ hA_
    exact obR_end rfl ⟨b_, o_, rfl, by simpa using hA_⟩ (grown_refl _ _)
   ·
    intro aA wA cA hNA hRA hckA hOA hbsA hdpA
    obtain ⟨bA_47, oA_47, qA_47, hAA_47⟩ := hdpA 14 _ 47 (by kernel_rfl) rfl rfl
    clear hbsA hdpA
    obtain rfl : cA = 0 := Nat.le_zero.1 (hckA 0 17 rfl (by kernel_rfl))
    have hOA : Own wA base 35 1 v n (dj.toList.map u16v) := hOA
    refine op_load1 (v := (Value.int .u16 (dj[a]!.toNat : Int))) one35 (ev_base hNA rfl qA_47) (by have := hOA.cellAt hAA_47 0 _ (el_at (i := a) (by first | omega | (simp only [Array.size_setIfInBounds, swp_sz, siftDown_size]; omega))); simpa using this) ?_
    exact obR_end rfl rfl (grown_refl _ _)
   ·
    intro aA wA cA hNA hRA hckA hOA hbsA hdpA
    have qA_33 : Sl aA 33 v := hdpA 0 _ 33 (by kernel_rfl) rfl rfl
    have qA_34 : Sl aA 34 (Value.int .i64 ((a : Nat) : Int)) := hdpA 1 _ 34 (by kernel_rfl) rfl rfl
    clear hbsA hdpA
    refine op_index_own (i := a) slt22 (ev_base hNA rfl qA_33) hOA (ev_base hNA rfl qA_34) (by omega) (by omega) ?_
    intro b_ o_ _ hA_
    exact obR_end rfl ⟨b_, o_, rfl, by simpa using hA_⟩ (grown_refl _ _)
   ·
    intro aA wA cA hNA hRA hckA hOA hbsA hdpA
    have qA_35 : Sl aA 35 v := hdpA 2 _ 35 (by kernel_rfl) rfl rfl
    have qA_38 : Sl aA 38 (Value.int .i64 (((a : Nat) : Int) + ((q - 1 : Nat) : Int))) := hdpA 5 _ 38 (by kernel_rfl) rfl rfl
    clear hbsA hdpA
    refine op_index_own (i := (a + (q - 1))) slt22 (ev_base hNA rfl qA_35) hOA (ev_base hNA rfl qA_38) (by omega) (by omega) ?_
    intro b_ o_ _ hA_
    exact obR_end rfl ⟨b_, o_, rfl, by simpa using hA_⟩ (grown_refl _ _)
   ·
    intro o_ ho_; obtain rfl := Option.some.inj ho_; intro aA wA hNA hRA hbsA hdpA hOA
    obtain ⟨bA_49, oA_49, qA_49, hAA_49⟩ := hdpA 16 _ 49 (by kernel_rfl) rfl rfl
    have qA_44 : Sl aA 44 (Value.int .u16 (dj[(a + (q - 1))]!.toNat : Int)) := hdpA 11 _ 44 (by kernel_rfl) rfl rfl
    clear hbsA hdpA
    have hOA : Own wA base 35 1 v n (dj.toList.map u16v) := hOA
    refine op_store_own (vs := [(Value.int .u16 (dj[(a + (q - 1))]!.toNat : Int))]) size35 (ev_base hNA rfl qA_49) (ev_base hNA rfl qA_44) rfl rfl rfl hOA hAA_49 (by have := hOA.1; simp at this ⊢; omega) ?_
    intro w_ hO_ E_
    exact obW_end rfl (hO_.cast rfl (set_arr (by first | omega | (simp only [Array.size_setIfInBounds, swp_sz, siftDown_size]; omega)))) E_
   ·
    intro o_ ho_; obtain rfl := Option.some.inj ho_; intro aA wA hNA hRA hbsA hdpA hOA
    obtain ⟨bA_50, oA_50, qA_50, hAA_50⟩ := hdpA 18 _ 50 (by kernel_rfl) rfl rfl
    have qA_48 : Sl aA 48 (Value.int .u16 (dj[a]!.toNat : Int)) := hdpA 15 _ 48 (by kernel_rfl) rfl rfl
    clear hbsA hdpA
    have hOA : Own wA base 35 1 v n ((dj.setIfInBounds a dj[(a + (q - 1))]!).toList.map u16v) := hOA
    refine op_store_own (vs := [(Value.int .u16 (dj[a]!.toNat : Int))]) size35 (ev_base hNA rfl qA_50) (ev_base hNA rfl qA_48) rfl rfl rfl hOA hAA_50 (by have := hOA.1; simp at this ⊢; omega) ?_
    intro w_ hO_ E_
    exact obW_end rfl (hO_.cast rfl (set_arr (by first | omega | (simp only [Array.size_setIfInBounds, swp_sz, siftDown_size]; omega)))) E_
   ·
    intro a98 w98 hN98 hd98 hbs98 hph98 hO98 E98
    have hd98 := hd98.trans hd92
    have s98_0 := (hbs98 0 rfl).trans (sl_base hN92 rfl s92_0)
    have s98_6 := (hbs98 6 rfl).trans (sl_base hN92 rfl s92_6)
    have s98_7 := (hbs98 7 rfl).trans (sl_base hN92 rfl s92_7)
    have s98_10 := (hbs98 10 rfl).trans (sl_base hN92 rfl s92_10)
    clear hbs98 hph98
    have hO98 : Own w98 base 35 1 v n (((dj.setIfInBounds a dj[(a + (q - 1))]!).setIfInBounds (a + (q - 1)) dj[a]!).toList.map u16v) := hO98
    have z_w98 := E98.size
    have hb := grow_stepX hb E98 rfl
    refine hK97 _ _ ?_
    refine one_reg ?_
    refine op_move (ev_base hN98 rfl s98_0) ?_
    refine op_move (ev_base hN98 rfl s98_7) ?_
    refine op_move ((ev_base hN98 rfl s98_10).trans (congrArg (Value.int .i64) (show _ = ((q - 1 : Nat) : Int) by omega))) ?_
    refine op_move (ev_base hN98 rfl s98_6) ?_
    refine op_fn (vs := [v, (Value.int .i64 0), (Value.int .i64 ((q - 1 : Nat) : Int)), (Value.int .i64 ((a : Nat) : Int))]) ok77 ⟨(ev_hit hN98 rfl), ⟨(ev_hit hN98 rfl), ⟨(ev_hit hN98 rfl), ⟨(ev_hit hN98 rfl), trivial⟩⟩⟩⟩ (siftDownW_ret ((dj.setIfInBounds a dj[(a + (q - 1))]!).setIfInBounds (a + (q - 1)) dj[a]!) _ _ _ 0 (q - 1) a _ (by first | assumption | (simp only [Array.size_setIfInBounds, swp_sz, siftDown_size]; assumption)) (by omega) hO98 (by omega) (by omega)) ?_
    rintro _ w100 ⟨E101, rfl, hO99⟩
    have z_w100 := E101.size
    have hb := grow_stepX hb E101 rfl
    refine reg_nil ?_
    refine hK96 _ _ ?_
    refine one_reg ?_
    refine op_move (ev_base hN98 rfl s98_10) ?_
    refine op_sub (ev_hit hN98 rfl) rfl (sub64 (by omega)) ?_
    refine op_assign (ev_hit hN98 rfl) ?_
    refine reg_nil ?_
    -- round 19F 30T
    exact loop_next _ hN98 hd98 ⟨(q - 1), _, rfl, (sl_base hN98 rfl s98_0), (sl_base hN98 rfl s98_6), (sl_base hN98 rfl s98_7), (sl_hit hN98 rfl).trans (congrArg (Value.int .i64) (by omega)), (by first | assumption | (simp only [Array.size_setIfInBounds, swp_sz, siftDown_size]; assumption)), (by omega), (hs2.trans (heapPop_go' (by omega))), hb, (by omega), hO99⟩ (by omega)
  · -- 30F
   refine reg_nil ?_
   refine hK95 _ _ ?_
   refine wp_cond_false (ev_hit hN92 rfl) ?_
   refine wp_exit (then_exit (then_exit (blk_hit ?_)))
   refine end_ret ?_
   refine ret0 rfl hd92  ⟨_, rfl, ?_⟩
   -- path 19F 30F
   exact ⟨hb, rfl, hO93.cast rfl (by rw [show heapSort ltT d a b = heapPop ltT a (b - a) (heapBuild ltT (b - a) a ((b - a - 1) / 2 + 1) d) from rfl, hs2, show q = 0 by omega]; rfl)⟩

end Go.Proofs.Ytpmnljffdofkeaa

/- Walks, written by a program: what each function of the translation hands back. -/
namespace Go.Proofs.Ytpmnljffdofkeaa
open Go.Gx Go.RowKit
attribute [local irreducible] wpList wpStill Code.wp Calls
open Go.Sort (insertionSort insOuter insInner swp siftDown heapSort heapBuild heapPop scanUp scanDown partition partLoop partitionEqual partEqLoop scanSorted partialIns bitsLen partialInsertionSort shiftDown shiftUp SortedIn reverseRange reverseLoop fixDown fixUp)
theorem revW_ret (d : Ar) (v : Value) (n base : Nat) (a b : Nat) (w : World) (hd : d.size = n) (hn : n ≤ 4000000000000000000) (O : Own w base 35 1 v n (d.toList.map u16v)) (hab : a < b) (hbn : b ≤ n) : Ret Try.prog 70 #[v, (Value.int .i64 ((a : Nat) : Int)), (Value.int .i64 ((b : Nat) : Int))] w (fun v' w' => w.grownBy w' v.ownBlock ∧ v' = .tuple #[] ∧ Own w' base 35 1 v n ((reverseRange d a b).toList.map u16v)) := by
 have hb := grown_refl w v.ownBlock
 refine enter (N := 32) Try.func70 rfl rfl (by simp) fun a0 hN hd hA => ?_
 have s0 : a0.tmps.getD 0 undef = v := hA 0 (by simp)
 have s1 : a0.tmps.getD 1 undef = (Value.int .i64 ((a : Nat) : Int)) := hA 1 (by simp)
 have s2 : a0.tmps.getD 2 undef = (Value.int .i64 ((b : Nat) : Int)) := hA 2 (by simp)
 clear hA
 refine seq_any fun K102 hK102 => ?_
 refine one_reg ?_
 refine op_move (ev_base hN rfl s1) ?_
 refine op_assign (ev_hit hN rfl) ?_
 refine reg_nil ?_
 refine hK102 _ _ ?_
 refine seq_any fun K103 hK103 => ?_
 refine one_reg ?_
 refine op_move (ev_base hN rfl s2) ?_
 refine op_sub (r := ((b - 1 : Nat) : Int)) (ev_hit hN rfl) rfl (by rw [IntKind.wrap_i64]; omega) ?_
 refine op_assign (ev_hit hN rfl) ?_
 refine reg_nil ?_
 refine hK103 _ _ ?_
 refine wp_block ?_
 refine loop_m (fun mz_ az_ w' => ∃ (ix jx : Nat) (dk : Ar), mz_ = (jx + 1 - ix) ∧ (az_.tmps.getD 0 undef = v) ∧ (az_.tmps.getD 6 undef = (Value.int .i64 ((ix : Nat) : Int))) ∧ (az_.tmps.getD 7 undef = (Value.int .i64 ((jx : Nat) : Int))) ∧ (dk.size = n) ∧ (a ≤ ix ∧ jx < b) ∧ (reverseLoop a (b - 1) d = reverseLoop ix jx dk) ∧ (w.grownBy w' v.ownBlock) ∧ (w.heap.size ≤ w'.heap.size) ∧ (Own w' base 35 1 v n (dk.toList.map u16v))) _ hN hd ⟨a, (b - 1), _, rfl, (sl_base hN rfl s0), (sl_hit hN rfl).trans (congrArg (Value.int .i64) (by omega)), (sl_hit hN rfl).trans (congrArg (Value.int .i64) (by omega)), (by first | assumption | (simp only [Array.size_setIfInBounds, swp_sz, siftDown_size]; assumption)), (by omega), rfl, hb, (Nat.le_refl _), O⟩ ?_
 rintro _ a104 w104 hN104 hd104 ⟨ix, jx, dk, rfl, s104_0, s104_6, s104_7, hdk, hrng, hs, hb, zl_w104, hO105⟩
 have z_w104 := hb.size
 refine seq_any fun K106 hK106 => ?_
 refine seq_any fun K107 hK107 => ?_
 refine one_reg ?_
 refine op_move (ev_base hN104 rfl s104_6) ?_
 refine op_move (ev_base hN104 rfl s104_7) ?_
 refine op_lss (ev_hit hN104 rfl) (ev_hit hN104 rfl) (fun c13 => ?_) (fun c13 => ?_)
 · -- 13T
  refine reg_nil ?_
  refine hK107 _ _ ?_
  refine wp_cond_true (ev_hit hN104 rfl) ?_
  refine wp_skip ?_
  refine hK106 _ _ ?_
  refine wp_block ?_
  refine seq_any fun K108 hK108 => ?_
  refine reg_mid (e := 35) (sz := 1) (base := base) (n := n) (v := v) (Φ := phiL [(fun uz _ => uz = v), (fun uz _ => uz = (Value.int .i64 ((ix : Nat) : Int))), (fun uz _ => uz = v), (fun uz _ => uz = (Value.int .i64 ((jx : Nat) : Int))), (fun uz _ => uz = v), (fun uz _ => uz = (Value.int .i64 ((jx : Nat) : Int))), (fun uz _ => ∃ bz oz, uz = ptr bz oz ∧ AtV v jx bz oz), (fun uz _ => uz = (Value.int .u16 (dk[jx]!.toNat : Int))), (fun uz _ => uz = v), (fun uz _ => uz = (Value.int .i64 ((ix : Nat) : Int))), (fun uz _ => ∃ bz oz, uz = ptr bz oz ∧ AtV v ix bz oz), (fun uz _ => uz = (Value.int .u16 (dk[ix]!.toNat : Int))), (fun uz _ => ∃ bz oz, uz = ptr bz oz ∧ AtV v ix bz oz), (fun _ _ => True), (fun uz _ => ∃ bz oz, uz = ptr bz oz ∧ AtV v jx bz oz), (fun _ _ => True)]) [13, 15] [(dk.toList.map u16v), ((dk.setIfInBounds ix dk[jx]!).toList.map u16v), (((dk.setIfInBounds ix dk[jx]!).setIfInBounds jx dk[ix]!).toList.map u16v)] mixed (by kernel_rfl) (by kernel_rfl) (by kernel_rfl) (by kernel_rfl) hN104 hO105 (StL.get (StL.eq (StL.eq (StL.eq (StL.eq (StL.eq (StL.eq (StL.at (StL.eq (StL.eq (StL.eq (StL.at (StL.eq (StL.at (StL.cons (fun _ _ _ _ h => h) (StL.at (StL.cons (fun _ _ _ _ h => h) (StL.nil _)))))))))))))))))) (ObRs.get (ObRs.cons ?_ (ObRs.cons ?_ (ObRs.cons ?_ (ObRs.cons ?_ (ObRs.cons ?_ (ObRs.cons ?_ (ObRs.cons ?_ (ObRs.cons ?_ (ObRs.cons ?_ (ObRs.cons ?_ (ObRs.cons ?_ (ObRs.cons ?_ (ObRs.cons ?_ (ObRs.pass rfl (ObRs.cons ?_ (ObRs.pass rfl (ObRs.nil)))))))))))))))))) (ObWs.get (ObWs.cons ?_ (ObWs.cons ?_ (ObWs.nil)))) ?_
  ·
   intro aA wA cA hNA hRA hckA hOA hbsA hdpA
   have qA_0 := (hbsA 0 rfl).trans (sl_base hN104 rfl s104_0)
   clear hbsA hdpA
   refine op_move (ev_base hNA rfl qA_0) ?_
   exact obR_end rfl rfl (grown_refl _ _)
  ·
   intro aA wA cA hNA hRA hckA hOA hbsA hdpA
   have qA_6 := (hbsA 6 rfl).trans (sl_base hN104 rfl s104_6)
   clear hbsA hdpA
   refine op_move (ev_base hNA rfl qA_6) ?_
   exact obR_end rfl rfl (grown_refl _ _)
  ·
   intro aA wA cA hNA hRA hckA hOA hbsA hdpA
   have qA_0 := (hbsA 0 rfl).trans (sl_base hN104 rfl s104_0)
   clear hbsA hdpA
   refine op_move (ev_base hNA rfl qA_0) ?_
   exact obR_end rfl rfl (grown_refl _ _)
  ·
   intro aA wA cA hNA hRA hckA hOA hbsA hdpA
   have qA_7 := (hbsA 7 rfl).trans (sl_base hN104 rfl s104_7)
   clear hbsA hdpA
   refine op_move (ev_base hNA rfl qA_7) ?_
   exact obR_end rfl rfl (grown_refl _ _)
  ·
   intro aA wA cA hNA hRA hckA hOA hbsA hdpA
   have qA_0 := (hbsA 0 rfl).trans (sl_base hN104 rfl s104_0)
   clear hbsA hdpA
   refine op_move (ev_base hNA rfl qA_0) ?_
   exact obR_end rfl rfl (grown_refl _ _)
  ·
   intro aA wA cA hNA hRA hckA hOA hbsA hdpA
   have qA_7 := (hbsA 7 rfl).trans (sl_base hN104 rfl s104_7)
   clear hbsA hdpA
   refine op_move (ev_base hNA rfl qA_7) ?_
   exact obR_end rfl rfl (grown_refl _ _)
  ·
   intro aA wA cA hNA hRA hckA hOA hbsA hdpA
   have qA_18 : Sl aA 18 v := hdpA 4 _ 18 (by kernel_rfl) rfl rfl
   have qA_19 : Sl aA 19 (Value.int .i64 ((jx : Nat) : Int)) := hdpA 5 _ 19 (by kernel_rfl) rfl rfl
   clear hbsA hdpA
   refine op_index_own (i := jx) slt22 (ev_base hNA rfl qA_18) hOA (ev_base hNA rfl qA_19) (by omega) (by omega) ?_
   intro b_ o_ _ hA_
   exact obR_end rfl ⟨b_, o_, rfl, by simpa using hA_⟩ (grown_refl _ _)
  ·
   intro aA wA cA hNA hRA hckA hOA hbsA hdpA
   obtain ⟨bA_20, oA_20, qA_20, hAA_20⟩ := hdpA 6 _ 20 (by kernel_rfl) rfl rfl
   clear hbsA hdpA
   obtain rfl : cA = 0 := Nat.le_zero.1 (hckA 0 13 rfl (by kernel_rfl))
   have hOA : Own wA base 35 1 v n (dk.toList.map u16v) := hOA
   refine op_load1 (v := (Value.int .u16 (dk[jx]!.toNat : Int))) one35 (ev_base hNA rfl qA_20) (by have := hOA.cellAt hAA_20 0 _ (el_at (i := jx) (by first | omega | (simp only [Array.size_setIfInBounds, swp_sz, siftDown_size]; omega))); simpa using this) ?_
   exact obR_end rfl rfl (grown_refl _ _)
  ·
   intro aA wA cA hNA hRA hckA hOA hbsA hdpA
   have qA_0 := (hbsA 0 rfl).trans (sl_base hN104 rfl s104_0)
   clear hbsA hdpA
   refine op_move (ev_base hNA rfl qA_0) ?_
   exact obR_end rfl rfl (grown_refl _ _)
  ·
   intro aA wA cA hNA hRA hckA hOA hbsA hdpA
   have qA_6 := (hbsA 6 rfl).trans (sl_base hN104 rfl s104_6)
   clear hbsA hdpA
   refine op_move (ev_base hNA rfl qA_6) ?_
   exact obR_end rfl rfl (grown_refl _ _)
  ·
   intro aA wA cA hNA hRA hckA hOA hbsA hdpA
   have qA_22 : Sl aA 22 v := hdpA 8 _ 22 (by kernel_rfl) rfl rfl
   have qA_23 : Sl aA 23 (Value.int .i64 ((ix : Nat) : Int)) := hdpA 9 _ 23 (by kernel_rfl) rfl rfl
   clear hbsA hdpA
   refine op_index_own (i := ix) slt22 (ev_base hNA rfl qA_22) hOA (ev_base hNA rfl qA_23) (by omega) (by omega) ?_
   intro b_ o_ _ hA_
   exact obR_end rfl ⟨b_, o_, rfl, by simpa using hA_⟩ (grown_refl _ _)
  ·
   intro aA wA cA hNA hRA hckA hOA hbsA hdpA
   obtain ⟨bA_24, oA_24, qA_24, hAA_24⟩ := hdpA 10 _ 24 (by kernel_rfl) rfl rfl
   clear hbsA hdpA
   obtain rfl : cA = 0 := Nat.le_zero.1 (hckA 0 13 rfl (by kernel_rfl))
   have hOA : Own wA base 35 1 v n (dk.toList.map u16v) := hOA
   refine op_load1 (v := (Value.int .u16 (dk[ix]!.toNat : Int))) one35 (ev_base hNA rfl qA_24) (by have := hOA.cellAt hAA_24 0 _ (el_at (i := ix) (by first | omega | (simp only [Array.size_setIfInBounds, swp_sz, siftDown_size]; omega))); simpa using this) ?_
   exact obR_end rfl rfl (grown_refl _ _)
  ·
   intro aA wA cA hNA hRA hckA hOA hbsA hdpA
   have qA_14 : Sl aA 14 v := hdpA 0 _ 14 (by kernel_rfl) rfl rfl
   have qA_15 : Sl aA 15 (Value.int .i64 ((ix : Nat) : Int)) := hdpA 1 _ 15 (by kernel_rfl) rfl rfl
   clear hbsA hdpA
   refine op_index_own (i := ix) slt22 (ev_base hNA rfl qA_14) hOA (ev_base hNA rfl qA_15) (by omega) (by omega) ?_
   intro b_ o_ _ hA_
   exact obR_end rfl ⟨b_, o_, rfl, by simpa using hA_⟩ (grown_refl _ _)
  ·
   intro aA wA cA hNA hRA hckA hOA hbsA hdpA
   have qA_16 : Sl aA 16 v := hdpA 2 _ 16 (by kernel_rfl) rfl rfl
   have qA_17 : Sl aA 17 (Value.int .i64 ((jx : Nat) : Int)) := hdpA 3 _ 17 (by kernel_rfl) rfl rfl
   clear hbsA hdpA
   refine op_index_own (i := jx) slt22 (ev_base hNA rfl qA_16) hOA (ev_base hNA rfl qA_17) (by omega) (by omega) ?_
   intro b_ o_ _ hA_
   exact obR_end rfl ⟨b_, o_, rfl, by simpa using hA_⟩ (grown_refl _ _)
  ·
   intro o_ ho_; obtain rfl := Option.some.inj ho_; intro aA wA hNA hRA hbsA hdpA hOA
   obtain ⟨bA_26, oA_26, qA_26, hAA_26⟩ := hdpA 12 _ 26 (by kernel_rfl) rfl rfl
   have qA_21 : Sl aA 21 (Value.int .u16 (dk[jx]!.toNat : Int)) := hdpA 7 _ 21 (by kernel_rfl) rfl rfl
   clear hbsA hdpA
   have hOA : Own wA base 35 1 v n (dk.toList.map u16v) := hOA
   refine op_store_own (vs := [(Value.int .u16 (dk[jx]!.toNat : Int))]) size35 (ev_base hNA rfl qA_26) (ev_base hNA rfl qA_21) rfl rfl rfl hOA hAA_26 (by have := hOA.1; simp at this ⊢; omega) ?_
   intro w_ hO_ E_
   exact obW_end rfl (hO_.cast rfl (set_arr (by first | omega | (simp only [Array.size_setIfInBounds, swp_sz, siftDown_size]; omega)))) E_
  ·
   intro o_ ho_; obtain rfl := Option.some.inj ho_; intro aA wA hNA hRA hbsA hdpA hOA
   obtain ⟨bA_27, oA_27, qA_27, hAA_27⟩ := hdpA 14 _ 27 (by kernel_rfl) rfl rfl
   have qA_25 : Sl aA 25 (Value.int .u16 (dk[ix]!.toNat : Int)) := hdpA 11 _ 25 (by kernel_rfl) rfl rfl
   clear hbsA hdpA
   have hOA : Own wA base 35 1 v n ((dk.setIfInBounds ix dk[jx]!).toList.map u16v) := hOA
   refine op_store_own (vs := [(Value.int .u16 (dk[ix]!.toNat : Int))]) size35 (ev_base hNA rfl qA_27) (ev_base hNA rfl qA_25) rfl rfl rfl hOA hAA_27 (by have := hOA.1; simp at this ⊢; omega) ?_
   intro w_ hO_ E_
   exact obW_end rfl (hO_.cast rfl (set_arr (by first | omega | (simp only [Array.size_setIfInBounds, swp_sz, siftDown_size]; omega)))) E_
  ·
   intro a109 w109 hN109 hd109 hbs109 hph109 hO109 E109
   have hd109 := hd109.trans hd104
   have s109_0 := (hbs109 0 rfl).trans (sl_base hN104 rfl s104_0)
   have s109_6 := (hbs109 6 rfl).trans (sl_base hN104 rfl s104_6)
   have s109_7 := (hbs109 7 rfl).trans (sl_base hN104 rfl s104_7)
   clear hbs109 hph109
   have hO109 : Own w109 base 35 1 v n (((dk.setIfInBounds ix dk[jx]!).setIfInBounds jx dk[ix]!).toList.map u16v) := hO109
   have z_w109 := E109.size
   have hb := grow_stepX hb E109 rfl
   refine hK108 _ _ ?_
   refine seq_any fun K110 hK110 => ?_
   refine one_reg ?_
   refine op_move (ev_base hN109 rfl s109_6) ?_
   refine op_add (ev_hit hN109 rfl) rfl (add64 (by omega)) ?_
   refine op_assign (ev_hit hN109 rfl) ?_
   refine reg_nil ?_
   refine hK110 _ _ ?_
   refine one_reg ?_
   refine op_move (ev_base hN109 rfl s109_7) ?_
   refine op_sub (ev_hit hN109 rfl) rfl (sub64 (by omega)) ?_
   refine op_assign (ev_hit hN109 rfl) ?_
   refine reg_nil ?_
   refine blk_normal ?_
   -- round 13T
   exact loop_next _ hN109 hd109 ⟨(ix + 1), (jx - 1), _, rfl, (sl_base hN109 rfl s109_0), (sl_hit hN109 rfl).trans (congrArg (Value.int .i64) (by omega)), (sl_hit hN109 rfl).trans (congrArg (Value.int .i64) (by omega)), (by first | assumption | (simp only [Array.size_setIfInBounds, swp_sz, siftDown_size]; assumption)), (by omega), (hs.trans (rev_go (by omega))), hb, (by omega), hO109⟩ (by omega)
 · -- 13F
  refine reg_nil ?_
  refine hK107 _ _ ?_
  refine wp_cond_false (ev_hit hN104 rfl) ?_
  refine wp_exit (then_exit (then_exit (blk_hit ?_)))
  refine end_ret ?_
  refine ret0 rfl hd104  ⟨_, rfl, ?_⟩
  -- path 13F
  exact ⟨hb, rfl, hO105.cast rfl (by rw [show reverseRange d a b = reverseLoop a (b - 1) d from rfl, hs, rev_stop (by omega)])⟩

end Go.Proofs.Ytpmnljffdofkeaa

/- Walks, written by a program: what each function of the translation hands back. -/
namespace Go.Proofs.Ytpmnljffdofkeaa
open Go.Gx Go.RowKit
attribute [local irreducible] wpList wpStill Code.wp Calls
open Go.Sort (insertionSort insOuter insInner swp siftDown heapSort heapBuild heapPop scanUp scanDown partition partLoop partitionEqual partEqLoop scanSorted partialIns bitsLen partialInsertionSort shiftDown shiftUp SortedIn reverseRange reverseLoop fixDown fixUp)
theorem len64W_ret (n : Nat) (w : World) (hn : n < 18446744073709551616) : Ret Try.prog 76 #[(Value.int .u64 ((n : Nat) : Int))] w (fun v' w' => Below w.heap.size w w' ∧ v' = .int .i64 (bitsLen n : Int)) := by
 have hb := Below.refl w.heap.size w
 refine enter (N := 25) Try.func76 rfl rfl (by simp) fun a0 hN hd hA => ?_
 have s0 : a0.tmps.getD 0 undef = (Value.int .u64 ((n : Nat) : Int)) := hA 0 (by simp)
 clear hA
 refine seq_any fun K409 hK409 => ?_
 refine one_reg ?_
 refine op_assign rfl ?_
 refine reg_nil ?_
 refine hK409 _ _ ?_
 refine seq_join1 (N := 25) (fun az_ w' => ∃ (x1 k1 : Nat), (az_.tmps.getD 0 undef = (Value.int .u64 ((x1 : Nat) : Int))) ∧ (az_.tmps.getD 2 undef = (Value.int .i64 ((k1 : Nat) : Int))) ∧ (bitsLen n = k1 + bitsLen x1 ∧ x1 < 4294967296 ∧ k1 ≤ 32) ∧ (Below w.heap.size w w') ∧ (w.heap.size ≤ w'.heap.size)) (fun hJ410 => ?_) ?_
 ·
  refine seq_any fun K411 hK411 => ?_
  refine seq_any fun K412 hK412 => ?_
  refine one_reg ?_
  refine op_move (ev_base hN rfl s0) ?_
  refine op_geq (ev_hit hN rfl) rfl (fun c4 => ?_) (fun c4 => ?_)
  · -- 4T
   refine reg_nil ?_
   refine hK412 _ _ ?_
   refine wp_cond_true (ev_hit hN rfl) ?_
   refine seq_any fun K413 hK413 => ?_
   refine one_reg ?_
   refine op_move (ev_base hN rfl s0) ?_
   refine op_shr (r := ((n / 4294967296 : Nat) : Int)) (ev_hit hN rfl) rfl (by decide) (shr_nat (j := 32) (by omega) (by decide)) ?_
   refine op_assign (ev_hit hN rfl) ?_
   refine reg_nil ?_
   refine hK413 _ _ ?_
   refine one_reg ?_
   refine op_assign rfl ?_
   refine reg_nil ?_
   refine hK411 _ _ ?_
   exact hJ410 _ _ _ hN hd ⟨(n / 4294967296), (0 + 32), (sl_hit hN rfl).trans (congrArg (Value.int .u64) (by omega)), (sl_hit hN rfl).trans (congrArg (Value.int .i64) (by omega)), (by have hz := bits_32 (n := n) (by omega); omega), hb, (by omega)⟩
  · -- 4F
   refine reg_nil ?_
   refine hK412 _ _ ?_
   refine wp_cond_false (ev_hit hN rfl) ?_
   refine wp_skip ?_
   refine hK411 _ _ ?_
   exact hJ410 _ _ _ hN hd ⟨n, 0, (sl_base hN rfl s0).trans (congrArg (Value.int .u64) (by omega)), (sl_hit hN rfl).trans (congrArg (Value.int .i64) (by omega)), (by omega), hb, (by omega)⟩
 ·
  rintro a410 w410 hN410 hd410 ⟨x1, k1, s410_0, s410_2, hx1, hb, zl_w410⟩
  have z_w410 := hb.size
  refine seq_join1 (N := 25) (fun az_ w' => ∃ (x2 k2 : Nat), (az_.tmps.getD 0 undef = (Value.int .u64 ((x2 : Nat) : Int))) ∧ (az_.tmps.getD 2 undef = (Value.int .i64 ((k2 : Nat) : Int))) ∧ (bitsLen n = k2 + bitsLen x2 ∧ x2 < 65536 ∧ k2 ≤ 48) ∧ (Below w.heap.size w w') ∧ (w410.heap.size ≤ w'.heap.size)) (fun hJ414 => ?_) ?_
  ·
   refine seq_any fun K415 hK415 => ?_
   refine seq_any fun K416 hK416 => ?_
   refine one_reg ?_
   refine op_move (ev_base hN410 rfl s410_0) ?_
   refine op_geq (ev_hit hN410 rfl) rfl (fun c8 => ?_) (fun c8 => ?_)
   · -- 8T
    refine reg_nil ?_
    refine hK416 _ _ ?_
    refine wp_cond_true (ev_hit hN410 rfl) ?_
    refine seq_any fun K417 hK417 => ?_
    refine one_reg ?_
    refine op_move (ev_base hN410 rfl s410_0) ?_
    refine op_shr (r := ((x1 / 65536 : Nat) : Int)) (ev_hit hN410 rfl) rfl (by decide) (shr_nat (j := 16) (by omega) (by decide)) ?_
    refine op_assign (ev_hit hN410 rfl) ?_
    refine reg_nil ?_
    refine hK417 _ _ ?_
    refine one_reg ?_
    refine op_move (ev_base hN410 rfl s410_2) ?_
    refine op_add (ev_hit hN410 rfl) rfl (add64 (by omega)) ?_
    refine op_assign (ev_hit hN410 rfl) ?_
    refine reg_nil ?_
    refine hK415 _ _ ?_
    exact hJ414 _ _ _ hN410 hd410 ⟨(x1 / 65536), (k1 + 16), (sl_hit hN410 rfl).trans (congrArg (Value.int .u64) (by omega)), (sl_hit hN410 rfl).trans (congrArg (Value.int .i64) (by omega)), (by have hz := bits_16 (n := x1) (by omega); omega), hb, (by omega)⟩
   · -- 8F
    refine reg_nil ?_
    refine hK416 _ _ ?_
    refine wp_cond_false (ev_hit hN410 rfl) ?_
    refine wp_skip ?_
    refine hK415 _ _ ?_
    exact hJ414 _ _ _ hN410 hd410 ⟨x1, k1, (sl_base hN410 rfl s410_0).trans (congrArg (Value.int .u64) (by omega)), (sl_base hN410 rfl s410_2).trans (congrArg (Value.int .i64) (by omega)), (by omega), hb, (by omega)⟩
  ·
   rintro a414 w414 hN414 hd414 ⟨x2, k2, s414_0, s414_2, hx2, hb, zl_w414⟩
   have z_w414 := hb.size
   refine seq_join1 (N := 25) (fun az_ w' => ∃ (x3 k3 : Nat), (az_.tmps.getD 0 undef = (Value.int .u64 ((x3 : Nat) : Int))) ∧ (az_.tmps.getD 2 undef = (Value.int .i64 ((k3 : Nat) : Int))) ∧ (bitsLen n = k3 + bitsLen x3 ∧ x3 < 256 ∧ k3 ≤ 56) ∧ (Below w.heap.size w w') ∧ (w414.heap.size ≤ w'.heap.size)) (fun hJ418 => ?_) ?_
   ·
    refine seq_any fun K419 hK419 => ?_
    refine seq_any fun K420 hK420 => ?_
    refine one_reg ?_
    refine op_move (ev_base hN414 rfl s414_0) ?_
    refine op_geq (ev_hit hN414 rfl) rfl (fun c14 => ?_) (fun c14 => ?_)
    · -- 14T
     refine reg_nil ?_
     refine hK420 _ _ ?_
     refine wp_cond_true (ev_hit hN414 rfl) ?_
     refine seq_any fun K421 hK421 => ?_
     refine one_reg ?_
     refine op_move (ev_base hN414 rfl s414_0) ?_
     refine op_shr (r := ((x2 / 256 : Nat) : Int)) (ev_hit hN414 rfl) rfl (by decide) (shr_nat (j := 8) (by omega) (by decide)) ?_
     refine op_assign (ev_hit hN414 rfl) ?_
     refine reg_nil ?_
     refine hK421 _ _ ?_
     refine one_reg ?_
     refine op_move (ev_base hN414 rfl s414_2) ?_
     refine op_add (ev_hit hN414 rfl) rfl (add64 (by omega)) ?_
     refine op_assign (ev_hit hN414 rfl) ?_
     refine reg_nil ?_
     refine hK419 _ _ ?_
     exact hJ418 _ _ _ hN414 hd414 ⟨(x2 / 256), (k2 + 8), (sl_hit hN414 rfl).trans (congrArg (Value.int .u64) (by omega)), (sl_hit hN414 rfl).trans (congrArg (Value.int .i64) (by omega)), (by have hz := bits_8 (n := x2) (by omega); omega), hb, (by omega)⟩
    · -- 14F
     refine reg_nil ?_
     refine hK420 _ _ ?_
     refine wp_cond_false (ev_hit hN414 rfl) ?_
     refine wp_skip ?_
     refine hK419 _ _ ?_
     exact hJ418 _ _ _ hN414 hd414 ⟨x2, k2, (sl_base hN414 rfl s414_0).trans (congrArg (Value.int .u64) (by omega)), (sl_base hN414 rfl s414_2).trans (congrArg (Value.int .i64) (by omega)), (by omega), hb, (by omega)⟩
   ·
    rintro a418 w418 hN418 hd418 ⟨x3, k3, s418_0, s418_2, hx3, hb, zl_w418⟩
    have z_w418 := hb.size
    refine seq_any fun K422 hK422 => ?_
    refine one_reg ?_
    refine op_move (ev_base hN418 rfl s418_2) ?_
    refine op_move (ev_base hN418 rfl s418_0) ?_
    refine op_conv (r := ((x3 : Nat) : Int)) (ev_hit hN418 rfl) us81 Try.underlying5 (wrap_u8 (by omega)) ?_
    have ht8 := tab8_sz
    have h8 := tab8_len (z := x3) (by omega)
    have ht9 : x3 < tab8.length := by omega
    have ht10 : bitsLen x3 ≤ 8 := (Go.Sort.bitsLen_le_iff x3 8).2 (by omega)
    refine op_index_str (b := (tab8.getD x3 0)) Try.underlying9 rfl (ev_hit hN418 rfl) (Int.natCast_nonneg _) (el_str (i := x3) rfl ht9) ?_
    refine op_conv (r := ((tab8.getD x3 0).toNat : Int)) (ev_hit hN418 rfl) us5 Try.underlying3 (wrap_i64 (by have := ((tab8.getD x3 0)).toNat_lt; omega)) ?_
    refine op_add (ev_hit hN418 rfl) (ev_hit hN418 rfl) (add64 (by omega)) ?_
    refine op_assign (ev_hit hN418 rfl) ?_
    refine reg_nil ?_
    refine hK422 _ _ ?_
    refine wp_ret ?_
    refine ret1 rfl hd418 (ev_hit hN418 rfl) ⟨_, rfl, ?_⟩
    -- path
    exact ⟨hb, congrArg (Value.int .i64) (by omega)⟩

theorem lenW_ret (n : Nat) (w : World) (hn : n < 18446744073709551616) : Ret Try.prog 64 #[(Value.int .u64 ((n : Nat) : Int))] w (fun v' w' => Below w.heap.size w w' ∧ v' = .int .i64 (bitsLen n : Int)) := by
 have hb := Below.refl w.heap.size w
 refine enter (N := 8) Try.func64 rfl rfl (by simp) fun a0 hN hd hA => ?_
 have s0 : a0.tmps.getD 0 undef = (Value.int .u64 ((n : Nat) : Int)) := hA 0 (by simp)
 clear hA
 refine seq_any fun K423 hK423 => ?_
 refine one_reg ?_
 refine op_assign rfl ?_
 refine reg_nil ?_
 refine hK423 _ _ ?_
 refine seq_any fun K424 hK424 => ?_
 refine wp_cond_false rfl ?_
 refine wp_skip ?_
 refine hK424 _ _ ?_
 refine seq_any fun K425 hK425 => ?_
 refine one_reg ?_
 refine op_move (ev_base hN rfl s0) ?_
 refine op_fn (vs := [(Value.int .u64 ((n : Nat) : Int))]) ok76 ⟨(ev_hit hN rfl), trivial⟩ (len64W_ret n _ (by omega)) ?_
 rintro _ w426 ⟨E427, rfl⟩
 have E427 := grown_of_below E427
 have z_w426 := E427.size
 have hb := below_step0 hb E427 hb.size
 refine op_assign (ev_hit hN rfl) ?_
 refine reg_nil ?_
 refine hK425 _ _ ?_
 refine wp_ret ?_
 refine ret1 rfl hd (ev_hit hN rfl) ⟨_, rfl, ?_⟩
 -- path
 exact ⟨hb, rfl⟩

theorem npW_ret (n : Nat) (w : World) (hn : 0 < n ∧ n ≤ 4000000000000000000) : Ret Try.prog 78 #[(Value.int .i64 ((n : Nat) : Int))] w (fun v' w' => Below w.heap.size w w' ∧ ∃ m : Nat, v' = .int .u64 (m : Int) ∧ 1 ≤ m ∧ m ≤ 2 * n) := by
 have hb := Below.refl w.heap.size w
 refine enter (N := 7) Try.func78 rfl rfl (by simp) fun a0 hN hd hA => ?_
 have s0 : a0.tmps.getD 0 undef = (Value.int .i64 ((n : Nat) : Int)) := hA 0 (by simp)
 clear hA
 refine seq_any fun K428 hK428 => ?_
 refine one_reg ?_
 refine op_assign rfl ?_
 refine reg_nil ?_
 refine hK428 _ _ ?_
 refine seq_any fun K429 hK429 => ?_
 refine one_reg ?_
 refine op_move (ev_base hN rfl s0) ?_
 refine op_conv (r := ((n : Nat) : Int)) (ev_hit hN rfl) us3 Try.underlying60 (wrap_u64 (by omega)) ?_
 refine op_fn (vs := [(Value.int .u64 ((n : Nat) : Int))]) ok64 ⟨(ev_hit hN rfl), trivial⟩ (lenW_ret n _ (by omega)) ?_
 rintro _ w430 ⟨E431, rfl⟩
 have E431 := grown_of_below E431
 have z_w430 := E431.size
 have hb := below_step0 hb E431 hb.size
 have hbl : bitsLen n ≤ 62 := (Go.Sort.bitsLen_le_iff n 62).2 (by omega)
 have hp2 := Go.Sort.two_pow_bitsLen_le (n := n) hn.1
 have hp1 := Nat.two_pow_pos (bitsLen n)
 refine op_shl (r := ((2 ^ bitsLen n : Nat) : Int)) rfl (ev_hit hN rfl) (by omega) (shl_one (by omega)) ?_
 refine op_assign (ev_hit hN rfl) ?_
 refine reg_nil ?_
 refine hK429 _ _ ?_
 refine wp_ret ?_
 refine ret1 rfl hd (ev_hit hN rfl) ⟨_, rfl, ?_⟩
 -- path
 exact ⟨hb, _, rfl, by omega, by omega⟩

theorem xnextW_ret (s : Nat) (m : Int) (w : World) (hs : Bx w s 82 [.int .u64 m]) : Ret Try.prog 79 #[(ptr s 0)] w (fun v' w' => w.grownBy w' (some s) ∧ ∃ r : Nat, v' = .int .u64 (r : Int) ∧ r < 18446744073709551616 ∧ Bx w' s 82 [.int .u64 (r : Int)]) := by
 have hs_lt := hs.lt
 have hb := grown_refl w (some s)
 refine enter (N := 33) Try.func79 rfl rfl (by simp) fun a0 hN hd hA => ?_
 have s0 : a0.tmps.getD 0 undef = (ptr s 0) := hA 0 (by simp)
 clear hA
 refine seq_any fun K432 hK432 => ?_
 refine one_reg ?_
 refine op_assign rfl ?_
 refine reg_nil ?_
 refine hK432 _ _ ?_
 refine seq_any fun K433 hK433 => ?_
 refine reg_from mixed ?_
 intro w435 E434
 have z_w435 := E434.size
 have hs := hs.keep0 E434
 have hb := grow_step0 hb E434
 refine from_still (m := 9) 9 (hd := [_, _, _, _, _, _, _, _, _]) (by kernel_rfl) rfl rfl ?_
 refine st_step rfl (fun _ h9 => op_move (ev_base hN rfl s0) h9) ?_
 refine st_step rfl (fun _ h9 => op_nil (ev_hit hN rfl) h9) ?_
 refine st_step rfl (fun _ h9 => op_load1 (v := (Value.int .u64 m)) one82 (ev_hit hN rfl) (hs.cell rfl) h9) ?_
 refine st_step rfl (fun _ h9 => op_move (ev_base hN rfl s0) h9) ?_
 refine st_step rfl (fun _ h9 => op_nil (ev_hit hN rfl) h9) ?_
 refine st_step rfl (fun _ h9 => op_load1 (v := (Value.int .u64 m)) one82 (ev_hit hN rfl) (hs.cell rfl) h9) ?_
 refine st_step rfl (fun _ h9 => op_shl (r := (IntKind.u64.wrap (m * 2 ^ (min (13 : Int).toNat (IntKind.bits .u64))))) (ev_hit hN rfl) rfl (by decide) rfl h9) ?_
 refine st_step rfl (fun _ h9 => op_xor (r := (bits .xor .u64 (m) ((IntKind.u64.wrap (m * 2 ^ (min (13 : Int).toNat (IntKind.bits .u64))))))) (ev_hit hN rfl) (ev_hit hN rfl) rfl h9) ?_
 refine st_step rfl (fun _ h9 => op_nil (ev_hit hN rfl) h9) ?_
 refine st_nil ?_
 refine from_seq (tl := [_]) (by decide) (by kernel_rfl) rfl ?_
 have hs_old := hs
 refine op_store (vs := [(Value.int .u64 (bits .xor .u64 (m) ((IntKind.u64.wrap (m * 2 ^ (min (13 : Int).toNat (IntKind.bits .u64)))))))]) (cs' := [(Value.int .u64 (bits .xor .u64 (m) ((IntKind.u64.wrap (m * 2 ^ (min (13 : Int).toNat (IntKind.bits .u64)))))))]) size82 (ev_hit hN rfl) (ev_hit hN rfl) rfl rfl rfl hs (Nat.le_of_ble_eq_true rfl) rfl ?_
 intro w438 hs E439
 have z_w438 := E439.size
 have hb := grown_trans hb E439
 refine reg_nil ?_
 refine hK433 _ _ ?_
 refine seq_any fun K440 hK440 => ?_
 refine reg_from mixed ?_
 intro w442 E441
 have z_w442 := E441.size
 have hs := hs.keep0 E441
 have hb := grow_step0 hb E441
 refine from_still (m := 9) 9 (hd := [_, _, _, _, _, _, _, _, _]) (by kernel_rfl) rfl rfl ?_
 refine st_step rfl (fun _ h9 => op_move (ev_base hN rfl s0) h9) ?_
 refine st_step rfl (fun _ h9 => op_nil (ev_hit hN rfl) h9) ?_
 refine st_step rfl (fun _ h9 => op_load1 (v := (Value.int .u64 (bits .xor .u64 (m) ((IntKind.u64.wrap (m * 2 ^ (min (13 : Int).toNat (IntKind.bits .u64)))))))) one82 (ev_hit hN rfl) (hs.cell rfl) h9) ?_
 refine st_step rfl (fun _ h9 => op_move (ev_base hN rfl s0) h9) ?_
 refine st_step rfl (fun _ h9 => op_nil (ev_hit hN rfl) h9) ?_
 refine st_step rfl (fun _ h9 => op_load1 (v := (Value.int .u64 (bits .xor .u64 (m) ((IntKind.u64.wrap (m * 2 ^ (min (13 : Int).toNat (IntKind.bits .u64)))))))) one82 (ev_hit hN rfl) (hs.cell rfl) h9) ?_
 refine st_step rfl (fun _ h9 => op_shr (r := (((bits .xor .u64 (m) ((IntKind.u64.wrap (m * 2 ^ (min (13 : Int).toNat (IntKind.bits .u64))))))).fdiv (2 ^ (min (7 : Int).toNat (IntKind.bits .u64))))) (ev_hit hN rfl) rfl (by decide) rfl h9) ?_
 refine st_step rfl (fun _ h9 => op_xor (r := (bits .xor .u64 ((bits .xor .u64 (m) ((IntKind.u64.wrap (m * 2 ^ (min (13 : Int).toNat (IntKind.bits .u64))))))) ((((bits .xor .u64 (m) ((IntKind.u64.wrap (m * 2 ^ (min (13 : Int).toNat (IntKind.bits .u64))))))).fdiv (2 ^ (min (7 : Int).toNat (IntKind.bits .u64))))))) (ev_hit hN rfl) (ev_hit hN rfl) rfl h9) ?_
 refine st_step rfl (fun _ h9 => op_nil (ev_hit hN rfl) h9) ?_
 refine st_nil ?_
 refine from_seq (tl := [_]) (by decide) (by kernel_rfl) rfl ?_
 have hs_old := hs
 refine op_store (vs := [(Value.int .u64 (bits .xor .u64 ((bits .xor .u64 (m) ((IntKind.u64.wrap (m * 2 ^ (min (13 : Int).toNat (IntKind.bits .u64))))))) ((((bits .xor .u64 (m) ((IntKind.u64.wrap (m * 2 ^ (min (13 : Int).toNat (IntKind.bits .u64))))))).fdiv (2 ^ (min (7 : Int).toNat (IntKind.bits .u64)))))))]) (cs' := [(Value.int .u64 (bits .xor .u64 ((bits .xor .u64 (m) ((IntKind.u64.wrap (m * 2 ^ (min (13 : Int).toNat (IntKind.bits .u64))))))) ((((bits .xor .u64 (m) ((IntKind.u64.wrap (m * 2 ^ (min (13 : Int).toNat (IntKind.bits .u64))))))).fdiv (2 ^ (min (7 : Int).toNat (IntKind.bits .u64)))))))]) size82 (ev_hit hN rfl) (ev_hit hN rfl) rfl rfl rfl hs (Nat.le_of_ble_eq_true rfl) rfl ?_
 intro w445 hs E446
 have z_w445 := E446.size
 have hb := grown_trans hb E446
 refine reg_nil ?_
 refine hK440 _ _ ?_
 refine seq_any fun K447 hK447 => ?_
 refine reg_from mixed ?_
 intro w449 E448
 have z_w449 := E448.size
 have hs := hs.keep0 E448
 have hb := grow_step0 hb E448
 refine from_still (m := 9) 9 (hd := [_, _, _, _, _, _, _, _, _]) (by kernel_rfl) rfl rfl ?_
 refine st_step rfl (fun _ h9 => op_move (ev_base hN rfl s0) h9) ?_
 refine st_step rfl (fun _ h9 => op_nil (ev_hit hN rfl) h9) ?_
 refine st_step rfl (fun _ h9 => op_load1 (v := (Value.int .u64 (bits .xor .u64 ((bits .xor .u64 (m) ((IntKind.u64.wrap (m * 2 ^ (min (13 : Int).toNat (IntKind.bits .u64))))))) ((((bits .xor .u64 (m) ((IntKind.u64.wrap (m * 2 ^ (min (13 : Int).toNat (IntKind.bits .u64))))))).fdiv (2 ^ (min (7 : Int).toNat (IntKind.bits .u64)))))))) one82 (ev_hit hN rfl) (hs.cell rfl) h9) ?_
 refine st_step rfl (fun _ h9 => op_move (ev_base hN rfl s0) h9) ?_
 refine st_step rfl (fun _ h9 => op_nil (ev_hit hN rfl) h9) ?_
 refine st_step rfl (fun _ h9 => op_load1 (v := (Value.int .u64 (bits .xor .u64 ((bits .xor .u64 (m) ((IntKind.u64.wrap (m * 2 ^ (min (13 : Int).toNat (IntKind.bits .u64))))))) ((((bits .xor .u64 (m) ((IntKind.u64.wrap (m * 2 ^ (min (13 : Int).toNat (IntKind.bits .u64))))))).fdiv (2 ^ (min (7 : Int).toNat (IntKind.bits .u64)))))))) one82 (ev_hit hN rfl) (hs.cell rfl) h9) ?_
 refine st_step rfl (fun _ h9 => op_shl (r := (IntKind.u64.wrap ((bits .xor .u64 ((bits .xor .u64 (m) ((IntKind.u64.wrap (m * 2 ^ (min (13 : Int).toNat (IntKind.bits .u64))))))) ((((bits .xor .u64 (m) ((IntKind.u64.wrap (m * 2 ^ (min (13 : Int).toNat (IntKind.bits .u64))))))).fdiv (2 ^ (min (7 : Int).toNat (IntKind.bits .u64)))))) * 2 ^ (min (17 : Int).toNat (IntKind.bits .u64))))) (ev_hit hN rfl) rfl (by decide) rfl h9) ?_
 refine st_step rfl (fun _ h9 => op_xor (r := (bits .xor .u64 ((bits .xor .u64 ((bits .xor .u64 (m) ((IntKind.u64.wrap (m * 2 ^ (min (13 : Int).toNat (IntKind.bits .u64))))))) ((((bits .xor .u64 (m) ((IntKind.u64.wrap (m * 2 ^ (min (13 : Int).toNat (IntKind.bits .u64))))))).fdiv (2 ^ (min (7 : Int).toNat (IntKind.bits .u64))))))) ((IntKind.u64.wrap ((bits .xor .u64 ((bits .xor .u64 (m) ((IntKind.u64.wrap (m * 2 ^ (min (13 : Int).toNat (IntKind.bits .u64))))))) ((((bits .xor .u64 (m) ((IntKind.u64.wrap (m * 2 ^ (min (13 : Int).toNat (IntKind.bits .u64))))))).fdiv (2 ^ (min (7 : Int).toNat (IntKind.bits .u64)))))) * 2 ^ (min (17 : Int).toNat (IntKind.bits .u64))))))) (ev_hit hN rfl) (ev_hit hN rfl) rfl h9) ?_
 refine st_step rfl (fun _ h9 => op_nil (ev_hit hN rfl) h9) ?_
 refine st_nil ?_
 refine from_seq (tl := [_]) (by decide) (by kernel_rfl) rfl ?_
 have hs_old := hs
 refine op_store (vs := [(Value.int .u64 (bits .xor .u64 ((bits .xor .u64 ((bits .xor .u64 (m) ((IntKind.u64.wrap (m * 2 ^ (min (13 : Int).toNat (IntKind.bits .u64))))))) ((((bits .xor .u64 (m) ((IntKind.u64.wrap (m * 2 ^ (min (13 : Int).toNat (IntKind.bits .u64))))))).fdiv (2 ^ (min (7 : Int).toNat (IntKind.bits .u64))))))) ((IntKind.u64.wrap ((bits .xor .u64 ((bits .xor .u64 (m) ((IntKind.u64.wrap (m * 2 ^ (min (13 : Int).toNat (IntKind.bits .u64))))))) ((((bits .xor .u64 (m) ((IntKind.u64.wrap (m * 2 ^ (min (13 : Int).toNat (IntKind.bits .u64))))))).fdiv (2 ^ (min (7 : Int).toNat (IntKind.bits .u64)))))) * 2 ^ (min (17 : Int).toNat (IntKind.bits .u64)))))))]) (cs' := [(Value.int .u64 (bits .xor .u64 ((bits .xor .u64 ((bits .xor .u64 (m) ((IntKind.u64.wrap (m * 2 ^ (min (13 : Int).toNat (IntKind.bits .u64))))))) ((((bits .xor .u64 (m) ((IntKind.u64.wrap (m * 2 ^ (min (13 : Int).toNat (IntKind.bits .u64))))))).fdiv (2 ^ (min (7 : Int).toNat (IntKind.bits .u64))))))) ((IntKind.u64.wrap ((bits .xor .u64 ((bits .xor .u64 (m) ((IntKind.u64.wrap (m * 2 ^ (min (13 : Int).toNat (IntKind.bits .u64))))))) ((((bits .xor .u64 (m) ((IntKind.u64.wrap (m * 2 ^ (min (13 : Int).toNat (IntKind.bits .u64))))))).fdiv (2 ^ (min (7 : Int).toNat (IntKind.bits .u64)))))) * 2 ^ (min (17 : Int).toNat (IntKind.bits .u64)))))))]) size82 (ev_hit hN rfl) (ev_hit hN rfl) rfl rfl rfl hs (Nat.le_of_ble_eq_true rfl) rfl ?_
 intro w452 hs E453
 have z_w452 := E453.size
 have hb := grown_trans hb E453
 refine reg_nil ?_
 refine hK447 _ _ ?_
 refine seq_any fun K454 hK454 => ?_
 refine one_reg ?_
 refine op_move (ev_base hN rfl s0) ?_
 refine op_nil (ev_hit hN rfl) ?_
 refine op_load1 (v := (Value.int .u64 (bits .xor .u64 ((bits .xor .u64 ((bits .xor .u64 (m) ((IntKind.u64.wrap (m * 2 ^ (min (13 : Int).toNat (IntKind.bits .u64))))))) ((((bits .xor .u64 (m) ((IntKind.u64.wrap (m * 2 ^ (min (13 : Int).toNat (IntKind.bits .u64))))))).fdiv (2 ^ (min (7 : Int).toNat (IntKind.bits .u64))))))) ((IntKind.u64.wrap ((bits .xor .u64 ((bits .xor .u64 (m) ((IntKind.u64.wrap (m * 2 ^ (min (13 : Int).toNat (IntKind.bits .u64))))))) ((((bits .xor .u64 (m) ((IntKind.u64.wrap (m * 2 ^ (min (13 : Int).toNat (IntKind.bits .u64))))))).fdiv (2 ^ (min (7 : Int).toNat (IntKind.bits .u64)))))) * 2 ^ (min (17 : Int).toNat (IntKind.bits .u64)))))))) one82 (ev_hit hN rfl) (hs.cell rfl) ?_
 refine op_assign (ev_hit hN rfl) ?_
 refine reg_nil ?_
 refine hK454 _ _ ?_
 refine wp_ret ?_
 refine ret1 rfl hd (ev_hit hN rfl) ⟨_, rfl, ?_⟩
 -- path
 have hrr := xor_rng (((bits .xor .u64 ((bits .xor .u64 (m) ((IntKind.u64.wrap (m * 2 ^ (min (13 : Int).toNat (IntKind.bits .u64))))))) ((((bits .xor .u64 (m) ((IntKind.u64.wrap (m * 2 ^ (min (13 : Int).toNat (IntKind.bits .u64))))))).fdiv (2 ^ (min (7 : Int).toNat (IntKind.bits .u64)))))))) (((IntKind.u64.wrap ((bits .xor .u64 ((bits .xor .u64 (m) ((IntKind.u64.wrap (m * 2 ^ (min (13 : Int).toNat (IntKind.bits .u64))))))) ((((bits .xor .u64 (m) ((IntKind.u64.wrap (m * 2 ^ (min (13 : Int).toNat (IntKind.bits .u64))))))).fdiv (2 ^ (min (7 : Int).toNat (IntKind.bits .u64)))))) * 2 ^ (min (17 : Int).toNat (IntKind.bits .u64))))))
 obtain ⟨rr, hrr2⟩ : ∃ r : Nat, (bits .xor .u64 ((bits .xor .u64 ((bits .xor .u64 (m) ((IntKind.u64.wrap (m * 2 ^ (min (13 : Int).toNat (IntKind.bits .u64))))))) ((((bits .xor .u64 (m) ((IntKind.u64.wrap (m * 2 ^ (min (13 : Int).toNat (IntKind.bits .u64))))))).fdiv (2 ^ (min (7 : Int).toNat (IntKind.bits .u64))))))) ((IntKind.u64.wrap ((bits .xor .u64 ((bits .xor .u64 (m) ((IntKind.u64.wrap (m * 2 ^ (min (13 : Int).toNat (IntKind.bits .u64))))))) ((((bits .xor .u64 (m) ((IntKind.u64.wrap (m * 2 ^ (min (13 : Int).toNat (IntKind.bits .u64))))))).fdiv (2 ^ (min (7 : Int).toNat (IntKind.bits .u64)))))) * 2 ^ (min (17 : Int).toNat (IntKind.bits .u64)))))) = (r : Int) := ⟨((bits .xor .u64 ((bits .xor .u64 ((bits .xor .u64 (m) ((IntKind.u64.wrap (m * 2 ^ (min (13 : Int).toNat (IntKind.bits .u64))))))) ((((bits .xor .u64 (m) ((IntKind.u64.wrap (m * 2 ^ (min (13 : Int).toNat (IntKind.bits .u64))))))).fdiv (2 ^ (min (7 : Int).toNat (IntKind.bits .u64))))))) ((IntKind.u64.wrap ((bits .xor .u64 ((bits .xor .u64 (m) ((IntKind.u64.wrap (m * 2 ^ (min (13 : Int).toNat (IntKind.bits .u64))))))) ((((bits .xor .u64 (m) ((IntKind.u64.wrap (m * 2 ^ (min (13 : Int).toNat (IntKind.bits .u64))))))).fdiv (2 ^ (min (7 : Int).toNat (IntKind.bits .u64)))))) * 2 ^ (min (17 : Int).toNat (IntKind.bits .u64))))))).toNat, by omega⟩
 rw [hrr2] at hrr
 exact ⟨hb, rr, congrArg (Value.int .u64) hrr2, by omega, by have hz := hs; rw [hrr2] at hz; exact hz⟩

end Go.Proofs.Ytpmnljffdofkeaa

/- Walks, written by a program: what each function of the translation hands back. -/
namespace Go.Proofs.Ytpmnljffdofkeaa
open Go.Gx Go.RowKit
attribute [local irreducible] wpList wpStill Code.wp Calls
open Go.Sort (insertionSort insOuter insInner swp siftDown heapSort heapBuild heapPop scanUp scanDown partition partLoop partitionEqual partEqLoop scanSorted partialIns bitsLen partialInsertionSort shiftDown shiftUp SortedIn reverseRange reverseLoop fixDown fixUp)
theorem order2W_ret (d : Ar) (v : Value) (n B s m : Nat) (a b : Nat) (w : World) (hd : d.size = n) (hn : n ≤ 4000000000000000000) (hv : RdC w 0 B 1 v n (d.toList.map u16v)) (hBs : B ≤ s) (hs : Bx w s 3 [.int .i64 (m : Int)]) (hm : m ≤ 100000) (ha : a < n) (hb2 : b < n) : Ret Try.prog 82 #[v, (Value.int .i64 ((a : Nat) : Int)), (Value.int .i64 ((b : Nat) : Int)), (ptr s 0)] w (fun v' w' => w.grownBy w' (some s) ∧ ∃ x y m' : Nat, v' = .tuple #[.int .i64 (x : Int), .int .i64 (y : Int)] ∧ ((x = a ∧ y = b) ∨ (x = b ∧ y = a)) ∧ m' ≤ m + 1 ∧ Bx w' s 3 [.int .i64 (m' : Int)]) := by
 have hs_lt := hs.lt
 have hb := grown_refl w (some s)
 refine enter (N := 28) Try.func82 rfl rfl (by simp) fun a0 hN hd hA => ?_
 have s0 : a0.tmps.getD 0 undef = v := hA 0 (by simp)
 have s1 : a0.tmps.getD 1 undef = (Value.int .i64 ((a : Nat) : Int)) := hA 1 (by simp)
 have s2 : a0.tmps.getD 2 undef = (Value.int .i64 ((b : Nat) : Int)) := hA 2 (by simp)
 have s3 : a0.tmps.getD 3 undef = (ptr s 0) := hA 3 (by simp)
 clear hA
 refine seq_any fun K326 hK326 => ?_
 refine one_reg ?_
 refine op_assign rfl ?_
 refine op_assign rfl ?_
 refine reg_nil ?_
 refine hK326 _ _ ?_
 refine seq_any fun K327 hK327 => ?_
 refine seq_any fun K328 hK328 => ?_
 refine reg_still mixed (by kernel_rfl) ?_
 intro w330 E329
 have z_w330 := E329.size
 have hv := hv.keep0 E329
 have hs := hs.keep0 E329
 have hb := grow_step0 hb E329
 refine st_step rfl (fun _ h9 => op_move (ev_base hN rfl s0) h9) ?_
 refine st_step rfl (fun _ h9 => op_move (ev_base hN rfl s2) h9) ?_
 refine st_index_rd slt22 (ev_hit hN rfl) hv (ev_hit hN rfl) (by omega) (by omega) ?_
 intro b331 o332 h0b331 h1b331 hc333
 refine st_step rfl (fun _ h9 => op_load1 (v := (Value.int .u16 (d[b]!.toNat : Int))) one35 (ev_hit hN rfl) (by have := hc333 0 (Value.int .u16 (d[b]!.toNat : Int)) (by decide) (el_arr (i := b) (by omega) (by first | omega | (simp only [Array.size_setIfInBounds, swp_sz, siftDown_size]; omega))); simpa using this) h9) ?_
 refine st_step rfl (fun _ h9 => op_move (ev_base hN rfl s0) h9) ?_
 refine st_step rfl (fun _ h9 => op_move (ev_base hN rfl s1) h9) ?_
 refine st_index_rd slt22 (ev_hit hN rfl) hv (ev_hit hN rfl) (by omega) (by omega) ?_
 intro b334 o335 h0b334 h1b334 hc336
 refine st_step rfl (fun _ h9 => op_load1 (v := (Value.int .u16 (d[a]!.toNat : Int))) one35 (ev_hit hN rfl) (by have := hc336 0 (Value.int .u16 (d[a]!.toNat : Int)) (by decide) (el_arr (i := a) (by omega) (by first | omega | (simp only [Array.size_setIfInBounds, swp_sz, siftDown_size]; omega))); simpa using this) h9) ?_
 refine st_fn (vs := [(Value.int .u16 (d[b]!.toNat : Int)), (Value.int .u16 (d[a]!.toNat : Int))]) ok72 (⟨(ev_hit hN rfl), ⟨(ev_hit hN rfl), trivial⟩⟩) (Less16_ret d[b]! d[a]! _) ?_
 refine st_nil ?_
 refine hK328 _ _ ?_
 refine wp_cond_split (ev_hit hN rfl) (fun c18 => ?_) (fun c18 => ?_)
 · -- 18T
  refine seq_any fun K337 hK337 => ?_
  refine one_reg ?_
  refine op_move (ev_base hN rfl s3) ?_
  refine op_nil (ev_hit hN rfl) ?_
  refine op_load1 (v := (Value.int .i64 ((m : Nat) : Int))) one3 (ev_hit hN rfl) (hs.cell rfl) ?_
  refine op_add (r := ((m + 1 : Nat) : Int)) (ev_hit hN rfl) rfl (by rw [IntKind.wrap_i64]; omega) ?_
  refine op_nil (ev_hit hN rfl) ?_
  have hs_old := hs
  refine op_store (vs := [(Value.int .i64 ((m + 1 : Nat) : Int))]) (cs' := [(Value.int .i64 ((m + 1 : Nat) : Int))]) size3 (ev_hit hN rfl) (ev_hit hN rfl) rfl rfl rfl hs (Nat.le_of_ble_eq_true rfl) rfl ?_
  intro w340 hs E341
  have z_w340 := E341.size
  have hv := hv.keep E341 (fun k hk => .inr (by simp at hk; omega))
  have hb := grown_trans hb E341
  refine reg_nil ?_
  refine hK337 _ _ ?_
  refine seq_any fun K342 hK342 => ?_
  refine one_reg ?_
  refine op_move (ev_base hN rfl s2) ?_
  refine op_move (ev_base hN rfl s1) ?_
  refine op_assign (ev_hit hN rfl) ?_
  refine op_assign (ev_hit hN rfl) ?_
  refine reg_nil ?_
  refine hK342 _ _ ?_
  refine wp_ret (then_ret ( ?_))
  refine ret2 rfl hd (ev_hit hN rfl) (ev_hit hN rfl) ⟨_, rfl, ?_⟩
  -- path 18T
  exact ⟨hb, _, _, _, rfl, .inr ⟨rfl, rfl⟩, by omega, hs⟩
 · -- 18F
  refine wp_skip ?_
  refine hK327 _ _ ?_
  refine seq_any fun K343 hK343 => ?_
  refine one_reg ?_
  refine op_move (ev_base hN rfl s1) ?_
  refine op_move (ev_base hN rfl s2) ?_
  refine op_assign (ev_hit hN rfl) ?_
  refine op_assign (ev_hit hN rfl) ?_
  refine reg_nil ?_
  refine hK343 _ _ ?_
  refine wp_ret ?_
  refine ret2 rfl hd (ev_hit hN rfl) (ev_hit hN rfl) ⟨_, rfl, ?_⟩
  -- path 18F
  exact ⟨hb, _, _, _, rfl, .inl ⟨rfl, rfl⟩, by omega, hs⟩

theorem medianW_ret (d : Ar) (v : Value) (n B s m : Nat) (a b c : Nat) (w : World) (hd : d.size = n) (hn : n ≤ 4000000000000000000) (hv : RdC w 0 B 1 v n (d.toList.map u16v)) (hBs : B ≤ s) (hs : Bx w s 3 [.int .i64 (m : Int)]) (hm : m ≤ 90000) (ha : a < n) (hb2 : b < n) (hc2 : c < n) : Ret Try.prog 81 #[v, (Value.int .i64 ((a : Nat) : Int)), (Value.int .i64 ((b : Nat) : Int)), (Value.int .i64 ((c : Nat) : Int)), (ptr s 0)] w (fun v' w' => w.grownBy w' (some s) ∧ ∃ x m' : Nat, v' = .int .i64 (x : Int) ∧ (x = a ∨ x = b ∨ x = c) ∧ m' ≤ m + 3 ∧ Bx w' s 3 [.int .i64 (m' : Int)]) := by
 have hs_lt := hs.lt
 have hb := grown_refl w (some s)
 refine enter (N := 36) Try.func81 rfl rfl (by simp) fun a0 hN hd hA => ?_
 have s0 : a0.tmps.getD 0 undef = v := hA 0 (by simp)
 have s1 : a0.tmps.getD 1 undef = (Value.int .i64 ((a : Nat) : Int)) := hA 1 (by simp)
 have s2 : a0.tmps.getD 2 undef = (Value.int .i64 ((b : Nat) : Int)) := hA 2 (by simp)
 have s3 : a0.tmps.getD 3 undef = (Value.int .i64 ((c : Nat) : Int)) := hA 3 (by simp)
 have s4 : a0.tmps.getD 4 undef = (ptr s 0) := hA 4 (by simp)
 clear hA
 refine seq_any fun K344 hK344 => ?_
 refine one_reg ?_
 refine op_assign rfl ?_
 refine reg_nil ?_
 refine hK344 _ _ ?_
 refine seq_any fun K345 hK345 => ?_
 refine one_reg ?_
 refine op_move (ev_base hN rfl s0) ?_
 refine op_move (ev_base hN rfl s1) ?_
 refine op_move (ev_base hN rfl s2) ?_
 refine op_move (ev_base hN rfl s4) ?_
 refine op_fn (vs := [v, (Value.int .i64 ((a : Nat) : Int)), (Value.int .i64 ((b : Nat) : Int)), (ptr s 0)]) ok82 ⟨(ev_hit hN rfl), ⟨(ev_hit hN rfl), ⟨(ev_hit hN rfl), ⟨(ev_hit hN rfl), trivial⟩⟩⟩⟩ (order2W_ret d v _ B s m a b _ (by first | assumption | (simp only [Array.size_setIfInBounds, swp_sz, siftDown_size]; assumption)) (by omega) hv (by omega) hs (by omega) (by omega) (by omega)) ?_
 rintro _ w347 ⟨E348, x346, y346, m346, rfl, hx346, hm346, hs346⟩
 have hs_old := hs
 have z_w347 := E348.size
 have hv := hv.keep E348 (fun k hk => .inr (by simp at hk; omega))
 have hb := grown_trans hb E348
 refine op_move (ev_hit hN rfl) ?_
 refine op_extract (ev_hit hN rfl) rfl ?_
 refine op_extract (ev_hit hN rfl) rfl ?_
 refine op_assign (ev_hit hN rfl) ?_
 refine op_assign (ev_hit hN rfl) ?_
 refine reg_nil ?_
 refine hK345 _ _ ?_
 refine seq_any fun K349 hK349 => ?_
 refine one_reg ?_
 refine op_move (ev_base hN rfl s0) ?_
 refine op_move (ev_hit hN rfl) ?_
 refine op_move (ev_base hN rfl s3) ?_
 refine op_move (ev_base hN rfl s4) ?_
 refine op_fn (vs := [v, (Value.int .i64 ((y346 : Nat) : Int)), (Value.int .i64 ((c : Nat) : Int)), (ptr s 0)]) ok82 ⟨(ev_hit hN rfl), ⟨(ev_hit hN rfl), ⟨(ev_hit hN rfl), ⟨(ev_hit hN rfl), trivial⟩⟩⟩⟩ (order2W_ret d v _ B s m346 y346 c _ (by first | assumption | (simp only [Array.size_setIfInBounds, swp_sz, siftDown_size]; assumption)) (by omega) hv (by omega) hs346 (by omega) (by omega) (by omega)) ?_
 rintro _ w351 ⟨E352, x350, y350, m350, rfl, hx350, hm350, hs350⟩
 have hs346_old := hs346
 have z_w351 := E352.size
 have hv := hv.keep E352 (fun k hk => .inr (by simp at hk; omega))
 have hb := grown_trans hb E352
 refine op_move (ev_hit hN rfl) ?_
 refine op_extract (ev_hit hN rfl) rfl ?_
 refine op_extract (ev_hit hN rfl) rfl ?_
 refine op_assign (ev_hit hN rfl) ?_
 refine op_assign (ev_hit hN rfl) ?_
 refine reg_nil ?_
 refine hK349 _ _ ?_
 refine seq_any fun K353 hK353 => ?_
 refine one_reg ?_
 refine op_move (ev_base hN rfl s0) ?_
 refine op_move (ev_hit hN rfl) ?_
 refine op_move (ev_hit hN rfl) ?_
 refine op_move (ev_base hN rfl s4) ?_
 refine op_fn (vs := [v, (Value.int .i64 ((x346 : Nat) : Int)), (Value.int .i64 ((x350 : Nat) : Int)), (ptr s 0)]) ok82 ⟨(ev_hit hN rfl), ⟨(ev_hit hN rfl), ⟨(ev_hit hN rfl), ⟨(ev_hit hN rfl), trivial⟩⟩⟩⟩ (order2W_ret d v _ B s m350 x346 x350 _ (by first | assumption | (simp only [Array.size_setIfInBounds, swp_sz, siftDown_size]; assumption)) (by omega) hv (by omega) hs350 (by omega) (by omega) (by omega)) ?_
 rintro _ w355 ⟨E356, x354, y354, m354, rfl, hx354, hm354, hs354⟩
 have hs350_old := hs350
 have z_w355 := E356.size
 have hv := hv.keep E356 (fun k hk => .inr (by simp at hk; omega))
 have hb := grown_trans hb E356
 refine op_move (ev_hit hN rfl) ?_
 refine op_extract (ev_hit hN rfl) rfl ?_
 refine op_extract (ev_hit hN rfl) rfl ?_
 refine op_assign (ev_hit hN rfl) ?_
 refine op_assign (ev_hit hN rfl) ?_
 refine reg_nil ?_
 refine hK353 _ _ ?_
 refine seq_any fun K357 hK357 => ?_
 refine one_reg ?_
 refine op_move (ev_hit hN rfl) ?_
 refine op_assign (ev_hit hN rfl) ?_
 refine reg_nil ?_
 refine hK357 _ _ ?_
 refine wp_ret ?_
 refine ret1 rfl hd (ev_hit hN rfl) ⟨_, rfl, ?_⟩
 -- path
 exact ⟨hb, _, _, rfl, by omega, by omega, hs354⟩

theorem medAdjW_ret (d : Ar) (v : Value) (n B s m : Nat) (a : Nat) (w : World) (hd : d.size = n) (hn : n ≤ 4000000000000000000) (hv : RdC w 0 B 1 v n (d.toList.map u16v)) (hBs : B ≤ s) (hs : Bx w s 3 [.int .i64 (m : Int)]) (hm : m ≤ 80000) (h1 : 1 ≤ a) (ha : a + 1 < n) : Ret Try.prog 80 #[v, (Value.int .i64 ((a : Nat) : Int)), (ptr s 0)] w (fun v' w' => w.grownBy w' (some s) ∧ ∃ x m' : Nat, v' = .int .i64 (x : Int) ∧ (x = a - 1 ∨ x = a ∨ x = a + 1) ∧ m' ≤ m + 3 ∧ Bx w' s 3 [.int .i64 (m' : Int)]) := by
 have hs_lt := hs.lt
 have hb := grown_refl w (some s)
 refine enter (N := 15) Try.func80 rfl rfl (by simp) fun a0 hN hd hA => ?_
 have s0 : a0.tmps.getD 0 undef = v := hA 0 (by simp)
 have s1 : a0.tmps.getD 1 undef = (Value.int .i64 ((a : Nat) : Int)) := hA 1 (by simp)
 have s2 : a0.tmps.getD 2 undef = (ptr s 0) := hA 2 (by simp)
 clear hA
 refine seq_any fun K358 hK358 => ?_
 refine one_reg ?_
 refine op_assign rfl ?_
 refine reg_nil ?_
 refine hK358 _ _ ?_
 refine seq_any fun K359 hK359 => ?_
 refine one_reg ?_
 refine op_move (ev_base hN rfl s0) ?_
 refine op_move (ev_base hN rfl s1) ?_
 refine op_sub (r := ((a - 1 : Nat) : Int)) (ev_hit hN rfl) rfl (by rw [IntKind.wrap_i64]; omega) ?_
 refine op_move (ev_base hN rfl s1) ?_
 refine op_move (ev_base hN rfl s1) ?_
 refine op_add (ev_hit hN rfl) rfl (add64 (by omega)) ?_
 refine op_move (ev_base hN rfl s2) ?_
 refine op_fn (vs := [v, (Value.int .i64 ((a - 1 : Nat) : Int)), (Value.int .i64 ((a : Nat) : Int)), (Value.int .i64 (((a : Nat) : Int) + 1)), (ptr s 0)]) ok81 ⟨(ev_hit hN rfl), ⟨(ev_hit hN rfl), ⟨(ev_hit hN rfl), ⟨(ev_hit hN rfl), ⟨(ev_hit hN rfl), trivial⟩⟩⟩⟩⟩ (medianW_ret d v _ B s m (a - 1) a (a + 1) _ (by first | assumption | (simp only [Array.size_setIfInBounds, swp_sz, siftDown_size]; assumption)) (by omega) hv (by omega) hs (by omega) (by omega) (by omega) (by omega)) ?_
 rintro _ w361 ⟨E362, x360, m360, rfl, hx360, hm360, hs360⟩
 have hs_old := hs
 have z_w361 := E362.size
 have hv := hv.keep E362 (fun k hk => .inr (by simp at hk; omega))
 have hb := grown_trans hb E362
 refine op_assign (ev_hit hN rfl) ?_
 refine reg_nil ?_
 refine hK359 _ _ ?_
 refine wp_ret ?_
 refine ret1 rfl hd (ev_hit hN rfl) ⟨_, rfl, ?_⟩
 -- path
 exact ⟨hb, _, _, rfl, by omega, by omega, hs360⟩

set_option maxHeartbeats 2000000 in
theorem choosePW_ret (d : Ar) (v : Value) (n a b : Nat) (w : World) (hd : d.size = n) (hn : n ≤ 4000000000000000000) (hv : RdC w 0 w.heap.size 1 v n (d.toList.map u16v)) (hab : a < b) (hbn : b ≤ n) : Ret Try.prog 69 #[v, (Value.int .i64 ((a : Nat) : Int)), (Value.int .i64 ((b : Nat) : Int))] w (fun v' w' => Below w.heap.size w w' ∧ ∃ (x : Nat) (h : Int), v' = .tuple #[.int .i64 (x : Int), .int .i64 h] ∧ a ≤ x ∧ x < b) := by
 have hb := Below.refl w.heap.size w
 refine enter (N := 57) Try.func69 rfl rfl (by simp) fun a0 hN hd hA => ?_
 have s0 : a0.tmps.getD 0 undef = v := hA 0 (by simp)
 have s1 : a0.tmps.getD 1 undef = (Value.int .i64 ((a : Nat) : Int)) := hA 1 (by simp)
 have s2 : a0.tmps.getD 2 undef = (Value.int .i64 ((b : Nat) : Int)) := hA 2 (by simp)
 clear hA
 refine seq_any fun K363 hK363 => ?_
 refine one_reg ?_
 refine op_assign rfl ?_
 refine op_assign rfl ?_
 refine reg_nil ?_
 refine hK363 _ _ ?_
 refine seq_any fun K364 hK364 => ?_
 refine one_reg ?_
 refine op_move (ev_base hN rfl s2) ?_
 refine op_move (ev_base hN rfl s1) ?_
 refine op_sub (r := ((b - a : Nat) : Int)) (ev_hit hN rfl) (ev_hit hN rfl) (by rw [IntKind.wrap_i64]; omega) ?_
 refine op_assign (ev_hit hN rfl) ?_
 refine reg_nil ?_
 refine hK364 _ _ ?_
 refine seq_any fun K365 hK365 => ?_
 refine one_reg ?_
 refine op_alloc (cs := [(Value.int .i64 0)]) zero3 rfl ?_
 intro w366 b367 lo_b367 hi_b367 hB369 E368
 have z_w366 := E368.size
 have hv := hv.keep0 E368
 have hb := below_step0 hb E368 hb.size
 refine reg_nil ?_
 refine hK365 _ _ ?_
 refine seq_any fun K370 hK370 => ?_
 refine one_reg ?_
 refine op_move (ev_base hN rfl s1) ?_
 refine op_move (ev_hit hN rfl) ?_
 refine op_quo (r := ((((b - a) / 4) : Nat) : Int)) (ev_hit hN rfl) rfl (by decide) (by rw [IntKind.wrap_i64, Int.tdiv_eq_ediv_of_nonneg (by omega)]; omega) ?_
 refine op_mul (ev_hit hN rfl) rfl (mul64 (by omega)) ?_
 refine op_add (ev_hit hN rfl) (ev_hit hN rfl) (add64 (by omega)) ?_
 refine op_assign (ev_hit hN rfl) ?_
 refine reg_nil ?_
 refine hK370 _ _ ?_
 refine seq_any fun K371 hK371 => ?_
 refine one_reg ?_
 refine op_move (ev_base hN rfl s1) ?_
 refine op_move (ev_hit hN rfl) ?_
 refine op_quo (r := ((((b - a) / 4) : Nat) : Int)) (ev_hit hN rfl) rfl (by decide) (by rw [IntKind.wrap_i64, Int.tdiv_eq_ediv_of_nonneg (by omega)]; omega) ?_
 refine op_mul (ev_hit hN rfl) rfl (mul64 (by omega)) ?_
 refine op_add (ev_hit hN rfl) (ev_hit hN rfl) (add64 (by omega)) ?_
 refine op_assign (ev_hit hN rfl) ?_
 refine reg_nil ?_
 refine hK371 _ _ ?_
 refine seq_any fun K372 hK372 => ?_
 refine one_reg ?_
 refine op_move (ev_base hN rfl s1) ?_
 refine op_move (ev_hit hN rfl) ?_
 refine op_quo (r := ((((b - a) / 4) : Nat) : Int)) (ev_hit hN rfl) rfl (by decide) (by rw [IntKind.wrap_i64, Int.tdiv_eq_ediv_of_nonneg (by omega)]; omega) ?_
 refine op_mul (ev_hit hN rfl) rfl (mul64 (by omega)) ?_
 refine op_add (ev_hit hN rfl) (ev_hit hN rfl) (add64 (by omega)) ?_
 refine op_assign (ev_hit hN rfl) ?_
 refine reg_nil ?_
 refine hK372 _ _ ?_
 refine seq_any fun K373 hK373 => ?_
 refine seq_any fun K374 hK374 => ?_
 refine one_reg ?_
 refine op_move (ev_hit hN rfl) ?_
 refine op_geq (ev_hit hN rfl) rfl (fun c32 => ?_) (fun c32 => ?_)
 · -- 32T
  refine reg_nil ?_
  refine hK374 _ _ ?_
  refine wp_cond_true (ev_hit hN rfl) ?_
  refine seq_any fun K375 hK375 => ?_
  refine seq_any fun K376 hK376 => ?_
  refine one_reg ?_
  refine op_move (ev_hit hN rfl) ?_
  refine op_geq (ev_hit hN rfl) rfl (fun c34 => ?_) (fun c34 => ?_)
  · -- 34T
   refine reg_nil ?_
   refine hK376 _ _ ?_
   refine wp_cond_true (ev_hit hN rfl) ?_
   refine seq_any fun K377 hK377 => ?_
   refine one_reg ?_
   refine op_move (ev_base hN rfl s0) ?_
   refine op_move (ev_hit hN rfl) ?_
   refine op_fn (vs := [v, (Value.int .i64 (((a : Nat) : Int) + (((((b - a) / 4) : Nat) : Int) * 1))), (ptr b367 0)]) ok80 ⟨(ev_hit hN rfl), ⟨(ev_hit hN rfl), ⟨(ev_hit hN rfl), trivial⟩⟩⟩ (medAdjW_ret d v _ w.heap.size b367 0 (a + (((b - a) / 4) * 1)) _ (by first | assumption | (simp only [Array.size_setIfInBounds, swp_sz, siftDown_size]; assumption)) (by omega) hv (by omega) hB369 (by omega) (by omega) (by omega)) ?_
   rintro _ w379 ⟨E380, x378, m378, rfl, hx378, hm378, hs378⟩
   have hB369_old := hB369
   have z_w379 := E380.size
   have hv := hv.keep E380 (fun k hk => .inr (by simp at hk; omega))
   have hb := below_step1 hb E380 hb.size (by omega)
   refine op_assign (ev_hit hN rfl) ?_
   refine reg_nil ?_
   refine hK377 _ _ ?_
   refine seq_any fun K381 hK381 => ?_
   refine one_reg ?_
   refine op_move (ev_base hN rfl s0) ?_
   refine op_move (ev_hit hN rfl) ?_
   refine op_fn (vs := [v, (Value.int .i64 (((a : Nat) : Int) + (((((b - a) / 4) : Nat) : Int) * 2))), (ptr b367 0)]) ok80 ⟨(ev_hit hN rfl), ⟨(ev_hit hN rfl), ⟨(ev_hit hN rfl), trivial⟩⟩⟩ (medAdjW_ret d v _ w.heap.size b367 m378 (a + (((b - a) / 4) * 2)) _ (by first | assumption | (simp only [Array.size_setIfInBounds, swp_sz, siftDown_size]; assumption)) (by omega) hv (by omega) hs378 (by omega) (by omega) (by omega)) ?_
   rintro _ w383 ⟨E384, x382, m382, rfl, hx382, hm382, hs382⟩
   have hs378_old := hs378
   have z_w383 := E384.size
   have hv := hv.keep E384 (fun k hk => .inr (by simp at hk; omega))
   have hb := below_step1 hb E384 hb.size (by omega)
   refine op_assign (ev_hit hN rfl) ?_
   refine reg_nil ?_
   refine hK381 _ _ ?_
   refine one_reg ?_
   refine op_move (ev_base hN rfl s0) ?_
   refine op_move (ev_hit hN rfl) ?_
   refine op_fn (vs := [v, (Value.int .i64 (((a : Nat) : Int) + (((((b - a) / 4) : Nat) : Int) * 3))), (ptr b367 0)]) ok80 ⟨(ev_hit hN rfl), ⟨(ev_hit hN rfl), ⟨(ev_hit hN rfl), trivial⟩⟩⟩ (medAdjW_ret d v _ w.heap.size b367 m382 (a + (((b - a) / 4) * 3)) _ (by first | assumption | (simp only [Array.size_setIfInBounds, swp_sz, siftDown_size]; assumption)) (by omega) hv (by omega) hs382 (by omega) (by omega) (by omega)) ?_
   rintro _ w386 ⟨E387, x385, m385, rfl, hx385, hm385, hs385⟩
   have hs382_old := hs382
   have z_w386 := E387.size
   have hv := hv.keep E387 (fun k hk => .inr (by simp at hk; omega))
   have hb := below_step1 hb E387 hb.size (by omega)
   refine op_assign (ev_hit hN rfl) ?_
   refine reg_nil ?_
   refine hK375 _ _ ?_
   refine one_reg ?_
   refine op_move (ev_base hN rfl s0) ?_
   refine op_move (ev_hit hN rfl) ?_
   refine op_move (ev_hit hN rfl) ?_
   refine op_move (ev_hit hN rfl) ?_
   refine op_fn (vs := [v, (Value.int .i64 ((x378 : Nat) : Int)), (Value.int .i64 ((x382 : Nat) : Int)), (Value.int .i64 ((x385 : Nat) : Int)), (ptr b367 0)]) ok81 ⟨(ev_hit hN rfl), ⟨(ev_hit hN rfl), ⟨(ev_hit hN rfl), ⟨(ev_hit hN rfl), ⟨(ev_hit hN rfl), trivial⟩⟩⟩⟩⟩ (medianW_ret d v _ w.heap.size b367 m385 x378 x382 x385 _ (by first | assumption | (simp only [Array.size_setIfInBounds, swp_sz, siftDown_size]; assumption)) (by omega) hv (by omega) hs385 (by omega) (by omega) (by omega) (by omega)) ?_
   rintro _ w389 ⟨E390, x388, m388, rfl, hx388, hm388, hs388⟩
   have hs385_old := hs385
   have z_w389 := E390.size
   have hv := hv.keep E390 (fun k hk => .inr (by simp at hk; omega))
   have hb := below_step1 hb E390 hb.size (by omega)
   refine op_assign (ev_hit hN rfl) ?_
   refine reg_nil ?_
   refine hK373 _ _ ?_
   refine seq_any fun K391 hK391 => ?_
   refine one_reg ?_
   refine op_load1 (v := (Value.int .i64 ((m388 : Nat) : Int))) one3 (ev_hit hN rfl) (hs388.cell rfl) ?_
   refine reg_nil ?_
   refine hK391 _ _ ?_
   refine wp_block ?_
   refine seq_any fun K392 hK392 => ?_
   refine one_reg ?_
   refine op_eql (ev_hit hN rfl) rfl (fun c52 => ?_) (fun c52 => ?_)
   · -- 52T
    refine op_assign (ev_hit hN rfl) ?_
    refine reg_nil ?_
    refine hK392 _ _ ?_
    refine wp_cond_true (ev_hit hN rfl) ?_
    refine seq_any fun K393 hK393 => ?_
    refine one_reg ?_
    refine op_move (ev_hit hN rfl) ?_
    refine op_assign (ev_hit hN rfl) ?_
    refine op_assign rfl ?_
    refine reg_nil ?_
    refine hK393 _ _ ?_
    refine wp_ret (blk_ret ( ?_))
    refine ret2 rfl hd (ev_hit hN rfl) (ev_hit hN rfl) ⟨_, rfl, ?_⟩
    -- path 32T 34T 52T
    exact ⟨hb, x388, _, congrArg (fun q : Int => Value.tuple #[.int .i64 q, _]) (by omega), by omega, by omega⟩
   · -- 52F
    refine op_assign (ev_hit hN rfl) ?_
    refine reg_nil ?_
    refine hK392 _ _ ?_
    refine wp_cond_false (ev_hit hN rfl) ?_
    refine seq_any fun K394 hK394 => ?_
    refine one_reg ?_
    refine op_eql (ev_hit hN rfl) rfl (fun c55 => ?_) (fun c55 => ?_)
    · -- 55T
     refine op_assign (ev_hit hN rfl) ?_
     refine reg_nil ?_
     refine hK394 _ _ ?_
     refine wp_cond_true (ev_hit hN rfl) ?_
     refine seq_any fun K395 hK395 => ?_
     refine one_reg ?_
     refine op_move (ev_hit hN rfl) ?_
     refine op_assign (ev_hit hN rfl) ?_
     refine op_assign rfl ?_
     refine reg_nil ?_
     refine hK395 _ _ ?_
     refine wp_ret (blk_ret ( ?_))
     refine ret2 rfl hd (ev_hit hN rfl) (ev_hit hN rfl) ⟨_, rfl, ?_⟩
     -- path 32T 34T 52F 55T
     exact ⟨hb, x388, _, congrArg (fun q : Int => Value.tuple #[.int .i64 q, _]) (by omega), by omega, by omega⟩
    · -- 55F
     refine op_assign (ev_hit hN rfl) ?_
     refine reg_nil ?_
     refine hK394 _ _ ?_
     refine wp_cond_false (ev_hit hN rfl) ?_
     refine seq_any fun K396 hK396 => ?_
     refine one_reg ?_
     refine op_move (ev_hit hN rfl) ?_
     refine op_assign (ev_hit hN rfl) ?_
     refine op_assign rfl ?_
     refine reg_nil ?_
     refine hK396 _ _ ?_
     refine wp_ret (blk_ret ( ?_))
     refine ret2 rfl hd (ev_hit hN rfl) (ev_hit hN rfl) ⟨_, rfl, ?_⟩
     -- path 32T 34T 52F 55F
     exact ⟨hb, x388, _, congrArg (fun q : Int => Value.tuple #[.int .i64 q, _]) (by omega), by omega, by omega⟩
  · -- 34F
   refine reg_nil ?_
   refine hK376 _ _ ?_
   refine wp_cond_false (ev_hit hN rfl) ?_
   refine wp_skip ?_
   refine hK375 _ _ ?_
   refine one_reg ?_
   refine op_move (ev_base hN rfl s0) ?_
   refine op_move (ev_hit hN rfl) ?_
   refine op_move (ev_hit hN rfl) ?_
   refine op_move (ev_hit hN rfl) ?_
   refine op_fn (vs := [v, (Value.int .i64 (((a : Nat) : Int) + (((((b - a) / 4) : Nat) : Int) * 1))), (Value.int .i64 (((a : Nat) : Int) + (((((b - a) / 4) : Nat) : Int) * 2))), (Value.int .i64 (((a : Nat) : Int) + (((((b - a) / 4) : Nat) : Int) * 3))), (ptr b367 0)]) ok81 ⟨(ev_hit hN rfl), ⟨(ev_hit hN rfl), ⟨(ev_hit hN rfl), ⟨(ev_hit hN rfl), ⟨(ev_hit hN rfl), trivial⟩⟩⟩⟩⟩ (medianW_ret d v _ w.heap.size b367 0 (a + (((b - a) / 4) * 1)) (a + (((b - a) / 4) * 2)) (a + (((b - a) / 4) * 3)) _ (by first | assumption | (simp only [Array.size_setIfInBounds, swp_sz, siftDown_size]; assumption)) (by omega) hv (by omega) hB369 (by omega) (by omega) (by omega) (by omega)) ?_
   rintro _ w398 ⟨E399, x397, m397, rfl, hx397, hm397, hs397⟩
   have hB369_old := hB369
   have z_w398 := E399.size
   have hv := hv.keep E399 (fun k hk => .inr (by simp at hk; omega))
   have hb := below_step1 hb E399 hb.size (by omega)
   refine op_assign (ev_hit hN rfl) ?_
   refine reg_nil ?_
   refine hK373 _ _ ?_
   refine seq_any fun K400 hK400 => ?_
   refine one_reg ?_
   refine op_load1 (v := (Value.int .i64 ((m397 : Nat) : Int))) one3 (ev_hit hN rfl) (hs397.cell rfl) ?_
   refine reg_nil ?_
   refine hK400 _ _ ?_
   refine wp_block ?_
   refine seq_any fun K401 hK401 => ?_
   refine one_reg ?_
   refine op_eql (ev_hit hN rfl) rfl (fun c52 => ?_) (fun c52 => ?_)
   · -- 52T
    refine op_assign (ev_hit hN rfl) ?_
    refine reg_nil ?_
    refine hK401 _ _ ?_
    refine wp_cond_true (ev_hit hN rfl) ?_
    refine seq_any fun K402 hK402 => ?_
    refine one_reg ?_
    refine op_move (ev_hit hN rfl) ?_
    refine op_assign (ev_hit hN rfl) ?_
    refine op_assign rfl ?_
    refine reg_nil ?_
    refine hK402 _ _ ?_
    refine wp_ret (blk_ret ( ?_))
    refine ret2 rfl hd (ev_hit hN rfl) (ev_hit hN rfl) ⟨_, rfl, ?_⟩
    -- path 32T 34F 52T
    exact ⟨hb, x397, _, congrArg (fun q : Int => Value.tuple #[.int .i64 q, _]) (by omega), by omega, by omega⟩
   · -- 52F
    refine op_assign (ev_hit hN rfl) ?_
    refine reg_nil ?_
    refine hK401 _ _ ?_
    refine wp_cond_false (ev_hit hN rfl) ?_
    refine seq_any fun K403 hK403 => ?_
    refine one_reg ?_
    refine op_eql (ev_hit hN rfl) rfl (fun c55 => ?_) (fun c55 => ?_)
    · -- 55T
     refine op_assign (ev_hit hN rfl) ?_
     refine reg_nil ?_
     refine hK403 _ _ ?_
     refine wp_cond_true (ev_hit hN rfl) ?_
     refine seq_any fun K404 hK404 => ?_
     refine one_reg ?_
     refine op_move (ev_hit hN rfl) ?_
     refine op_assign (ev_hit hN rfl) ?_
     refine op_assign rfl ?_
     refine reg_nil ?_
     refine hK404 _ _ ?_
     refine wp_ret (blk_ret ( ?_))
     refine ret2 rfl hd (ev_hit hN rfl) (ev_hit hN rfl) ⟨_, rfl, ?_⟩
     -- path 32T 34F 52F 55T
     exact ⟨hb, x397, _, congrArg (fun q : Int => Value.tuple #[.int .i64 q, _]) (by omega), by omega, by omega⟩
    · -- 55F
     refine op_assign (ev_hit hN rfl) ?_
     refine reg_nil ?_
     refine hK403 _ _ ?_
     refine wp_cond_false (ev_hit hN rfl) ?_
     refine seq_any fun K405 hK405 => ?_
     refine one_reg ?_
     refine op_move (ev_hit hN rfl) ?_
     refine op_assign (ev_hit hN rfl) ?_
     refine op_assign rfl ?_
     refine reg_nil ?_
     refine hK405 _ _ ?_
     refine wp_ret (blk_ret ( ?_))
     refine ret2 rfl hd (ev_hit hN rfl) (ev_hit hN rfl) ⟨_, rfl, ?_⟩
     -- path 32T 34F 52F 55F
     exact ⟨hb, x397, _, congrArg (fun q : Int => Value.tuple #[.int .i64 q, _]) (by omega), by omega, by omega⟩
 · -- 32F
  refine reg_nil ?_
  refine hK374 _ _ ?_
  refine wp_cond_false (ev_hit hN rfl) ?_
  refine wp_skip ?_
  refine hK373 _ _ ?_
  refine seq_any fun K406 hK406 => ?_
  refine one_reg ?_
  refine op_load1 (v := (Value.int .i64 0)) one3 (ev_hit hN rfl) (hB369.cell rfl) ?_
  refine reg_nil ?_
  refine hK406 _ _ ?_
  refine wp_block ?_
  refine seq_any fun K407 hK407 => ?_
  refine one_reg ?_
  refine op_bin (v := .bool true) (ev_hit hN rfl) rfl (by rw [binOp_eql]; rfl) ?_
  refine op_assign (ev_hit hN rfl) ?_
  refine reg_nil ?_
  refine hK407 _ _ ?_
  refine wp_cond_true (ev_hit hN rfl) ?_
  refine seq_any fun K408 hK408 => ?_
  refine one_reg ?_
  refine op_move (ev_hit hN rfl) ?_
  refine op_assign (ev_hit hN rfl) ?_
  refine op_assign rfl ?_
  refine reg_nil ?_
  refine hK408 _ _ ?_
  refine wp_ret (blk_ret ( ?_))
  refine ret2 rfl hd (ev_hit hN rfl) (ev_hit hN rfl) ⟨_, rfl, ?_⟩
  -- path 32F
  exact ⟨hb, (a + (((b - a) / 4) * 2)), _, congrArg (fun q : Int => Value.tuple #[.int .i64 q, _]) (by omega), by omega, by omega⟩

end Go.Proofs.Ytpmnljffdofkeaa

/- Walks, written by a program: what each function of the translation hands back. -/
namespace Go.Proofs.Ytpmnljffdofkeaa
open Go.Gx Go.RowKit
attribute [local irreducible] wpList wpStill Code.wp Calls
open Go.Sort (insertionSort insOuter insInner swp siftDown heapSort heapBuild heapPop scanUp scanDown partition partLoop partitionEqual partEqLoop scanSorted partialIns bitsLen partialInsertionSort shiftDown shiftUp SortedIn reverseRange reverseLoop fixDown fixUp)
set_option maxHeartbeats 2000000 in
theorem partEqW_ret (d : Ar) (v : Value) (n base : Nat) (a b pv : Nat) (w : World) (hd : d.size = n) (hn : n ≤ 4000000000000000000) (O : Own w base 35 1 v n (d.toList.map u16v)) (hap : a ≤ pv) (hpb : pv < b) (hbn : b ≤ n) : Ret Try.prog 73 #[v, (Value.int .i64 ((a : Nat) : Int)), (Value.int .i64 ((b : Nat) : Int)), (Value.int .i64 ((pv : Nat) : Int))] w (fun v' w' => w.grownBy w' v.ownBlock ∧ v' = .int .i64 ((partitionEqual ltT d a b pv).1 : Int) ∧ Own w' base 35 1 v n ((partitionEqual ltT d a b pv).2.toList.map u16v)) := by
 have hb := grown_refl w v.ownBlock
 refine enter (N := 84) Try.func73 rfl rfl (by simp) fun a0 hN hd hA => ?_
 have s0 : a0.tmps.getD 0 undef = v := hA 0 (by simp)
 have s1 : a0.tmps.getD 1 undef = (Value.int .i64 ((a : Nat) : Int)) := hA 1 (by simp)
 have s2 : a0.tmps.getD 2 undef = (Value.int .i64 ((b : Nat) : Int)) := hA 2 (by simp)
 have s3 : a0.tmps.getD 3 undef = (Value.int .i64 ((pv : Nat) : Int)) := hA 3 (by simp)
 clear hA
 refine seq_any fun K111 hK111 => ?_
 refine one_reg ?_
 refine op_assign rfl ?_
 refine reg_nil ?_
 refine hK111 _ _ ?_
 refine seq_any fun K112 hK112 => ?_
 refine reg_mid (e := 35) (sz := 1) (base := base) (n := n) (v := v) (Φ := phiL [(fun uz _ => uz = v), (fun uz _ => uz = (Value.int .i64 ((a : Nat) : Int))), (fun uz _ => uz = v), (fun uz _ => uz = (Value.int .i64 ((pv : Nat) : Int))), (fun uz _ => uz = v), (fun uz _ => uz = (Value.int .i64 ((pv : Nat) : Int))), (fun uz _ => ∃ bz oz, uz = ptr bz oz ∧ AtV v pv bz oz), (fun uz _ => uz = (Value.int .u16 (d[pv]!.toNat : Int))), (fun uz _ => uz = v), (fun uz _ => uz = (Value.int .i64 ((a : Nat) : Int))), (fun uz _ => ∃ bz oz, uz = ptr bz oz ∧ AtV v a bz oz), (fun uz _ => uz = (Value.int .u16 (d[a]!.toNat : Int))), (fun uz _ => ∃ bz oz, uz = ptr bz oz ∧ AtV v a bz oz), (fun _ _ => True), (fun uz _ => ∃ bz oz, uz = ptr bz oz ∧ AtV v pv bz oz), (fun _ _ => True)]) [13, 15] [(d.toList.map u16v), ((d.setIfInBounds a d[pv]!).toList.map u16v), (((d.setIfInBounds a d[pv]!).setIfInBounds pv d[a]!).toList.map u16v)] mixed (by kernel_rfl) (by kernel_rfl) (by kernel_rfl) (by kernel_rfl) hN O (StL.get (StL.eq (StL.eq (StL.eq (StL.eq (StL.eq (StL.eq (StL.at (StL.eq (StL.eq (StL.eq (StL.at (StL.eq (StL.at (StL.cons (fun _ _ _ _ h => h) (StL.at (StL.cons (fun _ _ _ _ h => h) (StL.nil _)))))))))))))))))) (ObRs.get (ObRs.cons ?_ (ObRs.cons ?_ (ObRs.cons ?_ (ObRs.cons ?_ (ObRs.cons ?_ (ObRs.cons ?_ (ObRs.cons ?_ (ObRs.cons ?_ (ObRs.cons ?_ (ObRs.cons ?_ (ObRs.cons ?_ (ObRs.cons ?_ (ObRs.cons ?_ (ObRs.pass rfl (ObRs.cons ?_ (ObRs.pass rfl (ObRs.nil)))))))))))))))))) (ObWs.get (ObWs.cons ?_ (ObWs.cons ?_ (ObWs.nil)))) ?_
 ·
  intro aA wA cA hNA hRA hckA hOA hbsA hdpA
  have qA_0 := (hbsA 0 rfl).trans (sl_base hN rfl s0)
  clear hbsA hdpA
  refine op_move (ev_base hNA rfl qA_0) ?_
  exact obR_end rfl rfl (grown_refl _ _)
 ·
  intro aA wA cA hNA hRA hckA hOA hbsA hdpA
  have qA_1 := (hbsA 1 rfl).trans (sl_base hN rfl s1)
  clear hbsA hdpA
  refine op_move (ev_base hNA rfl qA_1) ?_
  exact obR_end rfl rfl (grown_refl _ _)
 ·
  intro aA wA cA hNA hRA hckA hOA hbsA hdpA
  have qA_0 := (hbsA 0 rfl).trans (sl_base hN rfl s0)
  clear hbsA hdpA
  refine op_move (ev_base hNA rfl qA_0) ?_
  exact obR_end rfl rfl (grown_refl _ _)
 ·
  intro aA wA cA hNA hRA hckA hOA hbsA hdpA
  have qA_3 := (hbsA 3 rfl).trans (sl_base hN rfl s3)
  clear hbsA hdpA
  refine op_move (ev_base hNA rfl qA_3) ?_
  exact obR_end rfl rfl (grown_refl _ _)
 ·
  intro aA wA cA hNA hRA hckA hOA hbsA hdpA
  have qA_0 := (hbsA 0 rfl).trans (sl_base hN rfl s0)
  clear hbsA hdpA
  refine op_move (ev_base hNA rfl qA_0) ?_
  exact obR_end rfl rfl (grown_refl _ _)
 ·
  intro aA wA cA hNA hRA hckA hOA hbsA hdpA
  have qA_3 := (hbsA 3 rfl).trans (sl_base hN rfl s3)
  clear hbsA hdpA
  refine op_move (ev_base hNA rfl qA_3) ?_
  exact obR_end rfl rfl (grown_refl _ _)
 ·
  intro aA wA cA hNA hRA hckA hOA hbsA hdpA
  have qA_15 : Sl aA 15 v := hdpA 4 _ 15 (by kernel_rfl) rfl rfl
  have qA_16 : Sl aA 16 (Value.int .i64 ((pv : Nat) : Int)) := hdpA 5 _ 16 (by kernel_rfl) rfl rfl
  clear hbsA hdpA
  refine op_index_own (i := pv) slt22 (ev_base hNA rfl qA_15) hOA (ev_base hNA rfl qA_16) (by omega) (by omega) ?_
  intro b_ o_ _ hA_
  exact obR_end rfl ⟨b_, o_, rfl, by simpa using hA_⟩ (grown_refl _ _)
 ·
  intro aA wA cA hNA hRA hckA hOA hbsA hdpA
  obtain ⟨bA_17, oA_17, qA_17, hAA_17⟩ := hdpA 6 _ 17 (by kernel_rfl) rfl rfl
  clear hbsA hdpA
  obtain rfl : cA = 0 := Nat.le_zero.1 (hckA 0 13 rfl (by kernel_rfl))
  have hOA : Own wA base 35 1 v n (d.toList.map u16v) := hOA
  refine op_load1 (v := (Value.int .u16 (d[pv]!.toNat : Int))) one35 (ev_base hNA rfl qA_17) (by have := hOA.cellAt hAA_17 0 _ (el_at (i := pv) (by first | omega | (simp only [Array.size_setIfInBounds, swp_sz, siftDown_size]; omega))); simpa using this) ?_
  exact obR_end rfl rfl (grown_refl _ _)
 ·
  intro aA wA cA hNA hRA hckA hOA hbsA hdpA
  have qA_0 := (hbsA 0 rfl).trans (sl_base hN rfl s0)
  clear hbsA hdpA
  refine op_move (ev_base hNA rfl qA_0) ?_
  exact obR_end rfl rfl (grown_refl _ _)
 ·
  intro aA wA cA hNA hRA hckA hOA hbsA hdpA
  have qA_1 := (hbsA 1 rfl).trans (sl_base hN rfl s1)
  clear hbsA hdpA
  refine op_move (ev_base hNA rfl qA_1) ?_
  exact obR_end rfl rfl (grown_refl _ _)
 ·
  intro aA wA cA hNA hRA hckA hOA hbsA hdpA
  have qA_19 : Sl aA 19 v := hdpA 8 _ 19 (by kernel_rfl) rfl rfl
  have qA_20 : Sl aA 20 (Value.int .i64 ((a : Nat) : Int)) := hdpA 9 _ 20 (by kernel_rfl) rfl rfl
  clear hbsA hdpA
  refine op_index_own (i := a) slt22 (ev_base hNA rfl qA_19) hOA (ev_base hNA rfl qA_20) (by omega) (by omega) ?_
  intro b_ o_ _ hA_
  exact obR_end rfl ⟨b_, o_, rfl, by simpa using hA_⟩ (grown_refl _ _)
 ·
  intro aA wA cA hNA hRA hckA hOA hbsA hdpA
  obtain ⟨bA_21, oA_21, qA_21, hAA_21⟩ := hdpA 10 _ 21 (by kernel_rfl) rfl rfl
  clear hbsA hdpA
  obtain rfl : cA = 0 := Nat.le_zero.1 (hckA 0 13 rfl (by kernel_rfl))
  have hOA : Own wA base 35 1 v n (d.toList.map u16v) := hOA
  refine op_load1 (v := (Value.int .u16 (d[a]!.toNat : Int))) one35 (ev_base hNA rfl qA_21) (by have := hOA.cellAt hAA_21 0 _ (el_at (i := a) (by first | omega | (simp only [Array.size_setIfInBounds, swp_sz, siftDown_size]; omega))); simpa using this) ?_
  exact obR_end rfl rfl (grown_refl _ _)
 ·
  intro aA wA cA hNA hRA hckA hOA hbsA hdpA
  have qA_11 : Sl aA 11 v := hdpA 0 _ 11 (by kernel_rfl) rfl rfl
  have qA_12 : Sl aA 12 (Value.int .i64 ((a : Nat) : Int)) := hdpA 1 _ 12 (by kernel_rfl) rfl rfl
  clear hbsA hdpA
  refine op_index_own (i := a) slt22 (ev_base hNA rfl qA_11) hOA (ev_base hNA rfl qA_12) (by omega) (by omega) ?_
  intro b_ o_ _ hA_
  exact obR_end rfl ⟨b_, o_, rfl, by simpa using hA_⟩ (grown_refl _ _)
 ·
  intro aA wA cA hNA hRA hckA hOA hbsA hdpA
  have qA_13 : Sl aA 13 v := hdpA 2 _ 13 (by kernel_rfl) rfl rfl
  have qA_14 : Sl aA 14 (Value.int .i64 ((pv : Nat) : Int)) := hdpA 3 _ 14 (by kernel_rfl) rfl rfl
  clear hbsA hdpA
  refine op_index_own (i := pv) slt22 (ev_base hNA rfl qA_13) hOA (ev_base hNA rfl qA_14) (by omega) (by omega) ?_
  intro b_ o_ _ hA_
  exact obR_end rfl ⟨b_, o_, rfl, by simpa using hA_⟩ (grown_refl _ _)
 ·
  intro o_ ho_; obtain rfl := Option.some.inj ho_; intro aA wA hNA hRA hbsA hdpA hOA
  obtain ⟨bA_23, oA_23, qA_23, hAA_23⟩ := hdpA 12 _ 23 (by kernel_rfl) rfl rfl
  have qA_18 : Sl aA 18 (Value.int .u16 (d[pv]!.toNat : Int)) := hdpA 7 _ 18 (by kernel_rfl) rfl rfl
  clear hbsA hdpA
  have hOA : Own wA base 35 1 v n (d.toList.map u16v) := hOA
  refine op_store_own (vs := [(Value.int .u16 (d[pv]!.toNat : Int))]) size35 (ev_base hNA rfl qA_23) (ev_base hNA rfl qA_18) rfl rfl rfl hOA hAA_23 (by have := hOA.1; simp at this ⊢; omega) ?_
  intro w_ hO_ E_
  exact obW_end rfl (hO_.cast rfl (set_arr (by first | omega | (simp only [Array.size_setIfInBounds, swp_sz, siftDown_size]; omega)))) E_
 ·
  intro o_ ho_; obtain rfl := Option.some.inj ho_; intro aA wA hNA hRA hbsA hdpA hOA
  obtain ⟨bA_24, oA_24, qA_24, hAA_24⟩ := hdpA 14 _ 24 (by kernel_rfl) rfl rfl
  have qA_22 : Sl aA 22 (Value.int .u16 (d[a]!.toNat : Int)) := hdpA 11 _ 22 (by kernel_rfl) rfl rfl
  clear hbsA hdpA
  have hOA : Own wA base 35 1 v n ((d.setIfInBounds a d[pv]!).toList.map u16v) := hOA
  refine op_store_own (vs := [(Value.int .u16 (d[a]!.toNat : Int))]) size35 (ev_base hNA rfl qA_24) (ev_base hNA rfl qA_22) rfl rfl rfl hOA hAA_24 (by have := hOA.1; simp at this ⊢; omega) ?_
  intro w_ hO_ E_
  exact obW_end rfl (hO_.cast rfl (set_arr (by first | omega | (simp only [Array.size_setIfInBounds, swp_sz, siftDown_size]; omega)))) E_
 ·
  intro a113 w113 hN113 hd113 hbs113 hph113 hO113 E113
  have hd113 := hd113.trans hd
  have s113_0 := (hbs113 0 rfl).trans (sl_base hN rfl s0)
  have s113_1 := (hbs113 1 rfl).trans (sl_base hN rfl s1)
  have s113_2 := (hbs113 2 rfl).trans (sl_base hN rfl s2)
  have s113_8 := (hbs113 8 rfl).trans (sl_hit hN rfl)
  clear hbs113 hph113
  have hO113 : Own w113 base 35 1 v n (((d.setIfInBounds a d[pv]!).setIfInBounds pv d[a]!).toList.map u16v) := hO113
  have z_w113 := E113.size
  have hb := grow_stepX hb E113 rfl
  refine hK112 _ _ ?_
  refine seq_any fun K114 hK114 => ?_
  refine one_reg ?_
  refine op_move (ev_base hN113 rfl s113_1) ?_
  refine op_add (ev_hit hN113 rfl) rfl (add64 (by omega)) ?_
  refine op_move (ev_base hN113 rfl s113_2) ?_
  refine op_sub (r := ((b - 1 : Nat) : Int)) (ev_hit hN113 rfl) rfl (by rw [IntKind.wrap_i64]; omega) ?_
  refine op_assign (ev_hit hN113 rfl) ?_
  refine op_assign (ev_hit hN113 rfl) ?_
  refine reg_nil ?_
  refine hK114 _ _ ?_
  refine seq_any fun K115 hK115 => ?_
  refine wp_block ?_
  refine loop_m (fun mz_ az_ w' => ∃ (ii jj : Nat) (dk : Ar), mz_ = (jj + 2 - ii) ∧ (az_.tmps.getD 0 undef = v) ∧ (az_.tmps.getD 1 undef = (Value.int .i64 ((a : Nat) : Int))) ∧ (az_.tmps.getD 8 undef = (Value.int .i64 0)) ∧ (az_.tmps.getD 9 undef = (Value.int .i64 ((ii : Nat) : Int))) ∧ (az_.tmps.getD 10 undef = (Value.int .i64 ((jj : Nat) : Int))) ∧ (dk.size = n) ∧ (a < ii ∧ ii ≤ jj + 1 ∧ jj < b) ∧ (partEqLoop ltT a (a + 1) (b - 1) (swp d a pv) = partEqLoop ltT a ii jj dk) ∧ (w.grownBy w' v.ownBlock) ∧ (w113.heap.size ≤ w'.heap.size) ∧ (Own w' base 35 1 v n (dk.toList.map u16v))) _ hN113 hd113 ⟨(a + 1), (b - 1), _, rfl, (sl_base hN113 rfl s113_0), (sl_base hN113 rfl s113_1), (sl_base hN113 rfl s113_8), (sl_hit hN113 rfl).trans (congrArg (Value.int .i64) (by omega)), (sl_hit hN113 rfl).trans (congrArg (Value.int .i64) (by omega)), (by first | assumption | (simp only [Array.size_setIfInBounds, swp_sz, siftDown_size]; assumption)), (by omega), rfl, hb, (Nat.le_refl _), hO113⟩ ?_
  rintro _ a116 w116 hN116 hd116 ⟨ii, jj, dk, rfl, s116_0, s116_1, s116_8, s116_9, s116_10, hdk, hr1, hs, hb, zl_w116, hO117⟩
  have z_w116 := hb.size
  refine wp_block ?_
  refine seq_any fun K118 hK118 => ?_
  refine wp_block ?_
  refine loop_m (fun mz_ az_ w' => ∃ (i2 : Nat), mz_ = (jj + 1 - i2) ∧ (az_.tmps.getD 0 undef = v) ∧ (az_.tmps.getD 1 undef = (Value.int .i64 ((a : Nat) : Int))) ∧ (az_.tmps.getD 8 undef = (Value.int .i64 0)) ∧ (az_.tmps.getD 10 undef = (Value.int .i64 ((jj : Nat) : Int))) ∧ (az_.tmps.getD 9 undef = (Value.int .i64 ((i2 : Nat) : Int))) ∧ (ii ≤ i2 ∧ i2 ≤ jj + 1) ∧ (scanUp (fun x => !ltT dk[a]! x) dk jj ii = scanUp (fun x => !ltT dk[a]! x) dk jj i2) ∧ (w.grownBy w' v.ownBlock) ∧ (w116.heap.size ≤ w'.heap.size) ∧ (Own w' base 35 1 v n (dk.toList.map u16v))) _ hN116 hd116 ⟨ii, rfl, (sl_base hN116 rfl s116_0), (sl_base hN116 rfl s116_1), (sl_base hN116 rfl s116_8), (sl_base hN116 rfl s116_10), (sl_base hN116 rfl s116_9).trans (congrArg (Value.int .i64) (by omega)), (by omega), rfl, hb, (Nat.le_refl _), hO117⟩ ?_
  rintro _ a119 w119 hN119 hd119 ⟨i2, rfl, s119_0, s119_1, s119_8, s119_10, s119_9, hr2, hu1, hb, zl_w119, hO117⟩
  have z_w119 := hb.size
  refine seq_any fun K120 hK120 => ?_
  refine seq_any fun K121 hK121 => ?_
  refine reg_still mixed (by kernel_rfl) ?_
  intro w123 E122
  have z_w123 := E122.size
  have hO117 := hO117.keep0 E122
  have hb := grow_step0 hb E122
  refine st_step rfl (fun _ h9 => op_move (ev_base hN119 rfl s119_9) h9) ?_
  refine st_step rfl (fun _ h9 => op_move (ev_base hN119 rfl s119_10) h9) ?_
  by_cases g31 : ((i2 : Nat) : Int) ≤ ((jj : Nat) : Int)
  · -- 31T
   refine st_step rfl (fun _ h9 => op_cmp (b := true) (ev_hit hN119 rfl) (ev_hit hN119 rfl) (b_leq (decide_eq_true g31)) h9) ?_
   refine st_step rfl (fun _ h9 => op_move (ev_hit hN119 rfl) h9) ?_
   refine st_g_true (j := 3) (dj := 32) (b := true) rfl rfl rfl (ev_hit hN119 rfl) ?_
   refine st_step rfl (fun _ h9 => op_move (ev_base hN119 rfl s119_0) h9) ?_
   refine st_g_true (j := 3) (dj := 32) (b := true) rfl rfl rfl (ev_hit hN119 rfl) ?_
   refine st_step rfl (fun _ h9 => op_move (ev_base hN119 rfl s119_1) h9) ?_
   refine st_g_true (j := 3) (dj := 32) (b := true) rfl rfl rfl (ev_hit hN119 rfl) ?_
   refine st_index_rd slt22 (ev_hit hN119 rfl) hO117.rdw (ev_hit hN119 rfl) (by omega) (by omega) ?_
   intro b124 o125 h0b124 h1b124 hc126
   refine st_g_true (j := 3) (dj := 32) (b := true) rfl rfl rfl (ev_hit hN119 rfl) ?_
   refine st_step rfl (fun _ h9 => op_load1 (v := (Value.int .u16 (dk[a]!.toNat : Int))) one35 (ev_hit hN119 rfl) (by have := hc126 0 (Value.int .u16 (dk[a]!.toNat : Int)) (by decide) (el_arr (i := a) (by omega) (by first | omega | (simp only [Array.size_setIfInBounds, swp_sz, siftDown_size]; omega))); simpa using this) h9) ?_
   refine st_g_true (j := 3) (dj := 32) (b := true) rfl rfl rfl (ev_hit hN119 rfl) ?_
   refine st_step rfl (fun _ h9 => op_move (ev_base hN119 rfl s119_0) h9) ?_
   refine st_g_true (j := 3) (dj := 32) (b := true) rfl rfl rfl (ev_hit hN119 rfl) ?_
   refine st_step rfl (fun _ h9 => op_move (ev_base hN119 rfl s119_9) h9) ?_
   refine st_g_true (j := 3) (dj := 32) (b := true) rfl rfl rfl (ev_hit hN119 rfl) ?_
   refine st_index_rd slt22 (ev_hit hN119 rfl) hO117.rdw (ev_hit hN119 rfl) (by omega) (by omega) ?_
   intro b127 o128 h0b127 h1b127 hc129
   refine st_g_true (j := 3) (dj := 32) (b := true) rfl rfl rfl (ev_hit hN119 rfl) ?_
   refine st_step rfl (fun _ h9 => op_load1 (v := (Value.int .u16 (dk[i2]!.toNat : Int))) one35 (ev_hit hN119 rfl) (by have := hc129 0 (Value.int .u16 (dk[i2]!.toNat : Int)) (by decide) (el_arr (i := i2) (by omega) (by first | omega | (simp only [Array.size_setIfInBounds, swp_sz, siftDown_size]; omega))); simpa using this) h9) ?_
   refine st_g_true (j := 3) (dj := 32) (b := true) rfl rfl rfl (ev_hit hN119 rfl) ?_
   refine st_fn (vs := [(Value.int .u16 (dk[a]!.toNat : Int)), (Value.int .u16 (dk[i2]!.toNat : Int))]) ok72 (⟨(ev_hit hN119 rfl), ⟨(ev_hit hN119 rfl), trivial⟩⟩) (Less16_ret dk[a]! dk[i2]! _) ?_
   refine st_g_true (j := 3) (dj := 32) (b := true) rfl rfl rfl (ev_hit hN119 rfl) ?_
   refine st_step rfl (fun _ h9 => op_not (ev_hit hN119 rfl) h9) ?_
   refine st_step rfl (fun _ h9 => op_pick_t (ev_hit hN119 rfl) (ev_hit hN119 rfl) h9) ?_
   refine st_nil ?_
   refine hK121 _ _ ?_
   refine wp_cond_split (ev_hit hN119 rfl) (fun c43 => ?_) (fun c43 => ?_)
   · -- 43T
    refine wp_skip ?_
    refine hK120 _ _ ?_
    refine wp_block ?_
    refine one_reg ?_
    refine op_move (ev_base hN119 rfl s119_9) ?_
    refine op_add (ev_hit hN119 rfl) rfl (add64 (by omega)) ?_
    refine op_assign (ev_hit hN119 rfl) ?_
    refine reg_nil ?_
    refine blk_normal ?_
    -- round 31T 43T
    exact loop_next _ hN119 hd119 ⟨(i2 + 1), rfl, (sl_base hN119 rfl s119_0), (sl_base hN119 rfl s119_1), (sl_base hN119 rfl s119_8), (sl_base hN119 rfl s119_10), (sl_hit hN119 rfl).trans (congrArg (Value.int .i64) (by omega)), (by omega), (hu1.trans (scanUp_go (by omega) c43)), hb, (by omega), hO117⟩ (by omega)
   · -- 43F
    refine wp_exit (then_exit (then_exit (blk_hit ?_)))
    refine hK118 _ _ ?_
    refine seq_any fun K130 hK130 => ?_
    refine wp_block ?_
    have hu2 : scanUp (fun x => !ltT dk[a]! x) dk jj ii = i2 := hu1.trans (scanUp_stop (.inr c43))
    refine loop_m (fun mz_ az_ w' => ∃ (j2 : Nat), mz_ = (j2 + 1) ∧ (az_.tmps.getD 0 undef = v) ∧ (az_.tmps.getD 1 undef = (Value.int .i64 ((a : Nat) : Int))) ∧ (az_.tmps.getD 8 undef = (Value.int .i64 0)) ∧ (az_.tmps.getD 9 undef = (Value.int .i64 ((i2 : Nat) : Int))) ∧ (az_.tmps.getD 10 undef = (Value.int .i64 ((j2 : Nat) : Int))) ∧ (j2 ≤ jj ∧ i2 ≤ j2 + 1) ∧ (scanDown (fun x => ltT dk[a]! x) dk i2 jj = scanDown (fun x => ltT dk[a]! x) dk i2 j2) ∧ (w.grownBy w' v.ownBlock) ∧ (w123.heap.size ≤ w'.heap.size) ∧ (Own w' base 35 1 v n (dk.toList.map u16v))) _ hN119 hd119 ⟨jj, rfl, (sl_base hN119 rfl s119_0), (sl_base hN119 rfl s119_1), (sl_base hN119 rfl s119_8), (sl_base hN119 rfl s119_9), (sl_base hN119 rfl s119_10).trans (congrArg (Value.int .i64) (by omega)), (by omega), rfl, hb, (Nat.le_refl _), hO117⟩ ?_
    rintro _ a131 w131 hN131 hd131 ⟨j2, rfl, s131_0, s131_1, s131_8, s131_9, s131_10, hr3, hv1, hb, zl_w131, hO117⟩
    have z_w131 := hb.size
    refine seq_any fun K132 hK132 => ?_
    refine seq_any fun K133 hK133 => ?_
    refine reg_still mixed (by kernel_rfl) ?_
    intro w135 E134
    have z_w135 := E134.size
    have hO117 := hO117.keep0 E134
    have hb := grow_step0 hb E134
    refine st_step rfl (fun _ h9 => op_move (ev_base hN131 rfl s131_9) h9) ?_
    refine st_step rfl (fun _ h9 => op_move (ev_base hN131 rfl s131_10) h9) ?_
    by_cases g48 : ((i2 : Nat) : Int) ≤ ((j2 : Nat) : Int)
    · -- 48T
     refine st_step rfl (fun _ h9 => op_cmp (b := true) (ev_hit hN131 rfl) (ev_hit hN131 rfl) (b_leq (decide_eq_true g48)) h9) ?_
     refine st_step rfl (fun _ h9 => op_move (ev_hit hN131 rfl) h9) ?_
     refine st_g_true (j := 3) (dj := 49) (b := true) rfl rfl rfl (ev_hit hN131 rfl) ?_
     refine st_step rfl (fun _ h9 => op_move (ev_base hN131 rfl s131_0) h9) ?_
     refine st_g_true (j := 3) (dj := 49) (b := true) rfl rfl rfl (ev_hit hN131 rfl) ?_
     refine st_step rfl (fun _ h9 => op_move (ev_base hN131 rfl s131_1) h9) ?_
     refine st_g_true (j := 3) (dj := 49) (b := true) rfl rfl rfl (ev_hit hN131 rfl) ?_
     refine st_index_rd slt22 (ev_hit hN131 rfl) hO117.rdw (ev_hit hN131 rfl) (by omega) (by omega) ?_
     intro b136 o137 h0b136 h1b136 hc138
     refine st_g_true (j := 3) (dj := 49) (b := true) rfl rfl rfl (ev_hit hN131 rfl) ?_
     refine st_step rfl (fun _ h9 => op_load1 (v := (Value.int .u16 (dk[a]!.toNat : Int))) one35 (ev_hit hN131 rfl) (by have := hc138 0 (Value.int .u16 (dk[a]!.toNat : Int)) (by decide) (el_arr (i := a) (by omega) (by first | omega | (simp only [Array.size_setIfInBounds, swp_sz, siftDown_size]; omega))); simpa using this) h9) ?_
     refine st_g_true (j := 3) (dj := 49) (b := true) rfl rfl rfl (ev_hit hN131 rfl) ?_
     refine st_step rfl (fun _ h9 => op_move (ev_base hN131 rfl s131_0) h9) ?_
     refine st_g_true (j := 3) (dj := 49) (b := true) rfl rfl rfl (ev_hit hN131 rfl) ?_
     refine st_step rfl (fun _ h9 => op_move (ev_base hN131 rfl s131_10) h9) ?_
     refine st_g_true (j := 3) (dj := 49) (b := true) rfl rfl rfl (ev_hit hN131 rfl) ?_
     refine st_index_rd slt22 (ev_hit hN131 rfl) hO117.rdw (ev_hit hN131 rfl) (by omega) (by omega) ?_
     intro b139 o140 h0b139 h1b139 hc141
     refine st_g_true (j := 3) (dj := 49) (b := true) rfl rfl rfl (ev_hit hN131 rfl) ?_
     refine st_step rfl (fun _ h9 => op_load1 (v := (Value.int .u16 (dk[j2]!.toNat : Int))) one35 (ev_hit hN131 rfl) (by have := hc141 0 (Value.int .u16 (dk[j2]!.toNat : Int)) (by decide) (el_arr (i := j2) (by omega) (by first | omega | (simp only [Array.size_setIfInBounds, swp_sz, siftDown_size]; omega))); simpa using this) h9) ?_
     refine st_g_true (j := 3) (dj := 49) (b := true) rfl rfl rfl (ev_hit hN131 rfl) ?_
     refine st_fn (vs := [(Value.int .u16 (dk[a]!.toNat : Int)), (Value.int .u16 (dk[j2]!.toNat : Int))]) ok72 (⟨(ev_hit hN131 rfl), ⟨(ev_hit hN131 rfl), trivial⟩⟩) (Less16_ret dk[a]! dk[j2]! _) ?_
     refine st_step rfl (fun _ h9 => op_pick_t (ev_hit hN131 rfl) (ev_hit hN131 rfl) h9) ?_
     refine st_nil ?_
     refine hK133 _ _ ?_
     refine wp_cond_split (ev_hit hN131 rfl) (fun c59 => ?_) (fun c59 => ?_)
     · -- 59T
      refine wp_skip ?_
      refine hK132 _ _ ?_
      refine wp_block ?_
      refine one_reg ?_
      refine op_move (ev_base hN131 rfl s131_10) ?_
      refine op_sub (ev_hit hN131 rfl) rfl (sub64 (by omega)) ?_
      refine op_assign (ev_hit hN131 rfl) ?_
      refine reg_nil ?_
      refine blk_normal ?_
      -- round 31T 43F 48T 59T
      exact loop_next _ hN131 hd131 ⟨(j2 - 1), rfl, (sl_base hN131 rfl s131_0), (sl_base hN131 rfl s131_1), (sl_base hN131 rfl s131_8), (sl_base hN131 rfl s131_9), (sl_hit hN131 rfl).trans (congrArg (Value.int .i64) (by omega)), (by omega), (hv1.trans (scanDown_go (by omega) (by omega) c59)), hb, (by omega), hO117⟩ (by omega)
     · -- 59F
      refine wp_exit (then_exit (then_exit (blk_hit ?_)))
      refine hK130 _ _ ?_
      refine seq_any fun K142 hK142 => ?_
      refine seq_any fun K143 hK143 => ?_
      refine one_reg ?_
      refine op_move (ev_base hN131 rfl s131_9) ?_
      refine op_move (ev_base hN131 rfl s131_10) ?_
      refine op_gtr (ev_hit hN131 rfl) (ev_hit hN131 rfl) (fun c64 => ?_) (fun c64 => ?_)
      · -- 64T
       refine reg_nil ?_
       refine hK143 _ _ ?_
       refine wp_cond_true (ev_hit hN131 rfl) ?_
       refine wp_exit (then_exit (blk_miss (by decide) (then_exit (blk_hit ?_))))
       refine hK115 _ _ ?_
       refine seq_any fun K144 hK144 => ?_
       refine one_reg ?_
       refine op_move (ev_base hN131 rfl s131_9) ?_
       refine op_assign (ev_hit hN131 rfl) ?_
       refine reg_nil ?_
       refine hK144 _ _ ?_
       refine wp_ret ?_
       refine ret1 rfl hd131 (ev_hit hN131 rfl) ⟨_, rfl, ?_⟩
       -- path 31T 43F 48T 59F 64T
       have hv2 : scanDown (fun x => ltT dk[a]! x) dk i2 jj = j2 := hv1.trans (scanDown_stop (.inr c59))
       have hq : partitionEqual ltT d a b pv = (i2, dk) := hs.trans (pe_stop hu2 hv2 (by omega))
       exact ⟨hb, by first | (rw [hq]; done) | (rw [hq]; rfl), hO117.cast rfl (by rw [hq])⟩
      · -- 64F
       refine reg_nil ?_
       refine hK143 _ _ ?_
       refine wp_cond_false (ev_hit hN131 rfl) ?_
       refine wp_skip ?_
       refine hK142 _ _ ?_
       refine seq_any fun K145 hK145 => ?_
       refine reg_mid (e := 35) (sz := 1) (base := base) (n := n) (v := v) (Φ := phiL [(fun uz _ => uz = v), (fun uz _ => uz = (Value.int .i64 ((i2 : Nat) : Int))), (fun uz _ => uz = v), (fun uz _ => uz = (Value.int .i64 ((j2 : Nat) : Int))), (fun uz _ => uz = v), (fun uz _ => uz = (Value.int .i64 ((j2 : Nat) : Int))), (fun uz _ => ∃ bz oz, uz = ptr bz oz ∧ AtV v j2 bz oz), (fun uz _ => uz = (Value.int .u16 (dk[j2]!.toNat : Int))), (fun uz _ => uz = v), (fun uz _ => uz = (Value.int .i64 ((i2 : Nat) : Int))), (fun uz _ => ∃ bz oz, uz = ptr bz oz ∧ AtV v i2 bz oz), (fun uz _ => uz = (Value.int .u16 (dk[i2]!.toNat : Int))), (fun uz _ => ∃ bz oz, uz = ptr bz oz ∧ AtV v i2 bz oz), (fun _ _ => True), (fun uz _ => ∃ bz oz, uz = ptr bz oz ∧ AtV v j2 bz oz), (fun _ _ => True)]) [13, 15] [(dk.toList.map u16v), ((dk.setIfInBounds i2 dk[j2]!).toList.map u16v), (((dk.setIfInBounds i2 dk[j2]!).setIfInBounds j2 dk[i2]!).toList.map u16v)] mixed (by kernel_rfl) (by kernel_rfl) (by kernel_rfl) (by kernel_rfl) hN131 hO117 (StL.get (StL.eq (StL.eq (StL.eq (StL.eq (StL.eq (StL.eq (StL.at (StL.eq (StL.eq (StL.eq (StL.at (StL.eq (StL.at (StL.cons (fun _ _ _ _ h => h) (StL.at (StL.cons (fun _ _ _ _ h => h) (StL.nil _)))))))))))))))))) (ObRs.get (ObRs.cons ?_ (ObRs.cons ?_ (ObRs.cons ?_ (ObRs.cons ?_ (ObRs.cons ?_ (ObRs.cons ?_ (ObRs.cons ?_ (ObRs.cons ?_ (ObRs.cons ?_ (ObRs.cons ?_ (ObRs.cons ?_ (ObRs.cons ?_ (ObRs.cons ?_ (ObRs.pass rfl (ObRs.cons ?_ (ObRs.pass rfl (ObRs.nil)))))))))))))))))) (ObWs.get (ObWs.cons ?_ (ObWs.cons ?_ (ObWs.nil)))) ?_
       ·
        intro aA wA cA hNA hRA hckA hOA hbsA hdpA
        have qA_0 := (hbsA 0 rfl).trans (sl_base hN131 rfl s131_0)
        clear hbsA hdpA
        refine op_move (ev_base hNA rfl qA_0) ?_
        exact obR_end rfl rfl (grown_refl _ _)
       ·
        intro aA wA cA hNA hRA hckA hOA hbsA hdpA
        have qA_9 := (hbsA 9 rfl).trans (sl_base hN131 rfl s131_9)
        clear hbsA hdpA
        refine op_move (ev_base hNA rfl qA_9) ?_
        exact obR_end rfl rfl (grown_refl _ _)
       ·
        intro aA wA cA hNA hRA hckA hOA hbsA hdpA
        have qA_0 := (hbsA 0 rfl).trans (sl_base hN131 rfl s131_0)
        clear hbsA hdpA
        refine op_move (ev_base hNA rfl qA_0) ?_
        exact obR_end rfl rfl (grown_refl _ _)
       ·
        intro aA wA cA hNA hRA hckA hOA hbsA hdpA
        have qA_10 := (hbsA 10 rfl).trans (sl_base hN131 rfl s131_10)
        clear hbsA hdpA
        refine op_move (ev_base hNA rfl qA_10) ?_
        exact obR_end rfl rfl (grown_refl _ _)
       ·
        intro aA wA cA hNA hRA hckA hOA hbsA hdpA
        have qA_0 := (hbsA 0 rfl).trans (sl_base hN131 rfl s131_0)
        clear hbsA hdpA
        refine op_move (ev_base hNA rfl qA_0) ?_
        exact obR_end rfl rfl (grown_refl _ _)
       ·
        intro aA wA cA hNA hRA hckA hOA hbsA hdpA
        have qA_10 := (hbsA 10 rfl).trans (sl_base hN131 rfl s131_10)
        clear hbsA hdpA
        refine op_move (ev_base hNA rfl qA_10) ?_
        exact obR_end rfl rfl (grown_refl _ _)
       ·
        intro aA wA cA hNA hRA hckA hOA hbsA hdpA
        have qA_69 : Sl aA 69 v := hdpA 4 _ 69 (by kernel_rfl) rfl rfl
        have qA_70 : Sl aA 70 (Value.int .i64 ((j2 : Nat) : Int)) := hdpA 5 _ 70 (by kernel_rfl) rfl rfl
        clear hbsA hdpA
        refine op_index_own (i := j2) slt22 (ev_base hNA rfl qA_69) hOA (ev_base hNA rfl qA_70) (by omega) (by omega) ?_
        intro b_ o_ _ hA_
        exact obR_end rfl ⟨b_, o_, rfl, by simpa using hA_⟩ (grown_refl _ _)
       ·
        intro aA wA cA hNA hRA hckA hOA hbsA hdpA
        obtain ⟨bA_71, oA_71, qA_71, hAA_71⟩ := hdpA 6 _ 71 (by kernel_rfl) rfl rfl
        clear hbsA hdpA
        obtain rfl : cA = 0 := Nat.le_zero.1 (hckA 0 13 rfl (by kernel_rfl))
        have hOA : Own wA base 35 1 v n (dk.toList.map u16v) := hOA
        refine op_load1 (v := (Value.int .u16 (dk[j2]!.toNat : Int))) one35 (ev_base hNA rfl qA_71) (by have := hOA.cellAt hAA_71 0 _ (el_at (i := j2) (by first | omega | (simp only [Array.size_setIfInBounds, swp_sz, siftDown_size]; omega))); simpa using this) ?_
        exact obR_end rfl rfl (grown_refl _ _)
       ·
        intro aA wA cA hNA hRA hckA hOA hbsA hdpA
        have qA_0 := (hbsA 0 rfl).trans (sl_base hN131 rfl s131_0)
        clear hbsA hdpA
        refine op_move (ev_base hNA rfl qA_0) ?_
        exact obR_end rfl rfl (grown_refl _ _)
       ·
        intro aA wA cA hNA hRA hckA hOA hbsA hdpA
        have qA_9 := (hbsA 9 rfl).trans (sl_base hN131 rfl s131_9)
        clear hbsA hdpA
        refine op_move (ev_base hNA rfl qA_9) ?_
        exact obR_end rfl rfl (grown_refl _ _)
       ·
        intro aA wA cA hNA hRA hckA hOA hbsA hdpA
        have qA_73 : Sl aA 73 v := hdpA 8 _ 73 (by kernel_rfl) rfl rfl
        have qA_74 : Sl aA 74 (Value.int .i64 ((i2 : Nat) : Int)) := hdpA 9 _ 74 (by kernel_rfl) rfl rfl
        clear hbsA hdpA
        refine op_index_own (i := i2) slt22 (ev_base hNA rfl qA_73) hOA (ev_base hNA rfl qA_74) (by omega) (by omega) ?_
        intro b_ o_ _ hA_
        exact obR_end rfl ⟨b_, o_, rfl, by simpa using hA_⟩ (grown_refl _ _)
       ·
        intro aA wA cA hNA hRA hckA hOA hbsA hdpA
        obtain ⟨bA_75, oA_75, qA_75, hAA_75⟩ := hdpA 10 _ 75 (by kernel_rfl) rfl rfl
        clear hbsA hdpA
        obtain rfl : cA = 0 := Nat.le_zero.1 (hckA 0 13 rfl (by kernel_rfl))
        have hOA : Own wA base 35 1 v n (dk.toList.map u16v) := hOA
        refine op_load1 (v := (Value.int .u16 (dk[i2]!.toNat : Int))) one35 (ev_base hNA rfl qA_75) (by have := hOA.cellAt hAA_75 0 _ (el_at (i := i2) (by first | omega | (simp only [Array.size_setIfInBounds, swp_sz, siftDown_size]; omega))); simpa using this) ?_
        exact obR_end rfl rfl (grown_refl _ _)
       ·
        intro aA wA cA hNA hRA hckA hOA hbsA hdpA
        have qA_65 : Sl aA 65 v := hdpA 0 _ 65 (by kernel_rfl) rfl rfl
        have qA_66 : Sl aA 66 (Value.int .i64 ((i2 : Nat) : Int)) := hdpA 1 _ 66 (by kernel_rfl) rfl rfl
        clear hbsA hdpA
        refine op_index_own (i := i2) slt22 (ev_base hNA rfl qA_65) hOA (ev_base hNA rfl qA_66) (by omega) (by omega) ?_
        intro b_ o_ _ hA_
        exact obR_end rfl ⟨b_, o_, rfl, by simpa using hA_⟩ (grown_refl _ _)
       ·
        intro aA wA cA hNA hRA hckA hOA hbsA hdpA
        have qA_67 : Sl aA 67 v := hdpA 2 _ 67 (by kernel_rfl) rfl rfl
        have qA_68 : Sl aA 68 (Value.int .i64 ((j2 : Nat) : Int)) := hdpA 3 _ 68 (by kernel_rfl) rfl rfl
        clear hbsA hdpA
        refine op_index_own (i := j2) slt22 (ev_base hNA rfl qA_67) hOA (ev_base hNA rfl qA_68) (by omega) (by omega) ?_
        intro b_ o_ _ hA_
        exact obR_end rfl ⟨b_, o_, rfl, by simpa using hA_⟩ (grown_refl _ _)
       ·
        intro o_ ho_; obtain rfl := Option.some.inj ho_; intro aA wA hNA hRA hbsA hdpA hOA
        obtain ⟨bA_77, oA_77, qA_77, hAA_77⟩ := hdpA 12 _ 77 (by kernel_rfl) rfl rfl
        have qA_72 : Sl aA 72 (Value.int .u16 (dk[j2]!.toNat : Int)) := hdpA 7 _ 72 (by kernel_rfl) rfl rfl
        clear hbsA hdpA
        have hOA : Own wA base 35 1 v n (dk.toList.map u16v) := hOA
        refine op_store_own (vs := [(Value.int .u16 (dk[j2]!.toNat : Int))]) size35 (ev_base hNA rfl qA_77) (ev_base hNA rfl qA_72) rfl rfl rfl hOA hAA_77 (by have := hOA.1; simp at this ⊢; omega) ?_
        intro w_ hO_ E_
        exact obW_end rfl (hO_.cast rfl (set_arr (by first | omega | (simp only [Array.size_setIfInBounds, swp_sz, siftDown_size]; omega)))) E_
       ·
        intro o_ ho_; obtain rfl := Option.some.inj ho_; intro aA wA hNA hRA hbsA hdpA hOA
        obtain ⟨bA_78, oA_78, qA_78, hAA_78⟩ := hdpA 14 _ 78 (by kernel_rfl) rfl rfl
        have qA_76 : Sl aA 76 (Value.int .u16 (dk[i2]!.toNat : Int)) := hdpA 11 _ 76 (by kernel_rfl) rfl rfl
        clear hbsA hdpA
        have hOA : Own wA base 35 1 v n ((dk.setIfInBounds i2 dk[j2]!).toList.map u16v) := hOA
        refine op_store_own (vs := [(Value.int .u16 (dk[i2]!.toNat : Int))]) size35 (ev_base hNA rfl qA_78) (ev_base hNA rfl qA_76) rfl rfl rfl hOA hAA_78 (by have := hOA.1; simp at this ⊢; omega) ?_
        intro w_ hO_ E_
        exact obW_end rfl (hO_.cast rfl (set_arr (by first | omega | (simp only [Array.size_setIfInBounds, swp_sz, siftDown_size]; omega)))) E_
       ·
        intro a146 w146 hN146 hd146 hbs146 hph146 hO146 E146
        have hd146 := hd146.trans hd131
        have s146_0 := (hbs146 0 rfl).trans (sl_base hN131 rfl s131_0)
        have s146_1 := (hbs146 1 rfl).trans (sl_base hN131 rfl s131_1)
        have s146_8 := (hbs146 8 rfl).trans (sl_base hN131 rfl s131_8)
        have s146_9 := (hbs146 9 rfl).trans (sl_base hN131 rfl s131_9)
        have s146_10 := (hbs146 10 rfl).trans (sl_base hN131 rfl s131_10)
        clear hbs146 hph146
        have hO146 : Own w146 base 35 1 v n (((dk.setIfInBounds i2 dk[j2]!).setIfInBounds j2 dk[i2]!).toList.map u16v) := hO146
        have z_w146 := E146.size
        have hb := grow_stepX hb E146 rfl
        refine hK145 _ _ ?_
        refine seq_any fun K147 hK147 => ?_
        refine one_reg ?_
        refine op_move (ev_base hN146 rfl s146_9) ?_
        refine op_add (ev_hit hN146 rfl) rfl (add64 (by omega)) ?_
        refine op_assign (ev_hit hN146 rfl) ?_
        refine reg_nil ?_
        refine hK147 _ _ ?_
        refine one_reg ?_
        refine op_move (ev_base hN146 rfl s146_10) ?_
        refine op_sub (ev_hit hN146 rfl) rfl (sub64 (by omega)) ?_
        refine op_assign (ev_hit hN146 rfl) ?_
        refine reg_nil ?_
        refine blk_normal ?_
        -- round 31T 43F 48T 59F 64F
        have hv2 : scanDown (fun x => ltT dk[a]! x) dk i2 jj = j2 := hv1.trans (scanDown_stop (.inr c59))
        have hne : i2 ≠ j2 := by first | omega | (intro hh; subst hh; rw [c59] at c43; simp at c43)
        exact loop_next _ hN146 hd146 ⟨(i2 + 1), (j2 - 1), _, rfl, (sl_base hN146 rfl s146_0), (sl_base hN146 rfl s146_1), (sl_base hN146 rfl s146_8), (sl_hit hN146 rfl).trans (congrArg (Value.int .i64) (by omega)), (sl_hit hN146 rfl).trans (congrArg (Value.int .i64) (by omega)), (by first | assumption | (simp only [Array.size_setIfInBounds, swp_sz, siftDown_size]; assumption)), (by omega), (hs.trans (pe_go hu2 hv2 (by omega))), hb, (by omega), hO146⟩ (by omega)
    · -- 48F
     refine st_step rfl (fun _ h9 => op_cmp (b := false) (ev_hit hN131 rfl) (ev_hit hN131 rfl) (b_leq (decide_eq_false g48)) h9) ?_
     refine st_step rfl (fun _ h9 => op_move (ev_hit hN131 rfl) h9) ?_
     refine st_g_false (j := 3) (dj := 49) (b := true) rfl rfl rfl (ev_hit hN131 rfl) rfl rfl ?_
     refine st_g_false (j := 3) (dj := 49) (b := true) rfl rfl rfl (ev_hit hN131 rfl) rfl rfl ?_
     refine st_g_false (j := 3) (dj := 49) (b := true) rfl rfl rfl (ev_hit hN131 rfl) rfl rfl ?_
     refine st_g_false (j := 3) (dj := 49) (b := true) rfl rfl rfl (ev_hit hN131 rfl) rfl rfl ?_
     refine st_g_false (j := 3) (dj := 49) (b := true) rfl rfl rfl (ev_hit hN131 rfl) rfl rfl ?_
     refine st_g_false (j := 3) (dj := 49) (b := true) rfl rfl rfl (ev_hit hN131 rfl) rfl rfl ?_
     refine st_g_false (j := 3) (dj := 49) (b := true) rfl rfl rfl (ev_hit hN131 rfl) rfl rfl ?_
     refine st_g_false (j := 3) (dj := 49) (b := true) rfl rfl rfl (ev_hit hN131 rfl) rfl rfl ?_
     refine st_g_false (j := 3) (dj := 49) (b := true) rfl rfl rfl (ev_hit hN131 rfl) rfl rfl ?_
     refine st_step rfl (fun _ h9 => op_pick_f (ev_hit hN131 rfl) rfl h9) ?_
     refine st_nil ?_
     refine hK133 _ _ ?_
     refine wp_cond_false (ev_hit hN131 rfl) ?_
     refine wp_exit (then_exit (then_exit (blk_hit ?_)))
     refine hK130 _ _ ?_
     refine seq_any fun K148 hK148 => ?_
     refine seq_any fun K149 hK149 => ?_
     refine one_reg ?_
     refine op_move (ev_base hN131 rfl s131_9) ?_
     refine op_move (ev_base hN131 rfl s131_10) ?_
     refine op_gtr (ev_hit hN131 rfl) (ev_hit hN131 rfl) (fun c64 => ?_) (fun c64 => ?_)
     · -- 64T
      refine reg_nil ?_
      refine hK149 _ _ ?_
      refine wp_cond_true (ev_hit hN131 rfl) ?_
      refine wp_exit (then_exit (blk_miss (by decide) (then_exit (blk_hit ?_))))
      refine hK115 _ _ ?_
      refine seq_any fun K150 hK150 => ?_
      refine one_reg ?_
      refine op_move (ev_base hN131 rfl s131_9) ?_
      refine op_assign (ev_hit hN131 rfl) ?_
      refine reg_nil ?_
      refine hK150 _ _ ?_
      refine wp_ret ?_
      refine ret1 rfl hd131 (ev_hit hN131 rfl) ⟨_, rfl, ?_⟩
      -- path 31T 43F 48F 64T
      have hv2 : scanDown (fun x => ltT dk[a]! x) dk i2 jj = j2 := hv1.trans (scanDown_stop (.inl (by omega)))
      have hq : partitionEqual ltT d a b pv = (i2, dk) := hs.trans (pe_stop hu2 hv2 (by omega))
      exact ⟨hb, by first | (rw [hq]; done) | (rw [hq]; rfl), hO117.cast rfl (by rw [hq])⟩
     · -- 64F
      refine reg_nil ?_
      refine hK149 _ _ ?_
      refine wp_cond_false (ev_hit hN131 rfl) ?_
      refine wp_skip ?_
      refine hK148 _ _ ?_
      refine seq_any fun K151 hK151 => ?_
      refine reg_mid (e := 35) (sz := 1) (base := base) (n := n) (v := v) (Φ := phiL [(fun uz _ => uz = v), (fun uz _ => uz = (Value.int .i64 ((i2 : Nat) : Int))), (fun uz _ => uz = v), (fun uz _ => uz = (Value.int .i64 ((j2 : Nat) : Int))), (fun uz _ => uz = v), (fun uz _ => uz = (Value.int .i64 ((j2 : Nat) : Int))), (fun uz _ => ∃ bz oz, uz = ptr bz oz ∧ AtV v j2 bz oz), (fun uz _ => uz = (Value.int .u16 (dk[j2]!.toNat : Int))), (fun uz _ => uz = v), (fun uz _ => uz = (Value.int .i64 ((i2 : Nat) : Int))), (fun uz _ => ∃ bz oz, uz = ptr bz oz ∧ AtV v i2 bz oz), (fun uz _ => uz = (Value.int .u16 (dk[i2]!.toNat : Int))), (fun uz _ => ∃ bz oz, uz = ptr bz oz ∧ AtV v i2 bz oz), (fun _ _ => True), (fun uz _ => ∃ bz oz, uz = ptr bz oz ∧ AtV v j2 bz oz), (fun _ _ => True)]) [13, 15] [(dk.toList.map u16v), ((dk.setIfInBounds i2 dk[j2]!).toList.map u16v), (((dk.setIfInBounds i2 dk[j2]!).setIfInBounds j2 dk[i2]!).toList.map u16v)] mixed (by kernel_rfl) (by kernel_rfl) (by kernel_rfl) (by kernel_rfl) hN131 hO117 (StL.get (StL.eq (StL.eq (StL.eq (StL.eq (StL.eq (StL.eq (StL.at (StL.eq (StL.eq (StL.eq (StL.at (StL.eq (StL.at (StL.cons (fun _ _ _ _ h => h) (StL.at (StL.cons (fun _ _ _ _ h => h) (StL.nil _)))))))))))))))))) (ObRs.get (ObRs.cons ?_ (ObRs.cons ?_ (ObRs.cons ?_ (ObRs.cons ?_ (ObRs.cons ?_ (ObRs.cons ?_ (ObRs.cons ?_ (ObRs.cons ?_ (ObRs.cons ?_ (ObRs.cons ?_ (ObRs.cons ?_ (ObRs.cons ?_ (ObRs.cons ?_ (ObRs.pass rfl (ObRs.cons ?_ (ObRs.pass rfl (ObRs.nil)))))))))))))))))) (ObWs.get (ObWs.cons ?_ (ObWs.cons ?_ (ObWs.nil)))) ?_
      ·
       intro aA wA cA hNA hRA hckA hOA hbsA hdpA
       have qA_0 := (hbsA 0 rfl).trans (sl_base hN131 rfl s131_0)
       clear hbsA hdpA
       refine op_move (ev_base hNA rfl qA_0) ?_
       exact obR_end rfl rfl (grown_refl _ _)
      ·
       intro aA wA cA hNA hRA hckA hOA hbsA hdpA
       have qA_9 := (hbsA 9 rfl).trans (sl_base hN131 rfl s131_9)
       clear hbsA hdpA
       refine op_move (ev_base hNA rfl qA_9) ?_
       exact obR_end rfl rfl (grown_refl _ _)
      ·
       intro aA wA cA hNA hRA hckA hOA hbsA hdpA
       have qA_0 := (hbsA 0 rfl).trans (sl_base hN131 rfl s131_0)
       clear hbsA hdpA
       refine op_move (ev_base hNA rfl qA_0) ?_
       exact obR_end rfl rfl (grown_refl _ _)
      ·
       intro aA wA cA hNA hRA hckA hOA hbsA hdpA
       have qA_10 := (hbsA 10 rfl).trans (sl_base hN131 rfl s131_10)
       clear hbsA hdpA
       refine op_move (ev_base hNA rfl qA_10) ?_
       exact obR_end rfl rfl (grown_refl _ _)
      ·
       intro aA wA cA hNA hRA hckA hOA hbsA hdpA
       have qA_0 := (hbsA 0 rfl).trans (sl_base hN131 rfl s131_0)
       clear hbsA hdpA
       refine op_move (ev_base hNA rfl qA_0) ?_
       exact obR_end rfl rfl (grown_refl _ _)
      ·
       intro aA wA cA hNA hRA hckA hOA hbsA hdpA
       have qA_10 := (hbsA 10 rfl).trans (sl_base hN131 rfl s131_10)
       clear hbsA hdpA
       refine op_move (ev_base hNA rfl qA_10) ?_
       exact obR_end rfl rfl (grown_refl _ _)
      ·
       intro aA wA cA hNA hRA hckA hOA hbsA hdpA
       have qA_69 : Sl aA 69 v := hdpA 4 _ 69 (by kernel_rfl) rfl rfl
       have qA_70 : Sl aA 70 (Value.int .i64 ((j2 : Nat) : Int)) := hdpA 5 _ 70 (by kernel_rfl) rfl rfl
       clear hbsA hdpA
       refine op_index_own (i := j2) slt22 (ev_base hNA rfl qA_69) hOA (ev_base hNA rfl qA_70) (by omega) (by omega) ?_
       intro b_ o_ _ hA_
       exact obR_end rfl ⟨b_, o_, rfl, by simpa using hA_⟩ (grown_refl _ _)
      ·
       intro aA wA cA hNA hRA hckA hOA hbsA hdpA
       obtain ⟨bA_71, oA_71, qA_71, hAA_71⟩ := hdpA 6 _ 71 (by kernel_rfl) rfl rfl
       clear hbsA hdpA
       obtain rfl : cA = 0 := Nat.le_zero.1 (hckA 0 13 rfl (by kernel_rfl))
       have hOA : Own wA base 35 1 v n (dk.toList.map u16v) := hOA
       refine op_load1 (v := (Value.int .u16 (dk[j2]!.toNat : Int))) one35 (ev_base hNA rfl qA_71) (by have := hOA.cellAt hAA_71 0 _ (el_at (i := j2) (by first | omega | (simp only [Array.size_setIfInBounds, swp_sz, siftDown_size]; omega))); simpa using this) ?_
       exact obR_end rfl rfl (grown_refl _ _)
      ·
       intro aA wA cA hNA hRA hckA hOA hbsA hdpA
       have qA_0 := (hbsA 0 rfl).trans (sl_base hN131 rfl s131_0)
       clear hbsA hdpA
       refine op_move (ev_base hNA rfl qA_0) ?_
       exact obR_end rfl rfl (grown_refl _ _)
      ·
       intro aA wA cA hNA hRA hckA hOA hbsA hdpA
       have qA_9 := (hbsA 9 rfl).trans (sl_base hN131 rfl s131_9)
       clear hbsA hdpA
       refine op_move (ev_base hNA rfl qA_9) ?_
       exact obR_end rfl rfl (grown_refl _ _)
      ·
       intro aA wA cA hNA hRA hckA hOA hbsA hdpA
       have qA_73 : Sl aA 73 v := hdpA 8 _ 73 (by kernel_rfl) rfl rfl
       have qA_74 : Sl aA 74 (Value.int .i64 ((i2 : Nat) : Int)) := hdpA 9 _ 74 (by kernel_rfl) rfl rfl
       clear hbsA hdpA
       refine op_index_own (i := i2) slt22 (ev_base hNA rfl qA_73) hOA (ev_base hNA rfl qA_74) (by omega) (by omega) ?_
       intro b_ o_ _ hA_
       exact obR_end rfl ⟨b_, o_, rfl, by simpa using hA_⟩ (grown_refl _ _)
      ·
       intro aA wA cA hNA hRA hckA hOA hbsA hdpA
       obtain ⟨bA_75, oA_75, qA_75, hAA_75⟩ := hdpA 10 _ 75 (by kernel_rfl) rfl rfl
       clear hbsA hdpA
       obtain rfl : cA = 0 := Nat.le_zero.1 (hckA 0 13 rfl (by kernel_rfl))
       have hOA : Own wA base 35 1 v n (dk.toList.map u16v) := hOA
       refine op_load1 (v := (Value.int .u16 (dk[i2]!.toNat : Int))) one35 (ev_base hNA rfl qA_75) (by have := hOA.cellAt hAA_75 0 _ (el_at (i := i2) (by first | omega | (simp only [Array.size_setIfInBounds, swp_sz, siftDown_size]; omega))); simpa using this) ?_
       exact obR_end rfl rfl (grown_refl _ _)
      ·
       intro aA wA cA hNA hRA hckA hOA hbsA hdpA
       have qA_65 : Sl aA 65 v := hdpA 0 _ 65 (by kernel_rfl) rfl rfl
       have qA_66 : Sl aA 66 (Value.int .i64 ((i2 : Nat) : Int)) := hdpA 1 _ 66 (by kernel_rfl) rfl rfl
       clear hbsA hdpA
       refine op_index_own (i := i2) slt22 (ev_base hNA rfl qA_65) hOA (ev_base hNA rfl qA_66) (by omega) (by omega) ?_
       intro b_ o_ _ hA_
       exact obR_end rfl ⟨b_, o_, rfl, by simpa using hA_⟩ (grown_refl _ _)
      ·
       intro aA wA cA hNA hRA hckA hOA hbsA hdpA
       have qA_67 : Sl aA 67 v := hdpA 2 _ 67 (by kernel_rfl) rfl rfl
       have qA_68 : Sl aA 68 (Value.int .i64 ((j2 : Nat) : Int)) := hdpA 3 _ 68 (by kernel_rfl) rfl rfl
       clear hbsA hdpA
       refine op_index_own (i := j2) slt22 (ev_base hNA rfl qA_67) hOA (ev_base hNA rfl qA_68) (by omega) (by omega) ?_
       intro b_ o_ _ hA_
       exact obR_end rfl ⟨b_, o_, rfl, by simpa using hA_⟩ (grown_refl _ _)
      ·
       intro o_ ho_; obtain rfl := Option.some.inj ho_; intro aA wA hNA hRA hbsA hdpA hOA
       obtain ⟨bA_77, oA_77, qA_77, hAA_77⟩ := hdpA 12 _ 77 (by kernel_rfl) rfl rfl
       have qA_72 : Sl aA 72 (Value.int .u16 (dk[j2]!.toNat : Int)) := hdpA 7 _ 72 (by kernel_rfl) rfl rfl
       clear hbsA hdpA
       have hOA : Own wA base 35 1 v n (dk.toList.map u16v) := hOA
       refine op_store_own (vs := [(Value.int .u16 (dk[j2]!.toNat : Int))]) size35 (ev_base hNA rfl qA_77) (ev_base hNA rfl qA_72) rfl rfl rfl hOA hAA_77 (by have := hOA.1; simp at this ⊢; omega) ?_
       intro w_ hO_ E_
       exact obW_end rfl (hO_.cast rfl (set_arr (by first | omega | (simp only [Array.size_setIfInBounds, swp_sz, siftDown_size]; omega)))) E_
      ·
       intro o_ ho_; obtain rfl := Option.some.inj ho_; intro aA wA hNA hRA hbsA hdpA hOA
       obtain ⟨bA_78, oA_78, qA_78, hAA_78⟩ := hdpA 14 _ 78 (by kernel_rfl) rfl rfl
       have qA_76 : Sl aA 76 (Value.int .u16 (dk[i2]!.toNat : Int)) := hdpA 11 _ 76 (by kernel_rfl) rfl rfl
       clear hbsA hdpA
       have hOA : Own wA base 35 1 v n ((dk.setIfInBounds i2 dk[j2]!).toList.map u16v) := hOA
       refine op_store_own (vs := [(Value.int .u16 (dk[i2]!.toNat : Int))]) size35 (ev_base hNA rfl qA_78) (ev_base hNA rfl qA_76) rfl rfl rfl hOA hAA_78 (by have := hOA.1; simp at this ⊢; omega) ?_
       intro w_ hO_ E_
       exact obW_end rfl (hO_.cast rfl (set_arr (by first | omega | (simp only [Array.size_setIfInBounds, swp_sz, siftDown_size]; omega)))) E_
      ·
       intro a152 w152 hN152 hd152 hbs152 hph152 hO152 E152
       have hd152 := hd152.trans hd131
       have s152_0 := (hbs152 0 rfl).trans (sl_base hN131 rfl s131_0)
       have s152_1 := (hbs152 1 rfl).trans (sl_base hN131 rfl s131_1)
       have s152_8 := (hbs152 8 rfl).trans (sl_base hN131 rfl s131_8)
       have s152_9 := (hbs152 9 rfl).trans (sl_base hN131 rfl s131_9)
       have s152_10 := (hbs152 10 rfl).trans (sl_base hN131 rfl s131_10)
       clear hbs152 hph152
       have hO152 : Own w152 base 35 1 v n (((dk.setIfInBounds i2 dk[j2]!).setIfInBounds j2 dk[i2]!).toList.map u16v) := hO152
       have z_w152 := E152.size
       have hb := grow_stepX hb E152 rfl
       refine hK151 _ _ ?_
       refine seq_any fun K153 hK153 => ?_
       refine one_reg ?_
       refine op_move (ev_base hN152 rfl s152_9) ?_
       refine op_add (ev_hit hN152 rfl) rfl (add64 (by omega)) ?_
       refine op_assign (ev_hit hN152 rfl) ?_
       refine reg_nil ?_
       refine hK153 _ _ ?_
       refine one_reg ?_
       refine op_move (ev_base hN152 rfl s152_10) ?_
       refine op_sub (ev_hit hN152 rfl) rfl (sub64 (by omega)) ?_
       refine op_assign (ev_hit hN152 rfl) ?_
       refine reg_nil ?_
       refine blk_normal ?_
       -- round 31T 43F 48F 64F
       have hv2 : scanDown (fun x => ltT dk[a]! x) dk i2 jj = j2 := hv1.trans (scanDown_stop (.inl (by omega)))
       have hne : i2 ≠ j2 := by first | omega | (intro hh; subst hh; rw [c59] at c43; simp at c43)
       exact loop_next _ hN152 hd152 ⟨(i2 + 1), (j2 - 1), _, rfl, (sl_base hN152 rfl s152_0), (sl_base hN152 rfl s152_1), (sl_base hN152 rfl s152_8), (sl_hit hN152 rfl).trans (congrArg (Value.int .i64) (by omega)), (sl_hit hN152 rfl).trans (congrArg (Value.int .i64) (by omega)), (by first | assumption | (simp only [Array.size_setIfInBounds, swp_sz, siftDown_size]; assumption)), (by omega), (hs.trans (pe_go hu2 hv2 (by omega))), hb, (by omega), hO152⟩ (by omega)
  · -- 31F
   refine st_step rfl (fun _ h9 => op_cmp (b := false) (ev_hit hN119 rfl) (ev_hit hN119 rfl) (b_leq (decide_eq_false g31)) h9) ?_
   refine st_step rfl (fun _ h9 => op_move (ev_hit hN119 rfl) h9) ?_
   refine st_g_false (j := 3) (dj := 32) (b := true) rfl rfl rfl (ev_hit hN119 rfl) rfl rfl ?_
   refine st_g_false (j := 3) (dj := 32) (b := true) rfl rfl rfl (ev_hit hN119 rfl) rfl rfl ?_
   refine st_g_false (j := 3) (dj := 32) (b := true) rfl rfl rfl (ev_hit hN119 rfl) rfl rfl ?_
   refine st_g_false (j := 3) (dj := 32) (b := true) rfl rfl rfl (ev_hit hN119 rfl) rfl rfl ?_
   refine st_g_false (j := 3) (dj := 32) (b := true) rfl rfl rfl (ev_hit hN119 rfl) rfl rfl ?_
   refine st_g_false (j := 3) (dj := 32) (b := true) rfl rfl rfl (ev_hit hN119 rfl) rfl rfl ?_
   refine st_g_false (j := 3) (dj := 32) (b := true) rfl rfl rfl (ev_hit hN119 rfl) rfl rfl ?_
   refine st_g_false (j := 3) (dj := 32) (b := true) rfl rfl rfl (ev_hit hN119 rfl) rfl rfl ?_
   refine st_g_false (j := 3) (dj := 32) (b := true) rfl rfl rfl (ev_hit hN119 rfl) rfl rfl ?_
   refine st_g_false (j := 3) (dj := 32) (b := true) rfl rfl rfl (ev_hit hN119 rfl) rfl rfl ?_
   refine st_step rfl (fun _ h9 => op_pick_f (ev_hit hN119 rfl) rfl h9) ?_
   refine st_nil ?_
   refine hK121 _ _ ?_
   refine wp_cond_false (ev_hit hN119 rfl) ?_
   refine wp_exit (then_exit (then_exit (blk_hit ?_)))
   refine hK118 _ _ ?_
   refine seq_any fun K154 hK154 => ?_
   refine wp_block ?_
   have hu2 : scanUp (fun x => !ltT dk[a]! x) dk jj ii = i2 := hu1.trans (scanUp_stop (.inl (by omega)))
   refine loop_m (fun mz_ az_ w' => ∃ (j2 : Nat), mz_ = (j2 + 1) ∧ (az_.tmps.getD 0 undef = v) ∧ (az_.tmps.getD 1 undef = (Value.int .i64 ((a : Nat) : Int))) ∧ (az_.tmps.getD 8 undef = (Value.int .i64 0)) ∧ (az_.tmps.getD 9 undef = (Value.int .i64 ((i2 : Nat) : Int))) ∧ (az_.tmps.getD 10 undef = (Value.int .i64 ((j2 : Nat) : Int))) ∧ (j2 ≤ jj ∧ i2 ≤ j2 + 1) ∧ (scanDown (fun x => ltT dk[a]! x) dk i2 jj = scanDown (fun x => ltT dk[a]! x) dk i2 j2) ∧ (w.grownBy w' v.ownBlock) ∧ (w123.heap.size ≤ w'.heap.size) ∧ (Own w' base 35 1 v n (dk.toList.map u16v))) _ hN119 hd119 ⟨jj, rfl, (sl_base hN119 rfl s119_0), (sl_base hN119 rfl s119_1), (sl_base hN119 rfl s119_8), (sl_base hN119 rfl s119_9), (sl_base hN119 rfl s119_10).trans (congrArg (Value.int .i64) (by omega)), (by omega), rfl, hb, (Nat.le_refl _), hO117⟩ ?_
   rintro _ a155 w155 hN155 hd155 ⟨j2, rfl, s155_0, s155_1, s155_8, s155_9, s155_10, hr3, hv1, hb, zl_w155, hO117⟩
   have z_w155 := hb.size
   refine seq_any fun K156 hK156 => ?_
   refine seq_any fun K157 hK157 => ?_
   refine reg_still mixed (by kernel_rfl) ?_
   intro w159 E158
   have z_w159 := E158.size
   have hO117 := hO117.keep0 E158
   have hb := grow_step0 hb E158
   refine st_step rfl (fun _ h9 => op_move (ev_base hN155 rfl s155_9) h9) ?_
   refine st_step rfl (fun _ h9 => op_move (ev_base hN155 rfl s155_10) h9) ?_
   by_cases g48 : ((i2 : Nat) : Int) ≤ ((j2 : Nat) : Int)
   · -- 48T
    refine st_step rfl (fun _ h9 => op_cmp (b := true) (ev_hit hN155 rfl) (ev_hit hN155 rfl) (b_leq (decide_eq_true g48)) h9) ?_
    refine st_step rfl (fun _ h9 => op_move (ev_hit hN155 rfl) h9) ?_
    refine st_g_true (j := 3) (dj := 49) (b := true) rfl rfl rfl (ev_hit hN155 rfl) ?_
    refine st_step rfl (fun _ h9 => op_move (ev_base hN155 rfl s155_0) h9) ?_
    refine st_g_true (j := 3) (dj := 49) (b := true) rfl rfl rfl (ev_hit hN155 rfl) ?_
    refine st_step rfl (fun _ h9 => op_move (ev_base hN155 rfl s155_1) h9) ?_
    refine st_g_true (j := 3) (dj := 49) (b := true) rfl rfl rfl (ev_hit hN155 rfl) ?_
    refine st_index_rd slt22 (ev_hit hN155 rfl) hO117.rdw (ev_hit hN155 rfl) (by omega) (by omega) ?_
    intro b160 o161 h0b160 h1b160 hc162
    refine st_g_true (j := 3) (dj := 49) (b := true) rfl rfl rfl (ev_hit hN155 rfl) ?_
    refine st_step rfl (fun _ h9 => op_load1 (v := (Value.int .u16 (dk[a]!.toNat : Int))) one35 (ev_hit hN155 rfl) (by have := hc162 0 (Value.int .u16 (dk[a]!.toNat : Int)) (by decide) (el_arr (i := a) (by omega) (by first | omega | (simp only [Array.size_setIfInBounds, swp_sz, siftDown_size]; omega))); simpa using this) h9) ?_
    refine st_g_true (j := 3) (dj := 49) (b := true) rfl rfl rfl (ev_hit hN155 rfl) ?_
    refine st_step rfl (fun _ h9 => op_move (ev_base hN155 rfl s155_0) h9) ?_
    refine st_g_true (j := 3) (dj := 49) (b := true) rfl rfl rfl (ev_hit hN155 rfl) ?_
    refine st_step rfl (fun _ h9 => op_move (ev_base hN155 rfl s155_10) h9) ?_
    refine st_g_true (j := 3) (dj := 49) (b := true) rfl rfl rfl (ev_hit hN155 rfl) ?_
    refine st_index_rd slt22 (ev_hit hN155 rfl) hO117.rdw (ev_hit hN155 rfl) (by omega) (by omega) ?_
    intro b163 o164 h0b163 h1b163 hc165
    refine st_g_true (j := 3) (dj := 49) (b := true) rfl rfl rfl (ev_hit hN155 rfl) ?_
    refine st_step rfl (fun _ h9 => op_load1 (v := (Value.int .u16 (dk[j2]!.toNat : Int))) one35 (ev_hit hN155 rfl) (by have := hc165 0 (Value.int .u16 (dk[j2]!.toNat : Int)) (by decide) (el_arr (i := j2) (by omega) (by first | omega | (simp only [Array.size_setIfInBounds, swp_sz, siftDown_size]; omega))); simpa using this) h9) ?_
    refine st_g_true (j := 3) (dj := 49) (b := true) rfl rfl rfl (ev_hit hN155 rfl) ?_
    refine st_fn (vs := [(Value.int .u16 (dk[a]!.toNat : Int)), (Value.int .u16 (dk[j2]!.toNat : Int))]) ok72 (⟨(ev_hit hN155 rfl), ⟨(ev_hit hN155 rfl), trivial⟩⟩) (Less16_ret dk[a]! dk[j2]! _) ?_
    refine st_step rfl (fun _ h9 => op_pick_t (ev_hit hN155 rfl) (ev_hit hN155 rfl) h9) ?_
    refine st_nil ?_
    refine hK157 _ _ ?_
    refine wp_cond_split (ev_hit hN155 rfl) (fun c59 => ?_) (fun c59 => ?_)
    · -- 59T
     refine wp_skip ?_
     refine hK156 _ _ ?_
     refine wp_block ?_
     refine one_reg ?_
     refine op_move (ev_base hN155 rfl s155_10) ?_
     refine op_sub (ev_hit hN155 rfl) rfl (sub64 (by omega)) ?_
     refine op_assign (ev_hit hN155 rfl) ?_
     refine reg_nil ?_
     refine blk_normal ?_
     -- round 31F 48T 59T
     exact loop_next _ hN155 hd155 ⟨(j2 - 1), rfl, (sl_base hN155 rfl s155_0), (sl_base hN155 rfl s155_1), (sl_base hN155 rfl s155_8), (sl_base hN155 rfl s155_9), (sl_hit hN155 rfl).trans (congrArg (Value.int .i64) (by omega)), (by omega), (hv1.trans (scanDown_go (by omega) (by omega) c59)), hb, (by omega), hO117⟩ (by omega)
    · -- 59F
     refine wp_exit (then_exit (then_exit (blk_hit ?_)))
     refine hK154 _ _ ?_
     refine seq_any fun K166 hK166 => ?_
     refine seq_any fun K167 hK167 => ?_
     refine one_reg ?_
     refine op_move (ev_base hN155 rfl s155_9) ?_
     refine op_move (ev_base hN155 rfl s155_10) ?_
     refine op_gtr (ev_hit hN155 rfl) (ev_hit hN155 rfl) (fun c64 => ?_) (fun c64 => ?_)
     · -- 64T
      refine reg_nil ?_
      refine hK167 _ _ ?_
      refine wp_cond_true (ev_hit hN155 rfl) ?_
      refine wp_exit (then_exit (blk_miss (by decide) (then_exit (blk_hit ?_))))
      refine hK115 _ _ ?_
      refine seq_any fun K168 hK168 => ?_
      refine one_reg ?_
      refine op_move (ev_base hN155 rfl s155_9) ?_
      refine op_assign (ev_hit hN155 rfl) ?_
      refine reg_nil ?_
      refine hK168 _ _ ?_
      refine wp_ret ?_
      refine ret1 rfl hd155 (ev_hit hN155 rfl) ⟨_, rfl, ?_⟩
      -- path 31F 48T 59F 64T
      have hv2 : scanDown (fun x => ltT dk[a]! x) dk i2 jj = j2 := hv1.trans (scanDown_stop (.inr c59))
      have hq : partitionEqual ltT d a b pv = (i2, dk) := hs.trans (pe_stop hu2 hv2 (by omega))
      exact ⟨hb, by first | (rw [hq]; done) | (rw [hq]; rfl), hO117.cast rfl (by rw [hq])⟩
     · -- 64F
      refine reg_nil ?_
      refine hK167 _ _ ?_
      refine wp_cond_false (ev_hit hN155 rfl) ?_
      refine wp_skip ?_
      refine hK166 _ _ ?_
      refine seq_any fun K169 hK169 => ?_
      refine reg_mid (e := 35) (sz := 1) (base := base) (n := n) (v := v) (Φ := phiL [(fun uz _ => uz = v), (fun uz _ => uz = (Value.int .i64 ((i2 : Nat) : Int))), (fun uz _ => uz = v), (fun uz _ => uz = (Value.int .i64 ((j2 : Nat) : Int))), (fun uz _ => uz = v), (fun uz _ => uz = (Value.int .i64 ((j2 : Nat) : Int))), (fun uz _ => ∃ bz oz, uz = ptr bz oz ∧ AtV v j2 bz oz), (fun uz _ => uz = (Value.int .u16 (dk[j2]!.toNat : Int))), (fun uz _ => uz = v), (fun uz _ => uz = (Value.int .i64 ((i2 : Nat) : Int))), (fun uz _ => ∃ bz oz, uz = ptr bz oz ∧ AtV v i2 bz oz), (fun uz _ => uz = (Value.int .u16 (dk[i2]!.toNat : Int))), (fun uz _ => ∃ bz oz, uz = ptr bz oz ∧ AtV v i2 bz oz), (fun _ _ => True), (fun uz _ => ∃ bz oz, uz = ptr bz oz ∧ AtV v j2 bz oz), (fun _ _ => True)]) [13, 15] [(dk.toList.map u16v), ((dk.setIfInBounds i2 dk[j2]!).toList.map u16v), (((dk.setIfInBounds i2 dk[j2]!).setIfInBounds j2 dk[i2]!).toList.map u16v)] mixed (by kernel_rfl) (by kernel_rfl) (by kernel_rfl) (by kernel_rfl) hN155 hO117 (StL.get (StL.eq (StL.eq (StL.eq (StL.eq (StL.eq (StL.eq (StL.at (StL.eq (StL.eq (StL.eq (StL.at (StL.eq (StL.at (StL.cons (fun _ _ _ _ h => h) (StL.at (StL.cons (fun _ _ _ _ h => h) (StL.nil _)))))))))))))))))) (ObRs.get (ObRs.cons ?_ (ObRs.cons ?_ (ObRs.cons ?_ (ObRs.cons ?_ (ObRs.cons ?_ (ObRs.cons ?_ (ObRs.cons ?_ (ObRs.cons ?_ (ObRs.cons ?_ (ObRs.cons ?_ (ObRs.cons ?_ (ObRs.cons ?_ (ObRs.cons ?_ (ObRs.pass rfl (ObRs.cons ?_ (ObRs.pass rfl (ObRs.nil)))))))))))))))))) (ObWs.get (ObWs.cons ?_ (ObWs.cons ?_ (ObWs.nil)))) ?_
      ·
       intro aA wA cA hNA hRA hckA hOA hbsA hdpA
       have qA_0 := (hbsA 0 rfl).trans (sl_base hN155 rfl s155_0)
       clear hbsA hdpA
       refine op_move (ev_base hNA rfl qA_0) ?_
       exact obR_end rfl rfl (grown_refl _ _)
      ·
       intro aA wA cA hNA hRA hckA hOA hbsA hdpA
       have qA_9 := (hbsA 9 rfl).trans (sl_base hN155 rfl s155_9)
       clear hbsA hdpA
       refine op_move (ev_base hNA rfl qA_9) ?_
       exact obR_end rfl rfl (grown_refl _ _)
      ·
       intro aA wA cA hNA hRA hckA hOA hbsA hdpA
       have qA_0 := (hbsA 0 rfl).trans (sl_base hN155 rfl s155_0)
       clear hbsA hdpA
       refine op_move (ev_base hNA rfl qA_0) ?_
       exact obR_end rfl rfl (grown_refl _ _)
      ·
       intro aA wA cA hNA hRA hckA hOA hbsA hdpA
       have qA_10 := (hbsA 10 rfl).trans (sl_base hN155 rfl s155_10)
       clear hbsA hdpA
       refine op_move (ev_base hNA rfl qA_10) ?_
       exact obR_end rfl rfl (grown_refl _ _)
      ·
       intro aA wA cA hNA hRA hckA hOA hbsA hdpA
       have qA_0 := (hbsA 0 rfl).trans (sl_base hN155 rfl s155_0)
       clear hbsA hdpA
       refine op_move (ev_base hNA rfl qA_0) ?_
       exact obR_end rfl rfl (grown_refl _ _)
      ·
       intro aA wA cA hNA hRA hckA hOA hbsA hdpA
       have qA_10 := (hbsA 10 rfl).trans (sl_base hN155 rfl s155_10)
       clear hbsA hdpA
       refine op_move (ev_base hNA rfl qA_10) ?_
       exact obR_end rfl rfl (grown_refl _ _)
      ·
       intro aA wA cA hNA hRA hckA hOA hbsA hdpA
       have qA_69 : Sl aA 69 v := hdpA 4 _ 69 (by kernel_rfl) rfl rfl
       have qA_70 : Sl aA 70 (Value.int .i64 ((j2 : Nat) : Int)) := hdpA 5 _ 70 (by kernel_rfl) rfl rfl
       clear hbsA hdpA
       refine op_index_own (i := j2) slt22 (ev_base hNA rfl qA_69) hOA (ev_base hNA rfl qA_70) (by omega) (by omega) ?_
       intro b_ o_ _ hA_
       exact obR_end rfl ⟨b_, o_, rfl, by simpa using hA_⟩ (grown_refl _ _)
      ·
       intro aA wA cA hNA hRA hckA hOA hbsA hdpA
       obtain ⟨bA_71, oA_71, qA_71, hAA_71⟩ := hdpA 6 _ 71 (by kernel_rfl) rfl rfl
       clear hbsA hdpA
       obtain rfl : cA = 0 := Nat.le_zero.1 (hckA 0 13 rfl (by kernel_rfl))
       have hOA : Own wA base 35 1 v n (dk.toList.map u16v) := hOA
       refine op_load1 (v := (Value.int .u16 (dk[j2]!.toNat : Int))) one35 (ev_base hNA rfl qA_71) (by have := hOA.cellAt hAA_71 0 _ (el_at (i := j2) (by first | omega | (simp only [Array.size_setIfInBounds, swp_sz, siftDown_size]; omega))); simpa using this) ?_
       exact obR_end rfl rfl (grown_refl _ _)
      ·
       intro aA wA cA hNA hRA hckA hOA hbsA hdpA
       have qA_0 := (hbsA 0 rfl).trans (sl_base hN155 rfl s155_0)
       clear hbsA hdpA
       refine op_move (ev_base hNA rfl qA_0) ?_
       exact obR_end rfl rfl (grown_refl _ _)
      ·
       intro aA wA cA hNA hRA hckA hOA hbsA hdpA
       have qA_9 := (hbsA 9 rfl).trans (sl_base hN155 rfl s155_9)
       clear hbsA hdpA
       refine op_move (ev_base hNA rfl qA_9) ?_
       exact obR_end rfl rfl (grown_refl _ _)
      ·
       intro aA wA cA hNA hRA hckA hOA hbsA hdpA
       have qA_73 : Sl aA 73 v := hdpA 8 _ 73 (by kernel_rfl) rfl rfl
       have qA_74 : Sl aA 74 (Value.int .i64 ((i2 : Nat) : Int)) := hdpA 9 _ 74 (by kernel_rfl) rfl rfl
       clear hbsA hdpA
       refine op_index_own (i := i2) slt22 (ev_base hNA rfl qA_73) hOA (ev_base hNA rfl qA_74) (by omega) (by omega) ?_
       intro b_ o_ _ hA_
       exact obR_end rfl ⟨b_, o_, rfl, by simpa using hA_⟩ (grown_refl _ _)
      ·
       intro aA wA cA hNA hRA hckA hOA hbsA hdpA
       obtain ⟨bA_75, oA_75, qA_75, hAA_75⟩ := hdpA 10 _ 75 (by kernel_rfl) rfl rfl
       clear hbsA hdpA
       obtain rfl : cA = 0 := Nat.le_zero.1 (hckA 0 13 rfl (by kernel_rfl))
       have hOA : Own wA base 35 1 v n (dk.toList.map u16v) := hOA
       refine op_load1 (v := (Value.int .u16 (dk[i2]!.toNat : Int))) one35 (ev_base hNA rfl qA_75) (by have := hOA.cellAt hAA_75 0 _ (el_at (i := i2) (by first | omega | (simp only [Array.size_setIfInBounds, swp_sz, siftDown_size]; omega))); simpa using this) ?_
       exact obR_end rfl rfl (grown_refl _ _)
      ·
       intro aA wA cA hNA hRA hckA hOA hbsA hdpA
       have qA_65 : Sl aA 65 v := hdpA 0 _ 65 (by kernel_rfl) rfl rfl
       have qA_66 : Sl aA 66 (Value.int .i64 ((i2 : Nat) : Int)) := hdpA 1 _ 66 (by kernel_rfl) rfl rfl
       clear hbsA hdpA
       refine op_index_own (i := i2) slt22 (ev_base hNA rfl qA_65) hOA (ev_base hNA rfl qA_66) (by omega) (by omega) ?_
       intro b_ o_ _ hA_
       exact obR_end rfl ⟨b_, o_, rfl, by simpa using hA_⟩ (grown_refl _ _)
      ·
       intro aA wA cA hNA hRA hckA hOA hbsA hdpA
       have qA_67 : Sl aA 67 v := hdpA 2 _ 67 (by kernel_rfl) rfl rfl
       have qA_68 : Sl aA 68 (Value.int .i64 ((j2 : Nat) : Int)) := hdpA 3 _ 68 (by kernel_rfl) rfl rfl
       clear hbsA hdpA
       refine op_index_own (i := j2) slt22 (ev_base hNA rfl qA_67) hOA (ev_base hNA rfl qA_68) (by omega) (by omega) ?_
       intro b_ o_ _ hA_
       exact obR_end rfl ⟨b_, o_, rfl, by simpa using hA_⟩ (grown_refl _ _)
      ·
       intro o_ ho_; obtain rfl := Option.some.inj ho_; intro aA wA hNA hRA hbsA hdpA hOA
       obtain ⟨bA_77, oA_77, qA_77, hAA_77⟩ := hdpA 12 _ 77 (by kernel_rfl) rfl rfl
       have qA_72 : Sl aA 72 (Value.int .u16 (dk[j2]!.toNat : Int)) := hdpA 7 _ 72 (by kernel_rfl) rfl rfl
       clear hbsA hdpA
       have hOA : Own wA base 35 1 v n (dk.toList.map u16v) := hOA
       refine op_store_own (vs := [(Value.int .u16 (dk[j2]!.toNat : Int))]) size35 (ev_base hNA rfl qA_77) (ev_base hNA rfl qA_72) rfl rfl rfl hOA hAA_77 (by have := hOA.1; simp at this ⊢; omega) ?_
       intro w_ hO_ E_
       exact obW_end rfl (hO_.cast rfl (set_arr (by first | omega | (simp only [Array.size_setIfInBounds, swp_sz, siftDown_size]; omega)))) E_
      ·
       intro o_ ho_; obtain rfl := Option.some.inj ho_; intro aA wA hNA hRA hbsA hdpA hOA
       obtain ⟨bA_78, oA_78, qA_78, hAA_78⟩ := hdpA 14 _ 78 (by kernel_rfl) rfl rfl
       have qA_76 : Sl aA 76 (Value.int .u16 (dk[i2]!.toNat : Int)) := hdpA 11 _ 76 (by kernel_rfl) rfl rfl
       clear hbsA hdpA
       have hOA : Own wA base 35 1 v n ((dk.setIfInBounds i2 dk[j2]!).toList.map u16v) := hOA
       refine op_store_own (vs := [(Value.int .u16 (dk[i2]!.toNat : Int))]) size35 (ev_base hNA rfl qA_78) (ev_base hNA rfl qA_76) rfl rfl rfl hOA hAA_78 (by have := hOA.1; simp at this ⊢; omega) ?_
       intro w_ hO_ E_
       exact obW_end rfl (hO_.cast rfl (set_arr (by first | omega | (simp only [Array.size_setIfInBounds, swp_sz, siftDown_size]; omega)))) E_
      ·
       intro a170 w170 hN170 hd170 hbs170 hph170 hO170 E170
       have hd170 := hd170.trans hd155
       have s170_0 := (hbs170 0 rfl).trans (sl_base hN155 rfl s155_0)
       have s170_1 := (hbs170 1 rfl).trans (sl_base hN155 rfl s155_1)
       have s170_8 := (hbs170 8 rfl).trans (sl_base hN155 rfl s155_8)
       have s170_9 := (hbs170 9 rfl).trans (sl_base hN155 rfl s155_9)
       have s170_10 := (hbs170 10 rfl).trans (sl_base hN155 rfl s155_10)
       clear hbs170 hph170
       have hO170 : Own w170 base 35 1 v n (((dk.setIfInBounds i2 dk[j2]!).setIfInBounds j2 dk[i2]!).toList.map u16v) := hO170
       have z_w170 := E170.size
       have hb := grow_stepX hb E170 rfl
       refine hK169 _ _ ?_
       refine seq_any fun K171 hK171 => ?_
       refine one_reg ?_
       refine op_move (ev_base hN170 rfl s170_9) ?_
       refine op_add (ev_hit hN170 rfl) rfl (add64 (by omega)) ?_
       refine op_assign (ev_hit hN170 rfl) ?_
       refine reg_nil ?_
       refine hK171 _ _ ?_
       refine one_reg ?_
       refine op_move (ev_base hN170 rfl s170_10) ?_
       refine op_sub (ev_hit hN170 rfl) rfl (sub64 (by omega)) ?_
       refine op_assign (ev_hit hN170 rfl) ?_
       refine reg_nil ?_
       refine blk_normal ?_
       -- round 31F 48T 59F 64F
       have hv2 : scanDown (fun x => ltT dk[a]! x) dk i2 jj = j2 := hv1.trans (scanDown_stop (.inr c59))
       have hne : i2 ≠ j2 := by first | omega | (intro hh; subst hh; rw [c59] at c43; simp at c43)
       exact loop_next _ hN170 hd170 ⟨(i2 + 1), (j2 - 1), _, rfl, (sl_base hN170 rfl s170_0), (sl_base hN170 rfl s170_1), (sl_base hN170 rfl s170_8), (sl_hit hN170 rfl).trans (congrArg (Value.int .i64) (by omega)), (sl_hit hN170 rfl).trans (congrArg (Value.int .i64) (by omega)), (by first | assumption | (simp only [Array.size_setIfInBounds, swp_sz, siftDown_size]; assumption)), (by omega), (hs.trans (pe_go hu2 hv2 (by omega))), hb, (by omega), hO170⟩ (by omega)
   · -- 48F
    refine st_step rfl (fun _ h9 => op_cmp (b := false) (ev_hit hN155 rfl) (ev_hit hN155 rfl) (b_leq (decide_eq_false g48)) h9) ?_
    refine st_step rfl (fun _ h9 => op_move (ev_hit hN155 rfl) h9) ?_
    refine st_g_false (j := 3) (dj := 49) (b := true) rfl rfl rfl (ev_hit hN155 rfl) rfl rfl ?_
    refine st_g_false (j := 3) (dj := 49) (b := true) rfl rfl rfl (ev_hit hN155 rfl) rfl rfl ?_
    refine st_g_false (j := 3) (dj := 49) (b := true) rfl rfl rfl (ev_hit hN155 rfl) rfl rfl ?_
    refine st_g_false (j := 3) (dj := 49) (b := true) rfl rfl rfl (ev_hit hN155 rfl) rfl rfl ?_
    refine st_g_false (j := 3) (dj := 49) (b := true) rfl rfl rfl (ev_hit hN155 rfl) rfl rfl ?_
    refine st_g_false (j := 3) (dj := 49) (b := true) rfl rfl rfl (ev_hit hN155 rfl) rfl rfl ?_
    refine st_g_false (j := 3) (dj := 49) (b := true) rfl rfl rfl (ev_hit hN155 rfl) rfl rfl ?_
    refine st_g_false (j := 3) (dj := 49) (b := true) rfl rfl rfl (ev_hit hN155 rfl) rfl rfl ?_
    refine st_g_false (j := 3) (dj := 49) (b := true) rfl rfl rfl (ev_hit hN155 rfl) rfl rfl ?_
    refine st_step rfl (fun _ h9 => op_pick_f (ev_hit hN155 rfl) rfl h9) ?_
    refine st_nil ?_
    refine hK157 _ _ ?_
    refine wp_cond_false (ev_hit hN155 rfl) ?_
    refine wp_exit (then_exit (then_exit (blk_hit ?_)))
    refine hK154 _ _ ?_
    refine seq_any fun K172 hK172 => ?_
    refine seq_any fun K173 hK173 => ?_
    refine one_reg ?_
    refine op_move (ev_base hN155 rfl s155_9) ?_
    refine op_move (ev_base hN155 rfl s155_10) ?_
    refine op_gtr (ev_hit hN155 rfl) (ev_hit hN155 rfl) (fun c64 => ?_) (fun c64 => ?_)
    · -- 64T
     refine reg_nil ?_
     refine hK173 _ _ ?_
     refine wp_cond_true (ev_hit hN155 rfl) ?_
     refine wp_exit (then_exit (blk_miss (by decide) (then_exit (blk_hit ?_))))
     refine hK115 _ _ ?_
     refine seq_any fun K174 hK174 => ?_
     refine one_reg ?_
     refine op_move (ev_base hN155 rfl s155_9) ?_
     refine op_assign (ev_hit hN155 rfl) ?_
     refine reg_nil ?_
     refine hK174 _ _ ?_
     refine wp_ret ?_
     refine ret1 rfl hd155 (ev_hit hN155 rfl) ⟨_, rfl, ?_⟩
     -- path 31F 48F 64T
     have hv2 : scanDown (fun x => ltT dk[a]! x) dk i2 jj = j2 := hv1.trans (scanDown_stop (.inl (by omega)))
     have hq : partitionEqual ltT d a b pv = (i2, dk) := hs.trans (pe_stop hu2 hv2 (by omega))
     exact ⟨hb, by first | (rw [hq]; done) | (rw [hq]; rfl), hO117.cast rfl (by rw [hq])⟩
    · -- 64F
     refine reg_nil ?_
     refine hK173 _ _ ?_
     refine wp_cond_false (ev_hit hN155 rfl) ?_
     refine wp_skip ?_
     refine hK172 _ _ ?_
     refine seq_any fun K175 hK175 => ?_
     refine reg_mid (e := 35) (sz := 1) (base := base) (n := n) (v := v) (Φ := phiL [(fun uz _ => uz = v), (fun uz _ => uz = (Value.int .i64 ((i2 : Nat) : Int))), (fun uz _ => uz = v), (fun uz _ => uz = (Value.int .i64 ((j2 : Nat) : Int))), (fun uz _ => uz = v), (fun uz _ => uz = (Value.int .i64 ((j2 : Nat) : Int))), (fun uz _ => ∃ bz oz, uz = ptr bz oz ∧ AtV v j2 bz oz), (fun uz _ => uz = (Value.int .u16 (dk[j2]!.toNat : Int))), (fun uz _ => uz = v), (fun uz _ => uz = (Value.int .i64 ((i2 : Nat) : Int))), (fun uz _ => ∃ bz oz, uz = ptr bz oz ∧ AtV v i2 bz oz), (fun uz _ => uz = (Value.int .u16 (dk[i2]!.toNat : Int))), (fun uz _ => ∃ bz oz, uz = ptr bz oz ∧ AtV v i2 bz oz), (fun _ _ => True), (fun uz _ => ∃ bz oz, uz = ptr bz oz ∧ AtV v j2 bz oz), (fun _ _ => True)]) [13, 15] [(dk.toList.map u16v), ((dk.setIfInBounds i2 dk[j2]!).toList.map u16v), (((dk.setIfInBounds i2 dk[j2]!).setIfInBounds j2 dk[i2]!).toList.map u16v)] mixed (by kernel_rfl) (by kernel_rfl) (by kernel_rfl) (by kernel_rfl) hN155 hO117 (StL.get (StL.eq (StL.eq (StL.eq (StL.eq (StL.eq (StL.eq (StL.at (StL.eq (StL.eq (StL.eq (StL.at (StL.eq (StL.at (StL.cons (fun _ _ _ _ h => h) (StL.at (StL.cons (fun _ _ _ _ h => h) (StL.nil _)))))))))))))))))) (ObRs.get (ObRs.cons ?_ (ObRs.cons ?_ (ObRs.cons ?_ (ObRs.cons ?_ (ObRs.cons ?_ (ObRs.cons ?_ (ObRs.cons ?_ (ObRs.cons ?_ (ObRs.cons ?_ (ObRs.cons ?_ (ObRs.cons ?_ (ObRs.cons ?_ (ObRs.cons ?_ (ObRs.pass rfl (ObRs.cons ?_ (ObRs.pass rfl (ObRs.nil)))))))))))))))))) (ObWs.get (ObWs.cons ?_ (ObWs.cons ?_ (ObWs.nil)))) ?_
     ·
      intro aA wA cA hNA hRA hckA hOA hbsA hdpA
      have qA_0 := (hbsA 0 rfl).trans (sl_base hN155 rfl s155_0)
      clear hbsA hdpA
      refine op_move (ev_base hNA rfl qA_0) ?_
      exact obR_end rfl rfl (grown_refl _ _)
     ·
      intro aA wA cA hNA hRA hckA hOA hbsA hdpA
      have qA_9 := (hbsA 9 rfl).trans (sl_base hN155 rfl s155_9)
      clear hbsA hdpA
      refine op_move (ev_base hNA rfl qA_9) ?_
      exact obR_end rfl rfl (grown_refl _ _)
     ·
      intro aA wA cA hNA hRA hckA hOA hbsA hdpA
      have qA_0 := (hbsA 0 rfl).trans (sl_base hN155 rfl s155_0)
      clear hbsA hdpA
      refine op_move (ev_base hNA rfl qA_0) ?_
      exact obR_end rfl rfl (grown_refl _ _)
     ·
      intro aA wA cA hNA hRA hckA hOA hbsA hdpA
      have qA_10 := (hbsA 10 rfl).trans (sl_base hN155 rfl s155_10)
      clear hbsA hdpA
      refine op_move (ev_base hNA rfl qA_10) ?_
      exact obR_end rfl rfl (grown_refl _ _)
     ·
      intro aA wA cA hNA hRA hckA hOA hbsA hdpA
      have qA_0 := (hbsA 0 rfl).trans (sl_base hN155 rfl s155_0)
      clear hbsA hdpA
      refine op_move (ev_base hNA rfl qA_0) ?_
      exact obR_end rfl rfl (grown_refl _ _)
     ·
      intro aA wA cA hNA hRA hckA hOA hbsA hdpA
      have qA_10 := (hbsA 10 rfl).trans (sl_base hN155 rfl s155_10)
      clear hbsA hdpA
      refine op_move (ev_base hNA rfl qA_10) ?_
      exact obR_end rfl rfl (grown_refl _ _)
     ·
      intro aA wA cA hNA hRA hckA hOA hbsA hdpA
      have qA_69 : Sl aA 69 v := hdpA 4 _ 69 (by kernel_rfl) rfl rfl
      have qA_70 : Sl aA 70 (Value.int .i64 ((j2 : Nat) : Int)) := hdpA 5 _ 70 (by kernel_rfl) rfl rfl
      clear hbsA hdpA
      refine op_index_own (i := j2) slt22 (ev_base hNA rfl qA_69) hOA (ev_base hNA rfl qA_70) (by omega) (by omega) ?_
      intro b_ o_ _ hA_
      exact obR_end rfl ⟨b_, o_, rfl, by simpa using hA_⟩ (grown_refl _ _)
     ·
      intro aA wA cA hNA hRA hckA hOA hbsA hdpA
      obtain ⟨bA_71, oA_71, qA_71, hAA_71⟩ := hdpA 6 _ 71 (by kernel_rfl) rfl rfl
      clear hbsA hdpA
      obtain rfl : cA = 0 := Nat.le_zero.1 (hckA 0 13 rfl (by kernel_rfl))
      have hOA : Own wA base 35 1 v n (dk.toList.map u16v) := hOA
      refine op_load1 (v := (Value.int .u16 (dk[j2]!.toNat : Int))) one35 (ev_base hNA rfl qA_71) (by have := hOA.cellAt hAA_71 0 _ (el_at (i := j2) (by first | omega | (simp only [Array.size_setIfInBounds, swp_sz, siftDown_size]; omega))); simpa using this) ?_
      exact obR_end rfl rfl (grown_refl _ _)
     ·
      intro aA wA cA hNA hRA hckA hOA hbsA hdpA
      have qA_0 := (hbsA 0 rfl).trans (sl_base hN155 rfl s155_0)
      clear hbsA hdpA
      refine op_move (ev_base hNA rfl qA_0) ?_
      exact obR_end rfl rfl (grown_refl _ _)
     ·
      intro aA wA cA hNA hRA hckA hOA hbsA hdpA
      have qA_9 := (hbsA 9 rfl).trans (sl_base hN155 rfl s155_9)
      clear hbsA hdpA
      refine op_move (ev_base hNA rfl qA_9) ?_
      exact obR_end rfl rfl (grown_refl _ _)
     ·
      intro aA wA cA hNA hRA hckA hOA hbsA hdpA
      have qA_73 : Sl aA 73 v := hdpA 8 _ 73 (by kernel_rfl) rfl rfl
      have qA_74 : Sl aA 74 (Value.int .i64 ((i2 : Nat) : Int)) := hdpA 9 _ 74 (by kernel_rfl) rfl rfl
      clear hbsA hdpA
      refine op_index_own (i := i2) slt22 (ev_base hNA rfl qA_73) hOA (ev_base hNA rfl qA_74) (by omega) (by omega) ?_
      intro b_ o_ _ hA_
      exact obR_end rfl ⟨b_, o_, rfl, by simpa using hA_⟩ (grown_refl _ _)
     ·
      intro aA wA cA hNA hRA hckA hOA hbsA hdpA
      obtain ⟨bA_75, oA_75, qA_75, hAA_75⟩ := hdpA 10 _ 75 (by kernel_rfl) rfl rfl
      clear hbsA hdpA
      obtain rfl : cA = 0 := Nat.le_zero.1 (hckA 0 13 rfl (by kernel_rfl))
      have hOA : Own wA base 35 1 v n (dk.toList.map u16v) := hOA
      refine op_load1 (v := (Value.int .u16 (dk[i2]!.toNat : Int))) one35 (ev_base hNA rfl qA_75) (by have := hOA.cellAt hAA_75 0 _ (el_at (i := i2) (by first | omega | (simp only [Array.size_setIfInBounds, swp_sz, siftDown_size]; omega))); simpa using this) ?_
      exact obR_end rfl rfl (grown_refl _ _)
     ·
      intro aA wA cA hNA hRA hckA hOA hbsA hdpA
      have qA_65 : Sl aA 65 v := hdpA 0 _ 65 (by kernel_rfl) rfl rfl
      have qA_66 : Sl aA 66 (Value.int .i64 ((i2 : Nat) : Int)) := hdpA 1 _ 66 (by kernel_rfl) rfl rfl
      clear hbsA hdpA
      refine op_index_own (i := i2) slt22 (ev_base hNA rfl qA_65) hOA (ev_base hNA rfl qA_66) (by omega) (by omega) ?_
      intro b_ o_ _ hA_
      exact obR_end rfl ⟨b_, o_, rfl, by simpa using hA_⟩ (grown_refl _ _)
     ·
      intro aA wA cA hNA hRA hckA hOA hbsA hdpA
      have qA_67 : Sl aA 67 v := hdpA 2 _ 67 (by kernel_rfl) rfl rfl
      have qA_68 : Sl aA 68 (Value.int .i64 ((j2 : Nat) : Int)) := hdpA 3 _ 68 (by kernel_rfl) rfl rfl
      clear hbsA hdpA
      refine op_index_own (i := j2) slt22 (ev_base hNA rfl qA_67) hOA (ev_base hNA rfl qA_68) (by omega) (by omega) ?_
      intro b_ o_ _ hA_
      exact obR_end rfl ⟨b_, o_, rfl, by simpa using hA_⟩ (grown_refl _ _)
     ·
      intro o_ ho_; obtain rfl := Option.some.inj ho_; intro aA wA hNA hRA hbsA hdpA hOA
      obtain ⟨bA_77, oA_77, qA_77, hAA_77⟩ := hdpA 12 _ 77 (by kernel_rfl) rfl rfl
      have qA_72 : Sl aA 72 (Value.int .u16 (dk[j2]!.toNat : Int)) := hdpA 7 _ 72 (by kernel_rfl) rfl rfl
      clear hbsA hdpA
      have hOA : Own wA base 35 1 v n (dk.toList.map u16v) := hOA
      refine op_store_own (vs := [(Value.int .u16 (dk[j2]!.toNat : Int))]) size35 (ev_base hNA rfl qA_77) (ev_base hNA rfl qA_72) rfl rfl rfl hOA hAA_77 (by have := hOA.1; simp at this ⊢; omega) ?_
      intro w_ hO_ E_
      exact obW_end rfl (hO_.cast rfl (set_arr (by first | omega | (simp only [Array.size_setIfInBounds, swp_sz, siftDown_size]; omega)))) E_
     ·
      intro o_ ho_; obtain rfl := Option.some.inj ho_; intro aA wA hNA hRA hbsA hdpA hOA
      obtain ⟨bA_78, oA_78, qA_78, hAA_78⟩ := hdpA 14 _ 78 (by kernel_rfl) rfl rfl
      have qA_76 : Sl aA 76 (Value.int .u16 (dk[i2]!.toNat : Int)) := hdpA 11 _ 76 (by kernel_rfl) rfl rfl
      clear hbsA hdpA
      have hOA : Own wA base 35 1 v n ((dk.setIfInBounds i2 dk[j2]!).toList.map u16v) := hOA
      refine op_store_own (vs := [(Value.int .u16 (dk[i2]!.toNat : Int))]) size35 (ev_base hNA rfl qA_78) (ev_base hNA rfl qA_76) rfl rfl rfl hOA hAA_78 (by have := hOA.1; simp at this ⊢; omega) ?_
      intro w_ hO_ E_
      exact obW_end rfl (hO_.cast rfl (set_arr (by first | omega | (simp only [Array.size_setIfInBounds, swp_sz, siftDown_size]; omega)))) E_
     ·
      intro a176 w176 hN176 hd176 hbs176 hph176 hO176 E176
      have hd176 := hd176.trans hd155
      have s176_0 := (hbs176 0 rfl).trans (sl_base hN155 rfl s155_0)
      have s176_1 := (hbs176 1 rfl).trans (sl_base hN155 rfl s155_1)
      have s176_8 := (hbs176 8 rfl).trans (sl_base hN155 rfl s155_8)
      have s176_9 := (hbs176 9 rfl).trans (sl_base hN155 rfl s155_9)
      have s176_10 := (hbs176 10 rfl).trans (sl_base hN155 rfl s155_10)
      clear hbs176 hph176
      have hO176 : Own w176 base 35 1 v n (((dk.setIfInBounds i2 dk[j2]!).setIfInBounds j2 dk[i2]!).toList.map u16v) := hO176
      have z_w176 := E176.size
      have hb := grow_stepX hb E176 rfl
      refine hK175 _ _ ?_
      refine seq_any fun K177 hK177 => ?_
      refine one_reg ?_
      refine op_move (ev_base hN176 rfl s176_9) ?_
      refine op_add (ev_hit hN176 rfl) rfl (add64 (by omega)) ?_
      refine op_assign (ev_hit hN176 rfl) ?_
      refine reg_nil ?_
      refine hK177 _ _ ?_
      refine one_reg ?_
      refine op_move (ev_base hN176 rfl s176_10) ?_
      refine op_sub (ev_hit hN176 rfl) rfl (sub64 (by omega)) ?_
      refine op_assign (ev_hit hN176 rfl) ?_
      refine reg_nil ?_
      refine blk_normal ?_
      -- round 31F 48F 64F
      have hv2 : scanDown (fun x => ltT dk[a]! x) dk i2 jj = j2 := hv1.trans (scanDown_stop (.inl (by omega)))
      have hne : i2 ≠ j2 := by first | omega | (intro hh; subst hh; rw [c59] at c43; simp at c43)
      exact loop_next _ hN176 hd176 ⟨(i2 + 1), (j2 - 1), _, rfl, (sl_base hN176 rfl s176_0), (sl_base hN176 rfl s176_1), (sl_base hN176 rfl s176_8), (sl_hit hN176 rfl).trans (congrArg (Value.int .i64) (by omega)), (sl_hit hN176 rfl).trans (congrArg (Value.int .i64) (by omega)), (by first | assumption | (simp only [Array.size_setIfInBounds, swp_sz, siftDown_size]; assumption)), (by omega), (hs.trans (pe_go hu2 hv2 (by omega))), hb, (by omega), hO176⟩ (by omega)

end Go.Proofs.Ytpmnljffdofkeaa
