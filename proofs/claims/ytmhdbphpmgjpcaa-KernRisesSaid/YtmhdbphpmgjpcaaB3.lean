/- Walks, written by a program: what each function of the translation hands back. -/
import Derived.Test.YtmhdbphpmgjpcaaB2
namespace Go.Proofs.Ytmhdbphpmgjpcaa
open Go.Gx Go.RowKit
attribute [local irreducible] wpList wpStill Code.wp Calls
open Go.Sort (insertionSort insOuter insInner swp siftDown heapSort heapBuild heapPop scanUp scanDown partition partLoop partitionEqual partEqLoop scanSorted partialIns bitsLen partialInsertionSort shiftDown shiftUp SortedIn reverseRange reverseLoop fixDown fixUp)
theorem heapW_ret (d : Ar) (v : Value) (n base : Nat) (a b : Nat) (w : World) (hd : d.size = n) (hn : n ≤ 4000000000000000000) (O : Own w base 46 1 v n (d.toList.map u16v)) (hab : a ≤ b) (hbn : b ≤ n) : Ret Try.prog 154 #[v, (Value.int .i64 ((a : Nat) : Int)), (Value.int .i64 ((b : Nat) : Int))] w (fun v' w' => w.grownBy w' v.ownBlock ∧ v' = .tuple #[] ∧ Own w' base 46 1 v n ((heapSort ltT d a b).toList.map u16v)) := by
 have hb := grown_refl w v.ownBlock
 refine enter (N := 56) Try.func154 rfl rfl (by simp) fun a0 hN hd hA => ?_
 have s0 : a0.tmps.getD 0 undef = v := hA 0 (by simp)
 have s1 : a0.tmps.getD 1 undef = (Value.int .i64 ((a : Nat) : Int)) := hA 1 (by simp)
 have s2 : a0.tmps.getD 2 undef = (Value.int .i64 ((b : Nat) : Int)) := hA 2 (by simp)
 clear hA
 refine seq_any fun K1 hK1 => ?_
 refine one_reg ?_
 refine op_move (ev_base hN rfl s1) ?_
 refine op_assign (ev_hit hN rfl) ?_
 refine reg_nil ?_
 refine hK1 _ _ ?_
 refine seq_any fun K2 hK2 => ?_
 refine one_reg ?_
 refine op_assign rfl ?_
 refine reg_nil ?_
 refine hK2 _ _ ?_
 refine seq_any fun K3 hK3 => ?_
 refine one_reg ?_
 refine op_move (ev_base hN rfl s2) ?_
 refine op_move (ev_base hN rfl s1) ?_
 refine op_sub (r := ((b - a : Nat) : Int)) (ev_hit hN rfl) (ev_hit hN rfl) (by rw [IntKind.wrap_i64]; omega) ?_
 refine op_assign (ev_hit hN rfl) ?_
 refine reg_nil ?_
 refine hK3 _ _ ?_
 refine seq_any fun K4 hK4 => ?_
 refine seq_any fun K5 hK5 => ?_
 refine one_reg ?_
 refine op_move (ev_hit hN rfl) ?_
 refine op_sub (ev_hit hN rfl) rfl (sub64 (by omega)) ?_
 refine op_quo (r := (((b - a - 1) / 2 : Nat) : Int)) (ev_hit hN rfl) rfl (by decide) (by rw [tdiv2, IntKind.wrap_i64]; omega) ?_
 refine op_assign (ev_hit hN rfl) ?_
 refine reg_nil ?_
 refine hK5 _ _ ?_
 refine wp_block ?_
 refine loop_m (fun mz_ az_ w' => ∃ (k : Nat) (dk : Ar), mz_ = (k + 1) ∧ (az_.tmps.getD 0 undef = v) ∧ (az_.tmps.getD 6 undef = (Value.int .i64 ((a : Nat) : Int))) ∧ (az_.tmps.getD 7 undef = (Value.int .i64 0)) ∧ (az_.tmps.getD 8 undef = (Value.int .i64 ((b - a : Nat) : Int))) ∧ (az_.tmps.getD 9 undef = (Value.int .i64 (((k : Nat) : Int) - 1))) ∧ (dk.size = n) ∧ (k ≤ (b - a - 1) / 2 + 1) ∧ (heapBuild ltT (b - a) a ((b - a - 1) / 2 + 1) d = heapBuild ltT (b - a) a k dk) ∧ (w.grownBy w' v.ownBlock) ∧ (w.heap.size ≤ w'.heap.size) ∧ (Own w' base 46 1 v n (dk.toList.map u16v))) _ hN hd ⟨((b - a - 1) / 2 + 1), _, rfl, (sl_base hN rfl s0), (sl_hit hN rfl), (sl_hit hN rfl), (sl_hit hN rfl), (sl_hit hN rfl).trans (congrArg (Value.int .i64) (by omega)), (by first | assumption | (simp only [Array.size_setIfInBounds, swp_sz, siftDown_size]; assumption)), Nat.le_refl _, rfl, hb, (Nat.le_refl _), O⟩ ?_
 rintro _ a6 w6 hN6 hd6 ⟨k, dk, rfl, s6_0, s6_6, s6_7, s6_8, s6_9, hdk, hk, hs, hb, zl_w6, hO7⟩
 have z_w6 := hb.size
 refine seq_any fun K8 hK8 => ?_
 refine seq_any fun K9 hK9 => ?_
 refine one_reg ?_
 refine op_move (ev_base hN6 rfl s6_9) ?_
 refine op_geq (ev_hit hN6 rfl) rfl (fun c19 => ?_) (fun c19 => ?_)
 · -- 19T
  refine reg_nil ?_
  refine hK9 _ _ ?_
  refine wp_cond_true (ev_hit hN6 rfl) ?_
  refine wp_skip ?_
  refine hK8 _ _ ?_
  refine seq_any fun K10 hK10 => ?_
  refine wp_block ?_
  refine one_reg ?_
  refine op_move (ev_base hN6 rfl s6_0) ?_
  refine op_move ((ev_base hN6 rfl s6_9).trans (congrArg (Value.int .i64) (show _ = ((k - 1 : Nat) : Int) by omega))) ?_
  refine op_move (ev_base hN6 rfl s6_8) ?_
  refine op_move (ev_base hN6 rfl s6_6) ?_
  refine op_fn (vs := [v, (Value.int .i64 ((k - 1 : Nat) : Int)), (Value.int .i64 ((b - a : Nat) : Int)), (Value.int .i64 ((a : Nat) : Int))]) ok173 ⟨(ev_hit hN6 rfl), ⟨(ev_hit hN6 rfl), ⟨(ev_hit hN6 rfl), ⟨(ev_hit hN6 rfl), trivial⟩⟩⟩⟩ (siftDownW_ret dk _ _ _ (k - 1) (b - a) a _ (by first | assumption | (simp only [Array.size_setIfInBounds, swp_sz, siftDown_size]; assumption)) (by omega) hO7 (by omega) (by omega)) ?_
  rintro _ w12 ⟨E13, rfl, hO11⟩
  have z_w12 := E13.size
  have hb := grow_stepX hb E13 rfl
  refine reg_nil ?_
  refine hK10 _ _ ?_
  refine one_reg ?_
  refine op_move (ev_base hN6 rfl s6_9) ?_
  refine op_sub (ev_hit hN6 rfl) rfl (sub64 (by omega)) ?_
  refine op_assign (ev_hit hN6 rfl) ?_
  refine reg_nil ?_
  -- round 19T
  exact loop_next _ hN6 hd6 ⟨(k - 1), _, rfl, (sl_base hN6 rfl s6_0), (sl_base hN6 rfl s6_6), (sl_base hN6 rfl s6_7), (sl_base hN6 rfl s6_8), (sl_hit hN6 rfl).trans (congrArg (Value.int .i64) (by omega)), (by first | assumption | (simp only [Array.size_setIfInBounds, swp_sz, siftDown_size]; assumption)), (by omega), (hs.trans (heapBuild_go' (by omega))), hb, (by omega), hO11⟩ (by omega)
 · -- 19F
  refine reg_nil ?_
  refine hK9 _ _ ?_
  refine wp_cond_false (ev_hit hN6 rfl) ?_
  refine wp_exit (then_exit (then_exit (blk_hit ?_)))
  refine hK4 _ _ ?_
  refine seq_any fun K14 hK14 => ?_
  refine one_reg ?_
  refine op_move (ev_base hN6 rfl s6_8) ?_
  refine op_sub (ev_hit hN6 rfl) rfl (sub64 (by omega)) ?_
  refine op_assign (ev_hit hN6 rfl) ?_
  refine reg_nil ?_
  refine hK14 _ _ ?_
  refine wp_block ?_
  refine loop_m (fun mz_ az_ w' => ∃ (q : Nat) (dj : Ar), mz_ = (q + 1) ∧ (az_.tmps.getD 0 undef = v) ∧ (az_.tmps.getD 6 undef = (Value.int .i64 ((a : Nat) : Int))) ∧ (az_.tmps.getD 7 undef = (Value.int .i64 0)) ∧ (az_.tmps.getD 10 undef = (Value.int .i64 (((q : Nat) : Int) - 1))) ∧ (dj.size = n) ∧ (q ≤ b - a) ∧ (heapPop ltT a (b - a) (heapBuild ltT (b - a) a ((b - a - 1) / 2 + 1) d) = heapPop ltT a q dj) ∧ (w.grownBy w' v.ownBlock) ∧ (w6.heap.size ≤ w'.heap.size) ∧ (Own w' base 46 1 v n (dj.toList.map u16v))) _ hN6 hd6 ⟨(b - a), _, rfl, (sl_base hN6 rfl s6_0), (sl_base hN6 rfl s6_6), (sl_base hN6 rfl s6_7), (sl_hit hN6 rfl).trans (congrArg (Value.int .i64) (by omega)), (by first | assumption | (simp only [Array.size_setIfInBounds, swp_sz, siftDown_size]; assumption)), Nat.le_refl _, (congrArg (heapPop ltT a (b - a)) (hs.trans (by rw [show k = 0 by omega]; rfl))), hb, (Nat.le_refl _), hO7⟩ ?_
  rintro _ a15 w15 hN15 hd15 ⟨q, dj, rfl, s15_0, s15_6, s15_7, s15_10, hdj, hk, hs2, hb, zl_w15, hO16⟩
  have z_w15 := hb.size
  refine seq_any fun K17 hK17 => ?_
  refine seq_any fun K18 hK18 => ?_
  refine one_reg ?_
  refine op_move (ev_base hN15 rfl s15_10) ?_
  refine op_geq (ev_hit hN15 rfl) rfl (fun c30 => ?_) (fun c30 => ?_)
  · -- 30T
   refine reg_nil ?_
   refine hK18 _ _ ?_
   refine wp_cond_true (ev_hit hN15 rfl) ?_
   refine wp_skip ?_
   refine hK17 _ _ ?_
   refine seq_any fun K19 hK19 => ?_
   refine wp_block ?_
   refine seq_any fun K20 hK20 => ?_
   refine reg_mid (e := 46) (sz := 1) (base := base) (n := n) (v := v) (Φ := phiL [(fun uz _ => uz = v), (fun uz _ => uz = (Value.int .i64 ((a : Nat) : Int))), (fun uz _ => uz = v), (fun uz _ => uz = (Value.int .i64 ((a : Nat) : Int))), (fun uz _ => uz = (Value.int .i64 ((q - 1 : Nat) : Int))), (fun uz _ => uz = (Value.int .i64 (((a : Nat) : Int) + ((q - 1 : Nat) : Int)))), (fun uz _ => uz = v), (fun uz _ => uz = (Value.int .i64 ((a : Nat) : Int))), (fun uz _ => uz = (Value.int .i64 ((q - 1 : Nat) : Int))), (fun uz _ => uz = (Value.int .i64 (((a : Nat) : Int) + ((q - 1 : Nat) : Int)))), (fun uz _ => ∃ bz oz, uz = ptr bz oz ∧ AtV v (a + (q - 1)) bz oz), (fun uz _ => uz = (Value.int .u16 (dj[(a + (q - 1))]!.toNat : Int))), (fun uz _ => uz = v), (fun uz _ => uz = (Value.int .i64 ((a : Nat) : Int))), (fun uz _ => ∃ bz oz, uz = ptr bz oz ∧ AtV v a bz oz), (fun uz _ => uz = (Value.int .u16 (dj[a]!.toNat : Int))), (fun uz _ => ∃ bz oz, uz = ptr bz oz ∧ AtV v a bz oz), (fun _ _ => True), (fun uz _ => ∃ bz oz, uz = ptr bz oz ∧ AtV v (a + (q - 1)) bz oz), (fun _ _ => True)]) [17, 19] [(dj.toList.map u16v), ((dj.setIfInBounds a dj[(a + (q - 1))]!).toList.map u16v), (((dj.setIfInBounds a dj[(a + (q - 1))]!).setIfInBounds (a + (q - 1)) dj[a]!).toList.map u16v)] mixed (by kernel_rfl) (by kernel_rfl) (by kernel_rfl) (by kernel_rfl) hN15 hO16 (StL.get (StL.eq (StL.eq (StL.eq (StL.eq (StL.eq (StL.eq (StL.eq (StL.eq (StL.eq (StL.eq (StL.at (StL.eq (StL.eq (StL.eq (StL.at (StL.eq (StL.at (StL.cons (fun _ _ _ _ h => h) (StL.at (StL.cons (fun _ _ _ _ h => h) (StL.nil _)))))))))))))))))))))) (ObRs.get (ObRs.cons ?_ (ObRs.cons ?_ (ObRs.cons ?_ (ObRs.cons ?_ (ObRs.cons ?_ (ObRs.cons ?_ (ObRs.cons ?_ (ObRs.cons ?_ (ObRs.cons ?_ (ObRs.cons ?_ (ObRs.cons ?_ (ObRs.cons ?_ (ObRs.cons ?_ (ObRs.cons ?_ (ObRs.cons ?_ (ObRs.cons ?_ (ObRs.cons ?_ (ObRs.pass rfl (ObRs.cons ?_ (ObRs.pass rfl (ObRs.nil)))))))))))))))))))))) (ObWs.get (ObWs.cons ?_ (ObWs.cons ?_ (ObWs.nil)))) ?_
   ·
    intro aA wA cA hNA hRA hckA hOA hbsA hdpA
    have qA_0 := (hbsA 0 rfl).trans (sl_base hN15 rfl s15_0)
    clear hbsA hdpA
    refine op_move (ev_base hNA rfl qA_0) ?_
    exact obR_end rfl rfl (grown_refl _ _)
   ·
    intro aA wA cA hNA hRA hckA hOA hbsA hdpA
    have qA_6 := (hbsA 6 rfl).trans (sl_base hN15 rfl s15_6)
    clear hbsA hdpA
    refine op_move (ev_base hNA rfl qA_6) ?_
    exact obR_end rfl rfl (grown_refl _ _)
   ·
    intro aA wA cA hNA hRA hckA hOA hbsA hdpA
    have qA_0 := (hbsA 0 rfl).trans (sl_base hN15 rfl s15_0)
    clear hbsA hdpA
    refine op_move (ev_base hNA rfl qA_0) ?_
    exact obR_end rfl rfl (grown_refl _ _)
   ·
    intro aA wA cA hNA hRA hckA hOA hbsA hdpA
    have qA_6 := (hbsA 6 rfl).trans (sl_base hN15 rfl s15_6)
    clear hbsA hdpA
    refine op_move (ev_base hNA rfl qA_6) ?_
    exact obR_end rfl rfl (grown_refl _ _)
   ·
    intro aA wA cA hNA hRA hckA hOA hbsA hdpA
    have qA_10 := (hbsA 10 rfl).trans (sl_base hN15 rfl s15_10)
    clear hbsA hdpA
    refine op_move ((ev_base hNA rfl qA_10).trans (congrArg (Value.int .i64) (show _ = ((q - 1 : Nat) : Int) by omega))) ?_
    exact obR_end rfl rfl (grown_refl _ _)
   ·
    intro aA wA cA hNA hRA hckA hOA hbsA hdpA
    have qA_36 : Sl aA 36 (Value.int .i64 ((a : Nat) : Int)) := hdpA 3 _ 36 (by kernel_rfl) rfl rfl
    have qA_37 : Sl aA 37 (Value.int .i64 ((q - 1 : Nat) : Int)) := hdpA 4 _ 37 (by kernel_rfl) rfl rfl
    clear hbsA hdpA
    refine op_add (ev_base hNA rfl qA_36) (ev_base hNA rfl qA_37) (add64 (by omega)) ?_
    exact obR_end rfl rfl (grown_refl _ _)
   ·
    intro aA wA cA hNA hRA hckA hOA hbsA hdpA
    have qA_0 := (hbsA 0 rfl).trans (sl_base hN15 rfl s15_0)
    clear hbsA hdpA
    refine op_move (ev_base hNA rfl qA_0) ?_
    exact obR_end rfl rfl (grown_refl _ _)
   ·
    intro aA wA cA hNA hRA hckA hOA hbsA hdpA
    have qA_6 := (hbsA 6 rfl).trans (sl_base hN15 rfl s15_6)
    clear hbsA hdpA
    refine op_move (ev_base hNA rfl qA_6) ?_
    exact obR_end rfl rfl (grown_refl _ _)
   ·
    intro aA wA cA hNA hRA hckA hOA hbsA hdpA
    have qA_10 := (hbsA 10 rfl).trans (sl_base hN15 rfl s15_10)
    clear hbsA hdpA
    refine op_move ((ev_base hNA rfl qA_10).trans (congrArg (Value.int .i64) (show _ = ((q - 1 : Nat) : Int) by omega))) ?_
    exact obR_end rfl rfl (grown_refl _ _)
   ·
    intro aA wA cA hNA hRA hckA hOA hbsA hdpA
    have qA_40 : Sl aA 40 (Value.int .i64 ((a : Nat) : Int)) := hdpA 7 _ 40 (by kernel_rfl) rfl rfl
    have qA_41 : Sl aA 41 (Value.int .i64 ((q - 1 : Nat) : Int)) := hdpA 8 _ 41 (by kernel_rfl) rfl rfl
    clear hbsA hdpA
    refine op_add (ev_base hNA rfl qA_40) (ev_base hNA rfl qA_41) (add64 (by omega)) ?_
    exact obR_end rfl rfl (grown_refl _ _)
   ·
    intro aA wA cA hNA hRA hckA hOA hbsA hdpA
    have qA_39 : Sl aA 39 v := hdpA 6 _ 39 (by kernel_rfl) rfl rfl
    have qA_42 : Sl aA 42 (Value.int .i64 (((a : Nat) : Int) + ((q - 1 : Nat) : Int))) := hdpA 9 _ 42 (by kernel_rfl) rfl rfl
    clear hbsA hdpA
    refine op_index_own (i := (a + (q - 1))) slt45 (ev_base hNA rfl qA_39) hOA (ev_base hNA rfl qA_42) (by omega) (by omega) ?_
    intro b_ o_ _ hA_
    exact obR_end rfl ⟨b_, o_, rfl, by simpa using hA_⟩ (grown_refl _ _)
   ·
    intro aA wA cA hNA hRA hckA hOA hbsA hdpA
    obtain ⟨bA_43, oA_43, qA_43, hAA_43⟩ := hdpA 10 _ 43 (by kernel_rfl) rfl rfl
    clear hbsA hdpA
    obtain rfl : cA = 0 := Nat.le_zero.1 (hckA 0 17 rfl (by kernel_rfl))
    have hOA : Own wA base 46 1 v n (dj.toList.map u16v) := hOA
    refine op_load1 (v := (Value.int .u16 (dj[(a + (q - 1))]!.toNat : Int))) one46 (ev_base hNA rfl qA_43) (by have := hOA.cellAt hAA_43 0 _ (el_at (i := (a + (q - 1))) (by first | omega | (simp only [Array.size_setIfInBounds, swp_sz, siftDown_size]; omega))); simpa using this) ?_
    exact obR_end rfl rfl (grown_refl _ _)
   ·
    intro aA wA cA hNA hRA hckA hOA hbsA hdpA
    have qA_0 := (hbsA 0 rfl).trans (sl_base hN15 rfl s15_0)
    clear hbsA hdpA
    refine op_move (ev_base hNA rfl qA_0) ?_
    exact obR_end rfl rfl (grown_refl _ _)
   ·
    intro aA wA cA hNA hRA hckA hOA hbsA hdpA
    have qA_6 := (hbsA 6 rfl).trans (sl_base hN15 rfl s15_6)
    clear hbsA hdpA
    refine op_move (ev_base hNA rfl qA_6) ?_
    exact obR_end rfl rfl (grown_refl _ _)
   ·
    intro aA wA cA hNA hRA hckA hOA hbsA hdpA
    have qA_45 : Sl aA 45 v := hdpA 12 _ 45 (by kernel_rfl) rfl rfl
    have qA_46 : Sl aA 46 (Value.int .i64 ((a : Nat) : Int)) := hdpA 13 _ 46 (by kernel_rfl) rfl rfl
    clear hbsA hdpA
    refine op_index_own (i := a) slt45 (ev_base hNA rfl qA_45) hOA (ev_base hNA rfl qA_46) (by omega) (by omega) ?_
    intro b_ o_ _ hA_
    exact obR_end rfl ⟨b_, o_, rfl, by simpa using hA_⟩ (grown_refl _ _)
   ·
    intro aA wA cA hNA hRA hckA hOA hbsA hdpA
    obtain ⟨bA_47, oA_47, qA_47, hAA_47⟩ := hdpA 14 _ 47 (by kernel_rfl) rfl rfl
    clear hbsA hdpA
    obtain rfl : cA = 0 := Nat.le_zero.1 (hckA 0 17 rfl (by kernel_rfl))
    have hOA : Own wA base 46 1 v n (dj.toList.map u16v) := hOA
    refine op_load1 (v := (Value.int .u16 (dj[a]!.toNat : Int))) one46 (ev_base hNA rfl qA_47) (by have := hOA.cellAt hAA_47 0 _ (el_at (i := a) (by first | omega | (simp only [Array.size_setIfInBounds, swp_sz, siftDown_size]; omega))); simpa using this) ?_
    exact obR_end rfl rfl (grown_refl _ _)
   ·
    intro aA wA cA hNA hRA hckA hOA hbsA hdpA
    have qA_33 : Sl aA 33 v := hdpA 0 _ 33 (by kernel_rfl) rfl rfl
    have qA_34 : Sl aA 34 (Value.int .i64 ((a : Nat) : Int)) := hdpA 1 _ 34 (by kernel_rfl) rfl rfl
    clear hbsA hdpA
    refine op_index_own (i := a) slt45 (ev_base hNA rfl qA_33) hOA (ev_base hNA rfl qA_34) (by omega) (by omega) ?_
    intro b_ o_ _ hA_
    exact obR_end rfl ⟨b_, o_, rfl, by simpa using hA_⟩ (grown_refl _ _)
   ·
    intro aA wA cA hNA hRA hckA hOA hbsA hdpA
    have qA_35 : Sl aA 35 v := hdpA 2 _ 35 (by kernel_rfl) rfl rfl
    have qA_38 : Sl aA 38 (Value.int .i64 (((a : Nat) : Int) + ((q - 1 : Nat) : Int))) := hdpA 5 _ 38 (by kernel_rfl) rfl rfl
    clear hbsA hdpA
    refine op_index_own (i := (a + (q - 1))) slt45 (ev_base hNA rfl qA_35) hOA (ev_base hNA rfl qA_38) (by omega) (by omega) ?_
    intro b_ o_ _ hA_
    exact obR_end rfl ⟨b_, o_, rfl, by simpa using hA_⟩ (grown_refl _ _)
   ·
    intro o_ ho_; obtain rfl := Option.some.inj ho_; intro aA wA hNA hRA hbsA hdpA hOA
    obtain ⟨bA_49, oA_49, qA_49, hAA_49⟩ := hdpA 16 _ 49 (by kernel_rfl) rfl rfl
    have qA_44 : Sl aA 44 (Value.int .u16 (dj[(a + (q - 1))]!.toNat : Int)) := hdpA 11 _ 44 (by kernel_rfl) rfl rfl
    clear hbsA hdpA
    have hOA : Own wA base 46 1 v n (dj.toList.map u16v) := hOA
    refine op_store_own (vs := [(Value.int .u16 (dj[(a + (q - 1))]!.toNat : Int))]) size46 (ev_base hNA rfl qA_49) (ev_base hNA rfl qA_44) rfl rfl rfl hOA hAA_49 (by have := hOA.1; simp at this ⊢; omega) ?_
    intro w_ hO_ E_
    exact obW_end rfl (hO_.cast rfl (set_arr (by first | omega | (simp only [Array.size_setIfInBounds, swp_sz, siftDown_size]; omega)))) E_
   ·
    intro o_ ho_; obtain rfl := Option.some.inj ho_; intro aA wA hNA hRA hbsA hdpA hOA
    obtain ⟨bA_50, oA_50, qA_50, hAA_50⟩ := hdpA 18 _ 50 (by kernel_rfl) rfl rfl
    have qA_48 : Sl aA 48 (Value.int .u16 (dj[a]!.toNat : Int)) := hdpA 15 _ 48 (by kernel_rfl) rfl rfl
    clear hbsA hdpA
    have hOA : Own wA base 46 1 v n ((dj.setIfInBounds a dj[(a + (q - 1))]!).toList.map u16v) := hOA
    refine op_store_own (vs := [(Value.int .u16 (dj[a]!.toNat : Int))]) size46 (ev_base hNA rfl qA_50) (ev_base hNA rfl qA_48) rfl rfl rfl hOA hAA_50 (by have := hOA.1; simp at this ⊢; omega) ?_
    intro w_ hO_ E_
    exact obW_end rfl (hO_.cast rfl (set_arr (by first | omega | (simp only [Array.size_setIfInBounds, swp_sz, siftDown_size]; omega)))) E_
   ·
    intro a21 w21 hN21 hd21 hbs21 hph21 hO21 E21
    have hd21 := hd21.trans hd15
    have s21_0 := (hbs21 0 rfl).trans (sl_base hN15 rfl s15_0)
    have s21_6 := (hbs21 6 rfl).trans (sl_base hN15 rfl s15_6)
    have s21_7 := (hbs21 7 rfl).trans (sl_base hN15 rfl s15_7)
    have s21_10 := (hbs21 10 rfl).trans (sl_base hN15 rfl s15_10)
    clear hbs21 hph21
    have hO21 : Own w21 base 46 1 v n (((dj.setIfInBounds a dj[(a + (q - 1))]!).setIfInBounds (a + (q - 1)) dj[a]!).toList.map u16v) := hO21
    have z_w21 := E21.size
    have hb := grow_stepX hb E21 rfl
    refine hK20 _ _ ?_
    refine one_reg ?_
    refine op_move (ev_base hN21 rfl s21_0) ?_
    refine op_move (ev_base hN21 rfl s21_7) ?_
    refine op_move ((ev_base hN21 rfl s21_10).trans (congrArg (Value.int .i64) (show _ = ((q - 1 : Nat) : Int) by omega))) ?_
    refine op_move (ev_base hN21 rfl s21_6) ?_
    refine op_fn (vs := [v, (Value.int .i64 0), (Value.int .i64 ((q - 1 : Nat) : Int)), (Value.int .i64 ((a : Nat) : Int))]) ok173 ⟨(ev_hit hN21 rfl), ⟨(ev_hit hN21 rfl), ⟨(ev_hit hN21 rfl), ⟨(ev_hit hN21 rfl), trivial⟩⟩⟩⟩ (siftDownW_ret ((dj.setIfInBounds a dj[(a + (q - 1))]!).setIfInBounds (a + (q - 1)) dj[a]!) _ _ _ 0 (q - 1) a _ (by first | assumption | (simp only [Array.size_setIfInBounds, swp_sz, siftDown_size]; assumption)) (by omega) hO21 (by omega) (by omega)) ?_
    rintro _ w23 ⟨E24, rfl, hO22⟩
    have z_w23 := E24.size
    have hb := grow_stepX hb E24 rfl
    refine reg_nil ?_
    refine hK19 _ _ ?_
    refine one_reg ?_
    refine op_move (ev_base hN21 rfl s21_10) ?_
    refine op_sub (ev_hit hN21 rfl) rfl (sub64 (by omega)) ?_
    refine op_assign (ev_hit hN21 rfl) ?_
    refine reg_nil ?_
    -- round 19F 30T
    exact loop_next _ hN21 hd21 ⟨(q - 1), _, rfl, (sl_base hN21 rfl s21_0), (sl_base hN21 rfl s21_6), (sl_base hN21 rfl s21_7), (sl_hit hN21 rfl).trans (congrArg (Value.int .i64) (by omega)), (by first | assumption | (simp only [Array.size_setIfInBounds, swp_sz, siftDown_size]; assumption)), (by omega), (hs2.trans (heapPop_go' (by omega))), hb, (by omega), hO22⟩ (by omega)
  · -- 30F
   refine reg_nil ?_
   refine hK18 _ _ ?_
   refine wp_cond_false (ev_hit hN15 rfl) ?_
   refine wp_exit (then_exit (then_exit (blk_hit ?_)))
   refine end_ret ?_
   refine ret0 rfl hd15  ⟨_, rfl, ?_⟩
   -- path 19F 30F
   exact ⟨hb, rfl, hO16.cast rfl (by rw [show heapSort ltT d a b = heapPop ltT a (b - a) (heapBuild ltT (b - a) a ((b - a - 1) / 2 + 1) d) from rfl, hs2, show q = 0 by omega]; rfl)⟩

end Go.Proofs.Ytmhdbphpmgjpcaa

/- Walks, written by a program: what each function of the translation hands back. -/
namespace Go.Proofs.Ytmhdbphpmgjpcaa
open Go.Gx Go.RowKit
attribute [local irreducible] wpList wpStill Code.wp Calls
open Go.Sort (insertionSort insOuter insInner swp siftDown heapSort heapBuild heapPop scanUp scanDown partition partLoop partitionEqual partEqLoop scanSorted partialIns bitsLen partialInsertionSort shiftDown shiftUp SortedIn reverseRange reverseLoop fixDown fixUp)
theorem revW_ret (d : Ar) (v : Value) (n base : Nat) (a b : Nat) (w : World) (hd : d.size = n) (hn : n ≤ 4000000000000000000) (O : Own w base 46 1 v n (d.toList.map u16v)) (hab : a < b) (hbn : b ≤ n) : Ret Try.prog 157 #[v, (Value.int .i64 ((a : Nat) : Int)), (Value.int .i64 ((b : Nat) : Int))] w (fun v' w' => w.grownBy w' v.ownBlock ∧ v' = .tuple #[] ∧ Own w' base 46 1 v n ((reverseRange d a b).toList.map u16v)) := by
 have hb := grown_refl w v.ownBlock
 refine enter (N := 32) Try.func157 rfl rfl (by simp) fun a0 hN hd hA => ?_
 have s0 : a0.tmps.getD 0 undef = v := hA 0 (by simp)
 have s1 : a0.tmps.getD 1 undef = (Value.int .i64 ((a : Nat) : Int)) := hA 1 (by simp)
 have s2 : a0.tmps.getD 2 undef = (Value.int .i64 ((b : Nat) : Int)) := hA 2 (by simp)
 clear hA
 refine seq_any fun K1 hK1 => ?_
 refine one_reg ?_
 refine op_move (ev_base hN rfl s1) ?_
 refine op_assign (ev_hit hN rfl) ?_
 refine reg_nil ?_
 refine hK1 _ _ ?_
 refine seq_any fun K2 hK2 => ?_
 refine one_reg ?_
 refine op_move (ev_base hN rfl s2) ?_
 refine op_sub (r := ((b - 1 : Nat) : Int)) (ev_hit hN rfl) rfl (by rw [IntKind.wrap_i64]; omega) ?_
 refine op_assign (ev_hit hN rfl) ?_
 refine reg_nil ?_
 refine hK2 _ _ ?_
 refine wp_block ?_
 refine loop_m (fun mz_ az_ w' => ∃ (ix jx : Nat) (dk : Ar), mz_ = (jx + 1 - ix) ∧ (az_.tmps.getD 0 undef = v) ∧ (az_.tmps.getD 6 undef = (Value.int .i64 ((ix : Nat) : Int))) ∧ (az_.tmps.getD 7 undef = (Value.int .i64 ((jx : Nat) : Int))) ∧ (dk.size = n) ∧ (a ≤ ix ∧ jx < b) ∧ (reverseLoop a (b - 1) d = reverseLoop ix jx dk) ∧ (w.grownBy w' v.ownBlock) ∧ (w.heap.size ≤ w'.heap.size) ∧ (Own w' base 46 1 v n (dk.toList.map u16v))) _ hN hd ⟨a, (b - 1), _, rfl, (sl_base hN rfl s0), (sl_hit hN rfl).trans (congrArg (Value.int .i64) (by omega)), (sl_hit hN rfl).trans (congrArg (Value.int .i64) (by omega)), (by first | assumption | (simp only [Array.size_setIfInBounds, swp_sz, siftDown_size]; assumption)), (by omega), rfl, hb, (Nat.le_refl _), O⟩ ?_
 rintro _ a3 w3 hN3 hd3 ⟨ix, jx, dk, rfl, s3_0, s3_6, s3_7, hdk, hrng, hs, hb, zl_w3, hO4⟩
 have z_w3 := hb.size
 refine seq_any fun K5 hK5 => ?_
 refine seq_any fun K6 hK6 => ?_
 refine one_reg ?_
 refine op_move (ev_base hN3 rfl s3_6) ?_
 refine op_move (ev_base hN3 rfl s3_7) ?_
 refine op_lss (ev_hit hN3 rfl) (ev_hit hN3 rfl) (fun c13 => ?_) (fun c13 => ?_)
 · -- 13T
  refine reg_nil ?_
  refine hK6 _ _ ?_
  refine wp_cond_true (ev_hit hN3 rfl) ?_
  refine wp_skip ?_
  refine hK5 _ _ ?_
  refine wp_block ?_
  refine seq_any fun K7 hK7 => ?_
  refine reg_mid (e := 46) (sz := 1) (base := base) (n := n) (v := v) (Φ := phiL [(fun uz _ => uz = v), (fun uz _ => uz = (Value.int .i64 ((ix : Nat) : Int))), (fun uz _ => uz = v), (fun uz _ => uz = (Value.int .i64 ((jx : Nat) : Int))), (fun uz _ => uz = v), (fun uz _ => uz = (Value.int .i64 ((jx : Nat) : Int))), (fun uz _ => ∃ bz oz, uz = ptr bz oz ∧ AtV v jx bz oz), (fun uz _ => uz = (Value.int .u16 (dk[jx]!.toNat : Int))), (fun uz _ => uz = v), (fun uz _ => uz = (Value.int .i64 ((ix : Nat) : Int))), (fun uz _ => ∃ bz oz, uz = ptr bz oz ∧ AtV v ix bz oz), (fun uz _ => uz = (Value.int .u16 (dk[ix]!.toNat : Int))), (fun uz _ => ∃ bz oz, uz = ptr bz oz ∧ AtV v ix bz oz), (fun _ _ => True), (fun uz _ => ∃ bz oz, uz = ptr bz oz ∧ AtV v jx bz oz), (fun _ _ => True)]) [13, 15] [(dk.toList.map u16v), ((dk.setIfInBounds ix dk[jx]!).toList.map u16v), (((dk.setIfInBounds ix dk[jx]!).setIfInBounds jx dk[ix]!).toList.map u16v)] mixed (by kernel_rfl) (by kernel_rfl) (by kernel_rfl) (by kernel_rfl) hN3 hO4 (StL.get (StL.eq (StL.eq (StL.eq (StL.eq (StL.eq (StL.eq (StL.at (StL.eq (StL.eq (StL.eq (StL.at (StL.eq (StL.at (StL.cons (fun _ _ _ _ h => h) (StL.at (StL.cons (fun _ _ _ _ h => h) (StL.nil _)))))))))))))))))) (ObRs.get (ObRs.cons ?_ (ObRs.cons ?_ (ObRs.cons ?_ (ObRs.cons ?_ (ObRs.cons ?_ (ObRs.cons ?_ (ObRs.cons ?_ (ObRs.cons ?_ (ObRs.cons ?_ (ObRs.cons ?_ (ObRs.cons ?_ (ObRs.cons ?_ (ObRs.cons ?_ (ObRs.pass rfl (ObRs.cons ?_ (ObRs.pass rfl (ObRs.nil)))))))))))))))))) (ObWs.get (ObWs.cons ?_ (ObWs.cons ?_ (ObWs.nil)))) ?_
  ·
   intro aA wA cA hNA hRA hckA hOA hbsA hdpA
   have qA_0 := (hbsA 0 rfl).trans (sl_base hN3 rfl s3_0)
   clear hbsA hdpA
   refine op_move (ev_base hNA rfl qA_0) ?_
   exact obR_end rfl rfl (grown_refl _ _)
  ·
   intro aA wA cA hNA hRA hckA hOA hbsA hdpA
   have qA_6 := (hbsA 6 rfl).trans (sl_base hN3 rfl s3_6)
   clear hbsA hdpA
   refine op_move (ev_base hNA rfl qA_6) ?_
   exact obR_end rfl rfl (grown_refl _ _)
  ·
   intro aA wA cA hNA hRA hckA hOA hbsA hdpA
   have qA_0 := (hbsA 0 rfl).trans (sl_base hN3 rfl s3_0)
   clear hbsA hdpA
   refine op_move (ev_base hNA rfl qA_0) ?_
   exact obR_end rfl rfl (grown_refl _ _)
  ·
   intro aA wA cA hNA hRA hckA hOA hbsA hdpA
   have qA_7 := (hbsA 7 rfl).trans (sl_base hN3 rfl s3_7)
   clear hbsA hdpA
   refine op_move (ev_base hNA rfl qA_7) ?_
   exact obR_end rfl rfl (grown_refl _ _)
  ·
   intro aA wA cA hNA hRA hckA hOA hbsA hdpA
   have qA_0 := (hbsA 0 rfl).trans (sl_base hN3 rfl s3_0)
   clear hbsA hdpA
   refine op_move (ev_base hNA rfl qA_0) ?_
   exact obR_end rfl rfl (grown_refl _ _)
  ·
   intro aA wA cA hNA hRA hckA hOA hbsA hdpA
   have qA_7 := (hbsA 7 rfl).trans (sl_base hN3 rfl s3_7)
   clear hbsA hdpA
   refine op_move (ev_base hNA rfl qA_7) ?_
   exact obR_end rfl rfl (grown_refl _ _)
  ·
   intro aA wA cA hNA hRA hckA hOA hbsA hdpA
   have qA_18 : Sl aA 18 v := hdpA 4 _ 18 (by kernel_rfl) rfl rfl
   have qA_19 : Sl aA 19 (Value.int .i64 ((jx : Nat) : Int)) := hdpA 5 _ 19 (by kernel_rfl) rfl rfl
   clear hbsA hdpA
   refine op_index_own (i := jx) slt45 (ev_base hNA rfl qA_18) hOA (ev_base hNA rfl qA_19) (by omega) (by omega) ?_
   intro b_ o_ _ hA_
   exact obR_end rfl ⟨b_, o_, rfl, by simpa using hA_⟩ (grown_refl _ _)
  ·
   intro aA wA cA hNA hRA hckA hOA hbsA hdpA
   obtain ⟨bA_20, oA_20, qA_20, hAA_20⟩ := hdpA 6 _ 20 (by kernel_rfl) rfl rfl
   clear hbsA hdpA
   obtain rfl : cA = 0 := Nat.le_zero.1 (hckA 0 13 rfl (by kernel_rfl))
   have hOA : Own wA base 46 1 v n (dk.toList.map u16v) := hOA
   refine op_load1 (v := (Value.int .u16 (dk[jx]!.toNat : Int))) one46 (ev_base hNA rfl qA_20) (by have := hOA.cellAt hAA_20 0 _ (el_at (i := jx) (by first | omega | (simp only [Array.size_setIfInBounds, swp_sz, siftDown_size]; omega))); simpa using this) ?_
   exact obR_end rfl rfl (grown_refl _ _)
  ·
   intro aA wA cA hNA hRA hckA hOA hbsA hdpA
   have qA_0 := (hbsA 0 rfl).trans (sl_base hN3 rfl s3_0)
   clear hbsA hdpA
   refine op_move (ev_base hNA rfl qA_0) ?_
   exact obR_end rfl rfl (grown_refl _ _)
  ·
   intro aA wA cA hNA hRA hckA hOA hbsA hdpA
   have qA_6 := (hbsA 6 rfl).trans (sl_base hN3 rfl s3_6)
   clear hbsA hdpA
   refine op_move (ev_base hNA rfl qA_6) ?_
   exact obR_end rfl rfl (grown_refl _ _)
  ·
   intro aA wA cA hNA hRA hckA hOA hbsA hdpA
   have qA_22 : Sl aA 22 v := hdpA 8 _ 22 (by kernel_rfl) rfl rfl
   have qA_23 : Sl aA 23 (Value.int .i64 ((ix : Nat) : Int)) := hdpA 9 _ 23 (by kernel_rfl) rfl rfl
   clear hbsA hdpA
   refine op_index_own (i := ix) slt45 (ev_base hNA rfl qA_22) hOA (ev_base hNA rfl qA_23) (by omega) (by omega) ?_
   intro b_ o_ _ hA_
   exact obR_end rfl ⟨b_, o_, rfl, by simpa using hA_⟩ (grown_refl _ _)
  ·
   intro aA wA cA hNA hRA hckA hOA hbsA hdpA
   obtain ⟨bA_24, oA_24, qA_24, hAA_24⟩ := hdpA 10 _ 24 (by kernel_rfl) rfl rfl
   clear hbsA hdpA
   obtain rfl : cA = 0 := Nat.le_zero.1 (hckA 0 13 rfl (by kernel_rfl))
   have hOA : Own wA base 46 1 v n (dk.toList.map u16v) := hOA
   refine op_load1 (v := (Value.int .u16 (dk[ix]!.toNat : Int))) one46 (ev_base hNA rfl qA_24) (by have := hOA.cellAt hAA_24 0 _ (el_at (i := ix) (by first | omega | (simp only [Array.size_setIfInBounds, swp_sz, siftDown_size]; omega))); simpa using this) ?_
   exact obR_end rfl rfl (grown_refl _ _)
  ·
   intro aA wA cA hNA hRA hckA hOA hbsA hdpA
   have qA_14 : Sl aA 14 v := hdpA 0 _ 14 (by kernel_rfl) rfl rfl
   have qA_15 : Sl aA 15 (Value.int .i64 ((ix : Nat) : Int)) := hdpA 1 _ 15 (by kernel_rfl) rfl rfl
   clear hbsA hdpA
   refine op_index_own (i := ix) slt45 (ev_base hNA rfl qA_14) hOA (ev_base hNA rfl qA_15) (by omega) (by omega) ?_
   intro b_ o_ _ hA_
   exact obR_end rfl ⟨b_, o_, rfl, by simpa using hA_⟩ (grown_refl _ _)
  ·
   intro aA wA cA hNA hRA hckA hOA hbsA hdpA
   have qA_16 : Sl aA 16 v := hdpA 2 _ 16 (by kernel_rfl) rfl rfl
   have qA_17 : Sl aA 17 (Value.int .i64 ((jx : Nat) : Int)) := hdpA 3 _ 17 (by kernel_rfl) rfl rfl
   clear hbsA hdpA
   refine op_index_own (i := jx) slt45 (ev_base hNA rfl qA_16) hOA (ev_base hNA rfl qA_17) (by omega) (by omega) ?_
   intro b_ o_ _ hA_
   exact obR_end rfl ⟨b_, o_, rfl, by simpa using hA_⟩ (grown_refl _ _)
  ·
   intro o_ ho_; obtain rfl := Option.some.inj ho_; intro aA wA hNA hRA hbsA hdpA hOA
   obtain ⟨bA_26, oA_26, qA_26, hAA_26⟩ := hdpA 12 _ 26 (by kernel_rfl) rfl rfl
   have qA_21 : Sl aA 21 (Value.int .u16 (dk[jx]!.toNat : Int)) := hdpA 7 _ 21 (by kernel_rfl) rfl rfl
   clear hbsA hdpA
   have hOA : Own wA base 46 1 v n (dk.toList.map u16v) := hOA
   refine op_store_own (vs := [(Value.int .u16 (dk[jx]!.toNat : Int))]) size46 (ev_base hNA rfl qA_26) (ev_base hNA rfl qA_21) rfl rfl rfl hOA hAA_26 (by have := hOA.1; simp at this ⊢; omega) ?_
   intro w_ hO_ E_
   exact obW_end rfl (hO_.cast rfl (set_arr (by first | omega | (simp only [Array.size_setIfInBounds, swp_sz, siftDown_size]; omega)))) E_
  ·
   intro o_ ho_; obtain rfl := Option.some.inj ho_; intro aA wA hNA hRA hbsA hdpA hOA
   obtain ⟨bA_27, oA_27, qA_27, hAA_27⟩ := hdpA 14 _ 27 (by kernel_rfl) rfl rfl
   have qA_25 : Sl aA 25 (Value.int .u16 (dk[ix]!.toNat : Int)) := hdpA 11 _ 25 (by kernel_rfl) rfl rfl
   clear hbsA hdpA
   have hOA : Own wA base 46 1 v n ((dk.setIfInBounds ix dk[jx]!).toList.map u16v) := hOA
   refine op_store_own (vs := [(Value.int .u16 (dk[ix]!.toNat : Int))]) size46 (ev_base hNA rfl qA_27) (ev_base hNA rfl qA_25) rfl rfl rfl hOA hAA_27 (by have := hOA.1; simp at this ⊢; omega) ?_
   intro w_ hO_ E_
   exact obW_end rfl (hO_.cast rfl (set_arr (by first | omega | (simp only [Array.size_setIfInBounds, swp_sz, siftDown_size]; omega)))) E_
  ·
   intro a8 w8 hN8 hd8 hbs8 hph8 hO8 E8
   have hd8 := hd8.trans hd3
   have s8_0 := (hbs8 0 rfl).trans (sl_base hN3 rfl s3_0)
   have s8_6 := (hbs8 6 rfl).trans (sl_base hN3 rfl s3_6)
   have s8_7 := (hbs8 7 rfl).trans (sl_base hN3 rfl s3_7)
   clear hbs8 hph8
   have hO8 : Own w8 base 46 1 v n (((dk.setIfInBounds ix dk[jx]!).setIfInBounds jx dk[ix]!).toList.map u16v) := hO8
   have z_w8 := E8.size
   have hb := grow_stepX hb E8 rfl
   refine hK7 _ _ ?_
   refine seq_any fun K9 hK9 => ?_
   refine one_reg ?_
   refine op_move (ev_base hN8 rfl s8_6) ?_
   refine op_add (ev_hit hN8 rfl) rfl (add64 (by omega)) ?_
   refine op_assign (ev_hit hN8 rfl) ?_
   refine reg_nil ?_
   refine hK9 _ _ ?_
   refine one_reg ?_
   refine op_move (ev_base hN8 rfl s8_7) ?_
   refine op_sub (ev_hit hN8 rfl) rfl (sub64 (by omega)) ?_
   refine op_assign (ev_hit hN8 rfl) ?_
   refine reg_nil ?_
   refine blk_normal ?_
   -- round 13T
   exact loop_next _ hN8 hd8 ⟨(ix + 1), (jx - 1), _, rfl, (sl_base hN8 rfl s8_0), (sl_hit hN8 rfl).trans (congrArg (Value.int .i64) (by omega)), (sl_hit hN8 rfl).trans (congrArg (Value.int .i64) (by omega)), (by first | assumption | (simp only [Array.size_setIfInBounds, swp_sz, siftDown_size]; assumption)), (by omega), (hs.trans (rev_go (by omega))), hb, (by omega), hO8⟩ (by omega)
 · -- 13F
  refine reg_nil ?_
  refine hK6 _ _ ?_
  refine wp_cond_false (ev_hit hN3 rfl) ?_
  refine wp_exit (then_exit (then_exit (blk_hit ?_)))
  refine end_ret ?_
  refine ret0 rfl hd3  ⟨_, rfl, ?_⟩
  -- path 13F
  exact ⟨hb, rfl, hO4.cast rfl (by rw [show reverseRange d a b = reverseLoop a (b - 1) d from rfl, hs, rev_stop (by omega)])⟩

end Go.Proofs.Ytmhdbphpmgjpcaa

/- Walks, written by a program: what each function of the translation hands back. -/
namespace Go.Proofs.Ytmhdbphpmgjpcaa
open Go.Gx Go.RowKit
attribute [local irreducible] wpList wpStill Code.wp Calls
open Go.Sort (insertionSort insOuter insInner swp siftDown heapSort heapBuild heapPop scanUp scanDown partition partLoop partitionEqual partEqLoop scanSorted partialIns bitsLen partialInsertionSort shiftDown shiftUp SortedIn reverseRange reverseLoop fixDown fixUp)
theorem len64W_ret (n : Nat) (w : World) (hn : n < 18446744073709551616) : Ret Try.prog 163 #[(Value.int .u64 ((n : Nat) : Int))] w (fun v' w' => Below w.heap.size w w' ∧ v' = .int .i64 (bitsLen n : Int)) := by
 have hb := Below.refl w.heap.size w
 refine enter (N := 25) Try.func163 rfl rfl (by simp) fun a0 hN hd hA => ?_
 have s0 : a0.tmps.getD 0 undef = (Value.int .u64 ((n : Nat) : Int)) := hA 0 (by simp)
 clear hA
 refine seq_any fun K1 hK1 => ?_
 refine one_reg ?_
 refine op_assign rfl ?_
 refine reg_nil ?_
 refine hK1 _ _ ?_
 refine seq_join1 (N := 25) (fun az_ w' => ∃ (x1 k1 : Nat), (az_.tmps.getD 0 undef = (Value.int .u64 ((x1 : Nat) : Int))) ∧ (az_.tmps.getD 2 undef = (Value.int .i64 ((k1 : Nat) : Int))) ∧ (bitsLen n = k1 + bitsLen x1 ∧ x1 < 4294967296 ∧ k1 ≤ 32) ∧ (Below w.heap.size w w') ∧ (w.heap.size ≤ w'.heap.size)) (fun hJ2 => ?_) ?_
 ·
  refine seq_any fun K3 hK3 => ?_
  refine seq_any fun K4 hK4 => ?_
  refine one_reg ?_
  refine op_move (ev_base hN rfl s0) ?_
  refine op_geq (ev_hit hN rfl) rfl (fun c4 => ?_) (fun c4 => ?_)
  · -- 4T
   refine reg_nil ?_
   refine hK4 _ _ ?_
   refine wp_cond_true (ev_hit hN rfl) ?_
   refine seq_any fun K5 hK5 => ?_
   refine one_reg ?_
   refine op_move (ev_base hN rfl s0) ?_
   refine op_shr (r := ((n / 4294967296 : Nat) : Int)) (ev_hit hN rfl) rfl (by decide) (shr_nat (j := 32) (by omega) (by decide)) ?_
   refine op_assign (ev_hit hN rfl) ?_
   refine reg_nil ?_
   refine hK5 _ _ ?_
   refine one_reg ?_
   refine op_assign rfl ?_
   refine reg_nil ?_
   refine hK3 _ _ ?_
   exact hJ2 _ _ _ hN hd ⟨(n / 4294967296), (0 + 32), (sl_hit hN rfl).trans (congrArg (Value.int .u64) (by omega)), (sl_hit hN rfl).trans (congrArg (Value.int .i64) (by omega)), (by have hz := bits_32 (n := n) (by omega); omega), hb, (by omega)⟩
  · -- 4F
   refine reg_nil ?_
   refine hK4 _ _ ?_
   refine wp_cond_false (ev_hit hN rfl) ?_
   refine wp_skip ?_
   refine hK3 _ _ ?_
   exact hJ2 _ _ _ hN hd ⟨n, 0, (sl_base hN rfl s0).trans (congrArg (Value.int .u64) (by omega)), (sl_hit hN rfl).trans (congrArg (Value.int .i64) (by omega)), (by omega), hb, (by omega)⟩
 ·
  rintro a2 w2 hN2 hd2 ⟨x1, k1, s2_0, s2_2, hx1, hb, zl_w2⟩
  have z_w2 := hb.size
  refine seq_join1 (N := 25) (fun az_ w' => ∃ (x2 k2 : Nat), (az_.tmps.getD 0 undef = (Value.int .u64 ((x2 : Nat) : Int))) ∧ (az_.tmps.getD 2 undef = (Value.int .i64 ((k2 : Nat) : Int))) ∧ (bitsLen n = k2 + bitsLen x2 ∧ x2 < 65536 ∧ k2 ≤ 48) ∧ (Below w.heap.size w w') ∧ (w2.heap.size ≤ w'.heap.size)) (fun hJ6 => ?_) ?_
  ·
   refine seq_any fun K7 hK7 => ?_
   refine seq_any fun K8 hK8 => ?_
   refine one_reg ?_
   refine op_move (ev_base hN2 rfl s2_0) ?_
   refine op_geq (ev_hit hN2 rfl) rfl (fun c8 => ?_) (fun c8 => ?_)
   · -- 8T
    refine reg_nil ?_
    refine hK8 _ _ ?_
    refine wp_cond_true (ev_hit hN2 rfl) ?_
    refine seq_any fun K9 hK9 => ?_
    refine one_reg ?_
    refine op_move (ev_base hN2 rfl s2_0) ?_
    refine op_shr (r := ((x1 / 65536 : Nat) : Int)) (ev_hit hN2 rfl) rfl (by decide) (shr_nat (j := 16) (by omega) (by decide)) ?_
    refine op_assign (ev_hit hN2 rfl) ?_
    refine reg_nil ?_
    refine hK9 _ _ ?_
    refine one_reg ?_
    refine op_move (ev_base hN2 rfl s2_2) ?_
    refine op_add (ev_hit hN2 rfl) rfl (add64 (by omega)) ?_
    refine op_assign (ev_hit hN2 rfl) ?_
    refine reg_nil ?_
    refine hK7 _ _ ?_
    exact hJ6 _ _ _ hN2 hd2 ⟨(x1 / 65536), (k1 + 16), (sl_hit hN2 rfl).trans (congrArg (Value.int .u64) (by omega)), (sl_hit hN2 rfl).trans (congrArg (Value.int .i64) (by omega)), (by have hz := bits_16 (n := x1) (by omega); omega), hb, (by omega)⟩
   · -- 8F
    refine reg_nil ?_
    refine hK8 _ _ ?_
    refine wp_cond_false (ev_hit hN2 rfl) ?_
    refine wp_skip ?_
    refine hK7 _ _ ?_
    exact hJ6 _ _ _ hN2 hd2 ⟨x1, k1, (sl_base hN2 rfl s2_0).trans (congrArg (Value.int .u64) (by omega)), (sl_base hN2 rfl s2_2).trans (congrArg (Value.int .i64) (by omega)), (by omega), hb, (by omega)⟩
  ·
   rintro a6 w6 hN6 hd6 ⟨x2, k2, s6_0, s6_2, hx2, hb, zl_w6⟩
   have z_w6 := hb.size
   refine seq_join1 (N := 25) (fun az_ w' => ∃ (x3 k3 : Nat), (az_.tmps.getD 0 undef = (Value.int .u64 ((x3 : Nat) : Int))) ∧ (az_.tmps.getD 2 undef = (Value.int .i64 ((k3 : Nat) : Int))) ∧ (bitsLen n = k3 + bitsLen x3 ∧ x3 < 256 ∧ k3 ≤ 56) ∧ (Below w.heap.size w w') ∧ (w6.heap.size ≤ w'.heap.size)) (fun hJ10 => ?_) ?_
   ·
    refine seq_any fun K11 hK11 => ?_
    refine seq_any fun K12 hK12 => ?_
    refine one_reg ?_
    refine op_move (ev_base hN6 rfl s6_0) ?_
    refine op_geq (ev_hit hN6 rfl) rfl (fun c14 => ?_) (fun c14 => ?_)
    · -- 14T
     refine reg_nil ?_
     refine hK12 _ _ ?_
     refine wp_cond_true (ev_hit hN6 rfl) ?_
     refine seq_any fun K13 hK13 => ?_
     refine one_reg ?_
     refine op_move (ev_base hN6 rfl s6_0) ?_
     refine op_shr (r := ((x2 / 256 : Nat) : Int)) (ev_hit hN6 rfl) rfl (by decide) (shr_nat (j := 8) (by omega) (by decide)) ?_
     refine op_assign (ev_hit hN6 rfl) ?_
     refine reg_nil ?_
     refine hK13 _ _ ?_
     refine one_reg ?_
     refine op_move (ev_base hN6 rfl s6_2) ?_
     refine op_add (ev_hit hN6 rfl) rfl (add64 (by omega)) ?_
     refine op_assign (ev_hit hN6 rfl) ?_
     refine reg_nil ?_
     refine hK11 _ _ ?_
     exact hJ10 _ _ _ hN6 hd6 ⟨(x2 / 256), (k2 + 8), (sl_hit hN6 rfl).trans (congrArg (Value.int .u64) (by omega)), (sl_hit hN6 rfl).trans (congrArg (Value.int .i64) (by omega)), (by have hz := bits_8 (n := x2) (by omega); omega), hb, (by omega)⟩
    · -- 14F
     refine reg_nil ?_
     refine hK12 _ _ ?_
     refine wp_cond_false (ev_hit hN6 rfl) ?_
     refine wp_skip ?_
     refine hK11 _ _ ?_
     exact hJ10 _ _ _ hN6 hd6 ⟨x2, k2, (sl_base hN6 rfl s6_0).trans (congrArg (Value.int .u64) (by omega)), (sl_base hN6 rfl s6_2).trans (congrArg (Value.int .i64) (by omega)), (by omega), hb, (by omega)⟩
   ·
    rintro a10 w10 hN10 hd10 ⟨x3, k3, s10_0, s10_2, hx3, hb, zl_w10⟩
    have z_w10 := hb.size
    refine seq_any fun K14 hK14 => ?_
    refine one_reg ?_
    refine op_move (ev_base hN10 rfl s10_2) ?_
    refine op_move (ev_base hN10 rfl s10_0) ?_
    refine op_conv (r := ((x3 : Nat) : Int)) (ev_hit hN10 rfl) us61 Try.underlying5 (wrap_u8 (by omega)) ?_
    have ht8 := tab8_sz
    have h8 := tab8_len (z := x3) (by omega)
    have ht9 : x3 < tab8.length := by omega
    have ht10 : bitsLen x3 ≤ 8 := (Go.Sort.bitsLen_le_iff x3 8).2 (by omega)
    refine op_index_str (b := (tab8.getD x3 0)) Try.underlying9 rfl (ev_hit hN10 rfl) (Int.natCast_nonneg _) (el_str (i := x3) rfl ht9) ?_
    refine op_conv (r := ((tab8.getD x3 0).toNat : Int)) (ev_hit hN10 rfl) us5 Try.underlying3 (wrap_i64 (by have := ((tab8.getD x3 0)).toNat_lt; omega)) ?_
    refine op_add (ev_hit hN10 rfl) (ev_hit hN10 rfl) (add64 (by omega)) ?_
    refine op_assign (ev_hit hN10 rfl) ?_
    refine reg_nil ?_
    refine hK14 _ _ ?_
    refine wp_ret ?_
    refine ret1 rfl hd10 (ev_hit hN10 rfl) ⟨_, rfl, ?_⟩
    -- path
    exact ⟨hb, congrArg (Value.int .i64) (by omega)⟩

theorem lenW_ret (n : Nat) (w : World) (hn : n < 18446744073709551616) : Ret Try.prog 148 #[(Value.int .u64 ((n : Nat) : Int))] w (fun v' w' => Below w.heap.size w w' ∧ v' = .int .i64 (bitsLen n : Int)) := by
 have hb := Below.refl w.heap.size w
 refine enter (N := 8) Try.func148 rfl rfl (by simp) fun a0 hN hd hA => ?_
 have s0 : a0.tmps.getD 0 undef = (Value.int .u64 ((n : Nat) : Int)) := hA 0 (by simp)
 clear hA
 refine seq_any fun K15 hK15 => ?_
 refine one_reg ?_
 refine op_assign rfl ?_
 refine reg_nil ?_
 refine hK15 _ _ ?_
 refine seq_any fun K16 hK16 => ?_
 refine wp_cond_false rfl ?_
 refine wp_skip ?_
 refine hK16 _ _ ?_
 refine seq_any fun K17 hK17 => ?_
 refine one_reg ?_
 refine op_move (ev_base hN rfl s0) ?_
 refine op_fn (vs := [(Value.int .u64 ((n : Nat) : Int))]) ok163 ⟨(ev_hit hN rfl), trivial⟩ (len64W_ret n _ (by omega)) ?_
 rintro _ w18 ⟨E19, rfl⟩
 have E19 := grown_of_below E19
 have z_w18 := E19.size
 have hb := below_step0 hb E19 hb.size
 refine op_assign (ev_hit hN rfl) ?_
 refine reg_nil ?_
 refine hK17 _ _ ?_
 refine wp_ret ?_
 refine ret1 rfl hd (ev_hit hN rfl) ⟨_, rfl, ?_⟩
 -- path
 exact ⟨hb, rfl⟩

theorem npW_ret (n : Nat) (w : World) (hn : 0 < n ∧ n ≤ 4000000000000000000) : Ret Try.prog 174 #[(Value.int .i64 ((n : Nat) : Int))] w (fun v' w' => Below w.heap.size w w' ∧ ∃ m : Nat, v' = .int .u64 (m : Int) ∧ 1 ≤ m ∧ m ≤ 2 * n) := by
 have hb := Below.refl w.heap.size w
 refine enter (N := 7) Try.func174 rfl rfl (by simp) fun a0 hN hd hA => ?_
 have s0 : a0.tmps.getD 0 undef = (Value.int .i64 ((n : Nat) : Int)) := hA 0 (by simp)
 clear hA
 refine seq_any fun K20 hK20 => ?_
 refine one_reg ?_
 refine op_assign rfl ?_
 refine reg_nil ?_
 refine hK20 _ _ ?_
 refine seq_any fun K21 hK21 => ?_
 refine one_reg ?_
 refine op_move (ev_base hN rfl s0) ?_
 refine op_conv (r := ((n : Nat) : Int)) (ev_hit hN rfl) us3 Try.underlying184 (wrap_u64 (by omega)) ?_
 refine op_fn (vs := [(Value.int .u64 ((n : Nat) : Int))]) ok148 ⟨(ev_hit hN rfl), trivial⟩ (lenW_ret n _ (by omega)) ?_
 rintro _ w22 ⟨E23, rfl⟩
 have E23 := grown_of_below E23
 have z_w22 := E23.size
 have hb := below_step0 hb E23 hb.size
 have hbl : bitsLen n ≤ 62 := (Go.Sort.bitsLen_le_iff n 62).2 (by omega)
 have hp2 := Go.Sort.two_pow_bitsLen_le (n := n) hn.1
 have hp1 := Nat.two_pow_pos (bitsLen n)
 refine op_shl (r := ((2 ^ bitsLen n : Nat) : Int)) rfl (ev_hit hN rfl) (by omega) (shl_one (by omega)) ?_
 refine op_assign (ev_hit hN rfl) ?_
 refine reg_nil ?_
 refine hK21 _ _ ?_
 refine wp_ret ?_
 refine ret1 rfl hd (ev_hit hN rfl) ⟨_, rfl, ?_⟩
 -- path
 exact ⟨hb, _, rfl, by omega, by omega⟩

theorem xnextW_ret (s : Nat) (m : Int) (w : World) (hs : Bx w s 244 [.int .u64 m]) : Ret Try.prog 175 #[(ptr s 0)] w (fun v' w' => w.grownBy w' (some s) ∧ ∃ r : Nat, v' = .int .u64 (r : Int) ∧ r < 18446744073709551616 ∧ Bx w' s 244 [.int .u64 (r : Int)]) := by
 have hs_lt := hs.lt
 have hb := grown_refl w (some s)
 refine enter (N := 33) Try.func175 rfl rfl (by simp) fun a0 hN hd hA => ?_
 have s0 : a0.tmps.getD 0 undef = (ptr s 0) := hA 0 (by simp)
 clear hA
 refine seq_any fun K24 hK24 => ?_
 refine one_reg ?_
 refine op_assign rfl ?_
 refine reg_nil ?_
 refine hK24 _ _ ?_
 refine seq_any fun K25 hK25 => ?_
 refine reg_from mixed ?_
 intro w27 E26
 have z_w27 := E26.size
 have hs := hs.keep0 E26
 have hb := grow_step0 hb E26
 refine from_still (m := 9) 9 (hd := [_, _, _, _, _, _, _, _, _]) (by kernel_rfl) rfl rfl ?_
 refine st_step rfl (fun _ h9 => op_move (ev_base hN rfl s0) h9) ?_
 refine st_step rfl (fun _ h9 => op_nil (ev_hit hN rfl) h9) ?_
 refine st_step rfl (fun _ h9 => op_load1 (v := (Value.int .u64 m)) one244 (ev_hit hN rfl) (hs.cell rfl) h9) ?_
 refine st_step rfl (fun _ h9 => op_move (ev_base hN rfl s0) h9) ?_
 refine st_step rfl (fun _ h9 => op_nil (ev_hit hN rfl) h9) ?_
 refine st_step rfl (fun _ h9 => op_load1 (v := (Value.int .u64 m)) one244 (ev_hit hN rfl) (hs.cell rfl) h9) ?_
 refine st_step rfl (fun _ h9 => op_shl (r := (IntKind.u64.wrap (m * 2 ^ (min (13 : Int).toNat (IntKind.bits .u64))))) (ev_hit hN rfl) rfl (by decide) rfl h9) ?_
 refine st_step rfl (fun _ h9 => op_xor (r := (bits .xor .u64 (m) ((IntKind.u64.wrap (m * 2 ^ (min (13 : Int).toNat (IntKind.bits .u64))))))) (ev_hit hN rfl) (ev_hit hN rfl) rfl h9) ?_
 refine st_step rfl (fun _ h9 => op_nil (ev_hit hN rfl) h9) ?_
 refine st_nil ?_
 refine from_seq (tl := [_]) (by decide) (by kernel_rfl) rfl ?_
 have hs_old := hs
 refine op_store (vs := [(Value.int .u64 (bits .xor .u64 (m) ((IntKind.u64.wrap (m * 2 ^ (min (13 : Int).toNat (IntKind.bits .u64)))))))]) (cs' := [(Value.int .u64 (bits .xor .u64 (m) ((IntKind.u64.wrap (m * 2 ^ (min (13 : Int).toNat (IntKind.bits .u64)))))))]) size244 (ev_hit hN rfl) (ev_hit hN rfl) rfl rfl rfl hs (Nat.le_of_ble_eq_true rfl) rfl ?_
 intro w30 hs E31
 have z_w30 := E31.size
 have hb := grown_trans hb E31
 refine reg_nil ?_
 refine hK25 _ _ ?_
 refine seq_any fun K32 hK32 => ?_
 refine reg_from mixed ?_
 intro w34 E33
 have z_w34 := E33.size
 have hs := hs.keep0 E33
 have hb := grow_step0 hb E33
 refine from_still (m := 9) 9 (hd := [_, _, _, _, _, _, _, _, _]) (by kernel_rfl) rfl rfl ?_
 refine st_step rfl (fun _ h9 => op_move (ev_base hN rfl s0) h9) ?_
 refine st_step rfl (fun _ h9 => op_nil (ev_hit hN rfl) h9) ?_
 refine st_step rfl (fun _ h9 => op_load1 (v := (Value.int .u64 (bits .xor .u64 (m) ((IntKind.u64.wrap (m * 2 ^ (min (13 : Int).toNat (IntKind.bits .u64)))))))) one244 (ev_hit hN rfl) (hs.cell rfl) h9) ?_
 refine st_step rfl (fun _ h9 => op_move (ev_base hN rfl s0) h9) ?_
 refine st_step rfl (fun _ h9 => op_nil (ev_hit hN rfl) h9) ?_
 refine st_step rfl (fun _ h9 => op_load1 (v := (Value.int .u64 (bits .xor .u64 (m) ((IntKind.u64.wrap (m * 2 ^ (min (13 : Int).toNat (IntKind.bits .u64)))))))) one244 (ev_hit hN rfl) (hs.cell rfl) h9) ?_
 refine st_step rfl (fun _ h9 => op_shr (r := (((bits .xor .u64 (m) ((IntKind.u64.wrap (m * 2 ^ (min (13 : Int).toNat (IntKind.bits .u64))))))).fdiv (2 ^ (min (7 : Int).toNat (IntKind.bits .u64))))) (ev_hit hN rfl) rfl (by decide) rfl h9) ?_
 refine st_step rfl (fun _ h9 => op_xor (r := (bits .xor .u64 ((bits .xor .u64 (m) ((IntKind.u64.wrap (m * 2 ^ (min (13 : Int).toNat (IntKind.bits .u64))))))) ((((bits .xor .u64 (m) ((IntKind.u64.wrap (m * 2 ^ (min (13 : Int).toNat (IntKind.bits .u64))))))).fdiv (2 ^ (min (7 : Int).toNat (IntKind.bits .u64))))))) (ev_hit hN rfl) (ev_hit hN rfl) rfl h9) ?_
 refine st_step rfl (fun _ h9 => op_nil (ev_hit hN rfl) h9) ?_
 refine st_nil ?_
 refine from_seq (tl := [_]) (by decide) (by kernel_rfl) rfl ?_
 have hs_old := hs
 refine op_store (vs := [(Value.int .u64 (bits .xor .u64 ((bits .xor .u64 (m) ((IntKind.u64.wrap (m * 2 ^ (min (13 : Int).toNat (IntKind.bits .u64))))))) ((((bits .xor .u64 (m) ((IntKind.u64.wrap (m * 2 ^ (min (13 : Int).toNat (IntKind.bits .u64))))))).fdiv (2 ^ (min (7 : Int).toNat (IntKind.bits .u64)))))))]) (cs' := [(Value.int .u64 (bits .xor .u64 ((bits .xor .u64 (m) ((IntKind.u64.wrap (m * 2 ^ (min (13 : Int).toNat (IntKind.bits .u64))))))) ((((bits .xor .u64 (m) ((IntKind.u64.wrap (m * 2 ^ (min (13 : Int).toNat (IntKind.bits .u64))))))).fdiv (2 ^ (min (7 : Int).toNat (IntKind.bits .u64)))))))]) size244 (ev_hit hN rfl) (ev_hit hN rfl) rfl rfl rfl hs (Nat.le_of_ble_eq_true rfl) rfl ?_
 intro w37 hs E38
 have z_w37 := E38.size
 have hb := grown_trans hb E38
 refine reg_nil ?_
 refine hK32 _ _ ?_
 refine seq_any fun K39 hK39 => ?_
 refine reg_from mixed ?_
 intro w41 E40
 have z_w41 := E40.size
 have hs := hs.keep0 E40
 have hb := grow_step0 hb E40
 refine from_still (m := 9) 9 (hd := [_, _, _, _, _, _, _, _, _]) (by kernel_rfl) rfl rfl ?_
 refine st_step rfl (fun _ h9 => op_move (ev_base hN rfl s0) h9) ?_
 refine st_step rfl (fun _ h9 => op_nil (ev_hit hN rfl) h9) ?_
 refine st_step rfl (fun _ h9 => op_load1 (v := (Value.int .u64 (bits .xor .u64 ((bits .xor .u64 (m) ((IntKind.u64.wrap (m * 2 ^ (min (13 : Int).toNat (IntKind.bits .u64))))))) ((((bits .xor .u64 (m) ((IntKind.u64.wrap (m * 2 ^ (min (13 : Int).toNat (IntKind.bits .u64))))))).fdiv (2 ^ (min (7 : Int).toNat (IntKind.bits .u64)))))))) one244 (ev_hit hN rfl) (hs.cell rfl) h9) ?_
 refine st_step rfl (fun _ h9 => op_move (ev_base hN rfl s0) h9) ?_
 refine st_step rfl (fun _ h9 => op_nil (ev_hit hN rfl) h9) ?_
 refine st_step rfl (fun _ h9 => op_load1 (v := (Value.int .u64 (bits .xor .u64 ((bits .xor .u64 (m) ((IntKind.u64.wrap (m * 2 ^ (min (13 : Int).toNat (IntKind.bits .u64))))))) ((((bits .xor .u64 (m) ((IntKind.u64.wrap (m * 2 ^ (min (13 : Int).toNat (IntKind.bits .u64))))))).fdiv (2 ^ (min (7 : Int).toNat (IntKind.bits .u64)))))))) one244 (ev_hit hN rfl) (hs.cell rfl) h9) ?_
 refine st_step rfl (fun _ h9 => op_shl (r := (IntKind.u64.wrap ((bits .xor .u64 ((bits .xor .u64 (m) ((IntKind.u64.wrap (m * 2 ^ (min (13 : Int).toNat (IntKind.bits .u64))))))) ((((bits .xor .u64 (m) ((IntKind.u64.wrap (m * 2 ^ (min (13 : Int).toNat (IntKind.bits .u64))))))).fdiv (2 ^ (min (7 : Int).toNat (IntKind.bits .u64)))))) * 2 ^ (min (17 : Int).toNat (IntKind.bits .u64))))) (ev_hit hN rfl) rfl (by decide) rfl h9) ?_
 refine st_step rfl (fun _ h9 => op_xor (r := (bits .xor .u64 ((bits .xor .u64 ((bits .xor .u64 (m) ((IntKind.u64.wrap (m * 2 ^ (min (13 : Int).toNat (IntKind.bits .u64))))))) ((((bits .xor .u64 (m) ((IntKind.u64.wrap (m * 2 ^ (min (13 : Int).toNat (IntKind.bits .u64))))))).fdiv (2 ^ (min (7 : Int).toNat (IntKind.bits .u64))))))) ((IntKind.u64.wrap ((bits .xor .u64 ((bits .xor .u64 (m) ((IntKind.u64.wrap (m * 2 ^ (min (13 : Int).toNat (IntKind.bits .u64))))))) ((((bits .xor .u64 (m) ((IntKind.u64.wrap (m * 2 ^ (min (13 : Int).toNat (IntKind.bits .u64))))))).fdiv (2 ^ (min (7 : Int).toNat (IntKind.bits .u64)))))) * 2 ^ (min (17 : Int).toNat (IntKind.bits .u64))))))) (ev_hit hN rfl) (ev_hit hN rfl) rfl h9) ?_
 refine st_step rfl (fun _ h9 => op_nil (ev_hit hN rfl) h9) ?_
 refine st_nil ?_
 refine from_seq (tl := [_]) (by decide) (by kernel_rfl) rfl ?_
 have hs_old := hs
 refine op_store (vs := [(Value.int .u64 (bits .xor .u64 ((bits .xor .u64 ((bits .xor .u64 (m) ((IntKind.u64.wrap (m * 2 ^ (min (13 : Int).toNat (IntKind.bits .u64))))))) ((((bits .xor .u64 (m) ((IntKind.u64.wrap (m * 2 ^ (min (13 : Int).toNat (IntKind.bits .u64))))))).fdiv (2 ^ (min (7 : Int).toNat (IntKind.bits .u64))))))) ((IntKind.u64.wrap ((bits .xor .u64 ((bits .xor .u64 (m) ((IntKind.u64.wrap (m * 2 ^ (min (13 : Int).toNat (IntKind.bits .u64))))))) ((((bits .xor .u64 (m) ((IntKind.u64.wrap (m * 2 ^ (min (13 : Int).toNat (IntKind.bits .u64))))))).fdiv (2 ^ (min (7 : Int).toNat (IntKind.bits .u64)))))) * 2 ^ (min (17 : Int).toNat (IntKind.bits .u64)))))))]) (cs' := [(Value.int .u64 (bits .xor .u64 ((bits .xor .u64 ((bits .xor .u64 (m) ((IntKind.u64.wrap (m * 2 ^ (min (13 : Int).toNat (IntKind.bits .u64))))))) ((((bits .xor .u64 (m) ((IntKind.u64.wrap (m * 2 ^ (min (13 : Int).toNat (IntKind.bits .u64))))))).fdiv (2 ^ (min (7 : Int).toNat (IntKind.bits .u64))))))) ((IntKind.u64.wrap ((bits .xor .u64 ((bits .xor .u64 (m) ((IntKind.u64.wrap (m * 2 ^ (min (13 : Int).toNat (IntKind.bits .u64))))))) ((((bits .xor .u64 (m) ((IntKind.u64.wrap (m * 2 ^ (min (13 : Int).toNat (IntKind.bits .u64))))))).fdiv (2 ^ (min (7 : Int).toNat (IntKind.bits .u64)))))) * 2 ^ (min (17 : Int).toNat (IntKind.bits .u64)))))))]) size244 (ev_hit hN rfl) (ev_hit hN rfl) rfl rfl rfl hs (Nat.le_of_ble_eq_true rfl) rfl ?_
 intro w44 hs E45
 have z_w44 := E45.size
 have hb := grown_trans hb E45
 refine reg_nil ?_
 refine hK39 _ _ ?_
 refine seq_any fun K46 hK46 => ?_
 refine one_reg ?_
 refine op_move (ev_base hN rfl s0) ?_
 refine op_nil (ev_hit hN rfl) ?_
 refine op_load1 (v := (Value.int .u64 (bits .xor .u64 ((bits .xor .u64 ((bits .xor .u64 (m) ((IntKind.u64.wrap (m * 2 ^ (min (13 : Int).toNat (IntKind.bits .u64))))))) ((((bits .xor .u64 (m) ((IntKind.u64.wrap (m * 2 ^ (min (13 : Int).toNat (IntKind.bits .u64))))))).fdiv (2 ^ (min (7 : Int).toNat (IntKind.bits .u64))))))) ((IntKind.u64.wrap ((bits .xor .u64 ((bits .xor .u64 (m) ((IntKind.u64.wrap (m * 2 ^ (min (13 : Int).toNat (IntKind.bits .u64))))))) ((((bits .xor .u64 (m) ((IntKind.u64.wrap (m * 2 ^ (min (13 : Int).toNat (IntKind.bits .u64))))))).fdiv (2 ^ (min (7 : Int).toNat (IntKind.bits .u64)))))) * 2 ^ (min (17 : Int).toNat (IntKind.bits .u64)))))))) one244 (ev_hit hN rfl) (hs.cell rfl) ?_
 refine op_assign (ev_hit hN rfl) ?_
 refine reg_nil ?_
 refine hK46 _ _ ?_
 refine wp_ret ?_
 refine ret1 rfl hd (ev_hit hN rfl) ⟨_, rfl, ?_⟩
 -- path
 have hrr := xor_rng (((bits .xor .u64 ((bits .xor .u64 (m) ((IntKind.u64.wrap (m * 2 ^ (min (13 : Int).toNat (IntKind.bits .u64))))))) ((((bits .xor .u64 (m) ((IntKind.u64.wrap (m * 2 ^ (min (13 : Int).toNat (IntKind.bits .u64))))))).fdiv (2 ^ (min (7 : Int).toNat (IntKind.bits .u64)))))))) (((IntKind.u64.wrap ((bits .xor .u64 ((bits .xor .u64 (m) ((IntKind.u64.wrap (m * 2 ^ (min (13 : Int).toNat (IntKind.bits .u64))))))) ((((bits .xor .u64 (m) ((IntKind.u64.wrap (m * 2 ^ (min (13 : Int).toNat (IntKind.bits .u64))))))).fdiv (2 ^ (min (7 : Int).toNat (IntKind.bits .u64)))))) * 2 ^ (min (17 : Int).toNat (IntKind.bits .u64))))))
 obtain ⟨rr, hrr2⟩ : ∃ r : Nat, (bits .xor .u64 ((bits .xor .u64 ((bits .xor .u64 (m) ((IntKind.u64.wrap (m * 2 ^ (min (13 : Int).toNat (IntKind.bits .u64))))))) ((((bits .xor .u64 (m) ((IntKind.u64.wrap (m * 2 ^ (min (13 : Int).toNat (IntKind.bits .u64))))))).fdiv (2 ^ (min (7 : Int).toNat (IntKind.bits .u64))))))) ((IntKind.u64.wrap ((bits .xor .u64 ((bits .xor .u64 (m) ((IntKind.u64.wrap (m * 2 ^ (min (13 : Int).toNat (IntKind.bits .u64))))))) ((((bits .xor .u64 (m) ((IntKind.u64.wrap (m * 2 ^ (min (13 : Int).toNat (IntKind.bits .u64))))))).fdiv (2 ^ (min (7 : Int).toNat (IntKind.bits .u64)))))) * 2 ^ (min (17 : Int).toNat (IntKind.bits .u64)))))) = (r : Int) := ⟨((bits .xor .u64 ((bits .xor .u64 ((bits .xor .u64 (m) ((IntKind.u64.wrap (m * 2 ^ (min (13 : Int).toNat (IntKind.bits .u64))))))) ((((bits .xor .u64 (m) ((IntKind.u64.wrap (m * 2 ^ (min (13 : Int).toNat (IntKind.bits .u64))))))).fdiv (2 ^ (min (7 : Int).toNat (IntKind.bits .u64))))))) ((IntKind.u64.wrap ((bits .xor .u64 ((bits .xor .u64 (m) ((IntKind.u64.wrap (m * 2 ^ (min (13 : Int).toNat (IntKind.bits .u64))))))) ((((bits .xor .u64 (m) ((IntKind.u64.wrap (m * 2 ^ (min (13 : Int).toNat (IntKind.bits .u64))))))).fdiv (2 ^ (min (7 : Int).toNat (IntKind.bits .u64)))))) * 2 ^ (min (17 : Int).toNat (IntKind.bits .u64))))))).toNat, by omega⟩
 rw [hrr2] at hrr
 exact ⟨hb, rr, congrArg (Value.int .u64) hrr2, by omega, by have hz := hs; rw [hrr2] at hz; exact hz⟩

end Go.Proofs.Ytmhdbphpmgjpcaa

/- Walks, written by a program: what each function of the translation hands back. -/
namespace Go.Proofs.Ytmhdbphpmgjpcaa
open Go.Gx Go.RowKit
attribute [local irreducible] wpList wpStill Code.wp Calls
open Go.Sort (insertionSort insOuter insInner swp siftDown heapSort heapBuild heapPop scanUp scanDown partition partLoop partitionEqual partEqLoop scanSorted partialIns bitsLen partialInsertionSort shiftDown shiftUp SortedIn reverseRange reverseLoop fixDown fixUp)
theorem order2W_ret (d : Ar) (v : Value) (n B s m : Nat) (a b : Nat) (w : World) (hd : d.size = n) (hn : n ≤ 4000000000000000000) (hv : RdC w 0 B 1 v n (d.toList.map u16v)) (hBs : B ≤ s) (hs : Bx w s 3 [.int .i64 (m : Int)]) (hm : m ≤ 100000) (ha : a < n) (hb2 : b < n) : Ret Try.prog 181 #[v, (Value.int .i64 ((a : Nat) : Int)), (Value.int .i64 ((b : Nat) : Int)), (ptr s 0)] w (fun v' w' => w.grownBy w' (some s) ∧ ∃ x y m' : Nat, v' = .tuple #[.int .i64 (x : Int), .int .i64 (y : Int)] ∧ ((x = a ∧ y = b) ∨ (x = b ∧ y = a)) ∧ m' ≤ m + 1 ∧ Bx w' s 3 [.int .i64 (m' : Int)]) := by
 have hs_lt := hs.lt
 have hb := grown_refl w (some s)
 refine enter (N := 28) Try.func181 rfl rfl (by simp) fun a0 hN hd hA => ?_
 have s0 : a0.tmps.getD 0 undef = v := hA 0 (by simp)
 have s1 : a0.tmps.getD 1 undef = (Value.int .i64 ((a : Nat) : Int)) := hA 1 (by simp)
 have s2 : a0.tmps.getD 2 undef = (Value.int .i64 ((b : Nat) : Int)) := hA 2 (by simp)
 have s3 : a0.tmps.getD 3 undef = (ptr s 0) := hA 3 (by simp)
 clear hA
 refine seq_any fun K1 hK1 => ?_
 refine one_reg ?_
 refine op_assign rfl ?_
 refine op_assign rfl ?_
 refine reg_nil ?_
 refine hK1 _ _ ?_
 refine seq_any fun K2 hK2 => ?_
 refine seq_any fun K3 hK3 => ?_
 refine reg_still mixed (by kernel_rfl) ?_
 intro w5 E4
 have z_w5 := E4.size
 have hv := hv.keep0 E4
 have hs := hs.keep0 E4
 have hb := grow_step0 hb E4
 refine st_step rfl (fun _ h9 => op_move (ev_base hN rfl s0) h9) ?_
 refine st_step rfl (fun _ h9 => op_move (ev_base hN rfl s2) h9) ?_
 refine st_index_rd slt45 (ev_hit hN rfl) hv (ev_hit hN rfl) (by omega) (by omega) ?_
 intro b6 o7 h0b6 h1b6 hc8
 refine st_step rfl (fun _ h9 => op_load1 (v := (Value.int .u16 (d[b]!.toNat : Int))) one46 (ev_hit hN rfl) (by have := hc8 0 (Value.int .u16 (d[b]!.toNat : Int)) (by decide) (el_arr (i := b) (by omega) (by first | omega | (simp only [Array.size_setIfInBounds, swp_sz, siftDown_size]; omega))); simpa using this) h9) ?_
 refine st_step rfl (fun _ h9 => op_move (ev_base hN rfl s0) h9) ?_
 refine st_step rfl (fun _ h9 => op_move (ev_base hN rfl s1) h9) ?_
 refine st_index_rd slt45 (ev_hit hN rfl) hv (ev_hit hN rfl) (by omega) (by omega) ?_
 intro b9 o10 h0b9 h1b9 hc11
 refine st_step rfl (fun _ h9 => op_load1 (v := (Value.int .u16 (d[a]!.toNat : Int))) one46 (ev_hit hN rfl) (by have := hc11 0 (Value.int .u16 (d[a]!.toNat : Int)) (by decide) (el_arr (i := a) (by omega) (by first | omega | (simp only [Array.size_setIfInBounds, swp_sz, siftDown_size]; omega))); simpa using this) h9) ?_
 refine st_fn (vs := [(Value.int .u16 (d[b]!.toNat : Int)), (Value.int .u16 (d[a]!.toNat : Int))]) ok159 (⟨(ev_hit hN rfl), ⟨(ev_hit hN rfl), trivial⟩⟩) (Less16_ret d[b]! d[a]! _) ?_
 refine st_nil ?_
 refine hK3 _ _ ?_
 refine wp_cond_split (ev_hit hN rfl) (fun c18 => ?_) (fun c18 => ?_)
 · -- 18T
  refine seq_any fun K12 hK12 => ?_
  refine one_reg ?_
  refine op_move (ev_base hN rfl s3) ?_
  refine op_nil (ev_hit hN rfl) ?_
  refine op_load1 (v := (Value.int .i64 ((m : Nat) : Int))) one3 (ev_hit hN rfl) (hs.cell rfl) ?_
  refine op_add (r := ((m + 1 : Nat) : Int)) (ev_hit hN rfl) rfl (by rw [IntKind.wrap_i64]; omega) ?_
  refine op_nil (ev_hit hN rfl) ?_
  have hs_old := hs
  refine op_store (vs := [(Value.int .i64 ((m + 1 : Nat) : Int))]) (cs' := [(Value.int .i64 ((m + 1 : Nat) : Int))]) size3 (ev_hit hN rfl) (ev_hit hN rfl) rfl rfl rfl hs (Nat.le_of_ble_eq_true rfl) rfl ?_
  intro w15 hs E16
  have z_w15 := E16.size
  have hv := hv.keep E16 (fun k hk => .inr (by simp at hk; omega))
  have hb := grown_trans hb E16
  refine reg_nil ?_
  refine hK12 _ _ ?_
  refine seq_any fun K17 hK17 => ?_
  refine one_reg ?_
  refine op_move (ev_base hN rfl s2) ?_
  refine op_move (ev_base hN rfl s1) ?_
  refine op_assign (ev_hit hN rfl) ?_
  refine op_assign (ev_hit hN rfl) ?_
  refine reg_nil ?_
  refine hK17 _ _ ?_
  refine wp_ret (then_ret ( ?_))
  refine ret2 rfl hd (ev_hit hN rfl) (ev_hit hN rfl) ⟨_, rfl, ?_⟩
  -- path 18T
  exact ⟨hb, _, _, _, rfl, .inr ⟨rfl, rfl⟩, by omega, hs⟩
 · -- 18F
  refine wp_skip ?_
  refine hK2 _ _ ?_
  refine seq_any fun K18 hK18 => ?_
  refine one_reg ?_
  refine op_move (ev_base hN rfl s1) ?_
  refine op_move (ev_base hN rfl s2) ?_
  refine op_assign (ev_hit hN rfl) ?_
  refine op_assign (ev_hit hN rfl) ?_
  refine reg_nil ?_
  refine hK18 _ _ ?_
  refine wp_ret ?_
  refine ret2 rfl hd (ev_hit hN rfl) (ev_hit hN rfl) ⟨_, rfl, ?_⟩
  -- path 18F
  exact ⟨hb, _, _, _, rfl, .inl ⟨rfl, rfl⟩, by omega, hs⟩

theorem medianW_ret (d : Ar) (v : Value) (n B s m : Nat) (a b c : Nat) (w : World) (hd : d.size = n) (hn : n ≤ 4000000000000000000) (hv : RdC w 0 B 1 v n (d.toList.map u16v)) (hBs : B ≤ s) (hs : Bx w s 3 [.int .i64 (m : Int)]) (hm : m ≤ 90000) (ha : a < n) (hb2 : b < n) (hc2 : c < n) : Ret Try.prog 177 #[v, (Value.int .i64 ((a : Nat) : Int)), (Value.int .i64 ((b : Nat) : Int)), (Value.int .i64 ((c : Nat) : Int)), (ptr s 0)] w (fun v' w' => w.grownBy w' (some s) ∧ ∃ x m' : Nat, v' = .int .i64 (x : Int) ∧ (x = a ∨ x = b ∨ x = c) ∧ m' ≤ m + 3 ∧ Bx w' s 3 [.int .i64 (m' : Int)]) := by
 have hs_lt := hs.lt
 have hb := grown_refl w (some s)
 refine enter (N := 36) Try.func177 rfl rfl (by simp) fun a0 hN hd hA => ?_
 have s0 : a0.tmps.getD 0 undef = v := hA 0 (by simp)
 have s1 : a0.tmps.getD 1 undef = (Value.int .i64 ((a : Nat) : Int)) := hA 1 (by simp)
 have s2 : a0.tmps.getD 2 undef = (Value.int .i64 ((b : Nat) : Int)) := hA 2 (by simp)
 have s3 : a0.tmps.getD 3 undef = (Value.int .i64 ((c : Nat) : Int)) := hA 3 (by simp)
 have s4 : a0.tmps.getD 4 undef = (ptr s 0) := hA 4 (by simp)
 clear hA
 refine seq_any fun K19 hK19 => ?_
 refine one_reg ?_
 refine op_assign rfl ?_
 refine reg_nil ?_
 refine hK19 _ _ ?_
 refine seq_any fun K20 hK20 => ?_
 refine one_reg ?_
 refine op_move (ev_base hN rfl s0) ?_
 refine op_move (ev_base hN rfl s1) ?_
 refine op_move (ev_base hN rfl s2) ?_
 refine op_move (ev_base hN rfl s4) ?_
 refine op_fn (vs := [v, (Value.int .i64 ((a : Nat) : Int)), (Value.int .i64 ((b : Nat) : Int)), (ptr s 0)]) ok181 ⟨(ev_hit hN rfl), ⟨(ev_hit hN rfl), ⟨(ev_hit hN rfl), ⟨(ev_hit hN rfl), trivial⟩⟩⟩⟩ (order2W_ret d v _ B s m a b _ (by first | assumption | (simp only [Array.size_setIfInBounds, swp_sz, siftDown_size]; assumption)) (by omega) hv (by omega) hs (by omega) (by omega) (by omega)) ?_
 rintro _ w22 ⟨E23, x21, y21, m21, rfl, hx21, hm21, hs21⟩
 have hs_old := hs
 have z_w22 := E23.size
 have hv := hv.keep E23 (fun k hk => .inr (by simp at hk; omega))
 have hb := grown_trans hb E23
 refine op_move (ev_hit hN rfl) ?_
 refine op_extract (ev_hit hN rfl) rfl ?_
 refine op_extract (ev_hit hN rfl) rfl ?_
 refine op_assign (ev_hit hN rfl) ?_
 refine op_assign (ev_hit hN rfl) ?_
 refine reg_nil ?_
 refine hK20 _ _ ?_
 refine seq_any fun K24 hK24 => ?_
 refine one_reg ?_
 refine op_move (ev_base hN rfl s0) ?_
 refine op_move (ev_hit hN rfl) ?_
 refine op_move (ev_base hN rfl s3) ?_
 refine op_move (ev_base hN rfl s4) ?_
 refine op_fn (vs := [v, (Value.int .i64 ((y21 : Nat) : Int)), (Value.int .i64 ((c : Nat) : Int)), (ptr s 0)]) ok181 ⟨(ev_hit hN rfl), ⟨(ev_hit hN rfl), ⟨(ev_hit hN rfl), ⟨(ev_hit hN rfl), trivial⟩⟩⟩⟩ (order2W_ret d v _ B s m21 y21 c _ (by first | assumption | (simp only [Array.size_setIfInBounds, swp_sz, siftDown_size]; assumption)) (by omega) hv (by omega) hs21 (by omega) (by omega) (by omega)) ?_
 rintro _ w26 ⟨E27, x25, y25, m25, rfl, hx25, hm25, hs25⟩
 have hs21_old := hs21
 have z_w26 := E27.size
 have hv := hv.keep E27 (fun k hk => .inr (by simp at hk; omega))
 have hb := grown_trans hb E27
 refine op_move (ev_hit hN rfl) ?_
 refine op_extract (ev_hit hN rfl) rfl ?_
 refine op_extract (ev_hit hN rfl) rfl ?_
 refine op_assign (ev_hit hN rfl) ?_
 refine op_assign (ev_hit hN rfl) ?_
 refine reg_nil ?_
 refine hK24 _ _ ?_
 refine seq_any fun K28 hK28 => ?_
 refine one_reg ?_
 refine op_move (ev_base hN rfl s0) ?_
 refine op_move (ev_hit hN rfl) ?_
 refine op_move (ev_hit hN rfl) ?_
 refine op_move (ev_base hN rfl s4) ?_
 refine op_fn (vs := [v, (Value.int .i64 ((x21 : Nat) : Int)), (Value.int .i64 ((x25 : Nat) : Int)), (ptr s 0)]) ok181 ⟨(ev_hit hN rfl), ⟨(ev_hit hN rfl), ⟨(ev_hit hN rfl), ⟨(ev_hit hN rfl), trivial⟩⟩⟩⟩ (order2W_ret d v _ B s m25 x21 x25 _ (by first | assumption | (simp only [Array.size_setIfInBounds, swp_sz, siftDown_size]; assumption)) (by omega) hv (by omega) hs25 (by omega) (by omega) (by omega)) ?_
 rintro _ w30 ⟨E31, x29, y29, m29, rfl, hx29, hm29, hs29⟩
 have hs25_old := hs25
 have z_w30 := E31.size
 have hv := hv.keep E31 (fun k hk => .inr (by simp at hk; omega))
 have hb := grown_trans hb E31
 refine op_move (ev_hit hN rfl) ?_
 refine op_extract (ev_hit hN rfl) rfl ?_
 refine op_extract (ev_hit hN rfl) rfl ?_
 refine op_assign (ev_hit hN rfl) ?_
 refine op_assign (ev_hit hN rfl) ?_
 refine reg_nil ?_
 refine hK28 _ _ ?_
 refine seq_any fun K32 hK32 => ?_
 refine one_reg ?_
 refine op_move (ev_hit hN rfl) ?_
 refine op_assign (ev_hit hN rfl) ?_
 refine reg_nil ?_
 refine hK32 _ _ ?_
 refine wp_ret ?_
 refine ret1 rfl hd (ev_hit hN rfl) ⟨_, rfl, ?_⟩
 -- path
 exact ⟨hb, _, _, rfl, by omega, by omega, hs29⟩

theorem medAdjW_ret (d : Ar) (v : Value) (n B s m : Nat) (a : Nat) (w : World) (hd : d.size = n) (hn : n ≤ 4000000000000000000) (hv : RdC w 0 B 1 v n (d.toList.map u16v)) (hBs : B ≤ s) (hs : Bx w s 3 [.int .i64 (m : Int)]) (hm : m ≤ 80000) (h1 : 1 ≤ a) (ha : a + 1 < n) : Ret Try.prog 176 #[v, (Value.int .i64 ((a : Nat) : Int)), (ptr s 0)] w (fun v' w' => w.grownBy w' (some s) ∧ ∃ x m' : Nat, v' = .int .i64 (x : Int) ∧ (x = a - 1 ∨ x = a ∨ x = a + 1) ∧ m' ≤ m + 3 ∧ Bx w' s 3 [.int .i64 (m' : Int)]) := by
 have hs_lt := hs.lt
 have hb := grown_refl w (some s)
 refine enter (N := 15) Try.func176 rfl rfl (by simp) fun a0 hN hd hA => ?_
 have s0 : a0.tmps.getD 0 undef = v := hA 0 (by simp)
 have s1 : a0.tmps.getD 1 undef = (Value.int .i64 ((a : Nat) : Int)) := hA 1 (by simp)
 have s2 : a0.tmps.getD 2 undef = (ptr s 0) := hA 2 (by simp)
 clear hA
 refine seq_any fun K33 hK33 => ?_
 refine one_reg ?_
 refine op_assign rfl ?_
 refine reg_nil ?_
 refine hK33 _ _ ?_
 refine seq_any fun K34 hK34 => ?_
 refine one_reg ?_
 refine op_move (ev_base hN rfl s0) ?_
 refine op_move (ev_base hN rfl s1) ?_
 refine op_sub (r := ((a - 1 : Nat) : Int)) (ev_hit hN rfl) rfl (by rw [IntKind.wrap_i64]; omega) ?_
 refine op_move (ev_base hN rfl s1) ?_
 refine op_move (ev_base hN rfl s1) ?_
 refine op_add (ev_hit hN rfl) rfl (add64 (by omega)) ?_
 refine op_move (ev_base hN rfl s2) ?_
 refine op_fn (vs := [v, (Value.int .i64 ((a - 1 : Nat) : Int)), (Value.int .i64 ((a : Nat) : Int)), (Value.int .i64 (((a : Nat) : Int) + 1)), (ptr s 0)]) ok177 ⟨(ev_hit hN rfl), ⟨(ev_hit hN rfl), ⟨(ev_hit hN rfl), ⟨(ev_hit hN rfl), ⟨(ev_hit hN rfl), trivial⟩⟩⟩⟩⟩ (medianW_ret d v _ B s m (a - 1) a (a + 1) _ (by first | assumption | (simp only [Array.size_setIfInBounds, swp_sz, siftDown_size]; assumption)) (by omega) hv (by omega) hs (by omega) (by omega) (by omega) (by omega)) ?_
 rintro _ w36 ⟨E37, x35, m35, rfl, hx35, hm35, hs35⟩
 have hs_old := hs
 have z_w36 := E37.size
 have hv := hv.keep E37 (fun k hk => .inr (by simp at hk; omega))
 have hb := grown_trans hb E37
 refine op_assign (ev_hit hN rfl) ?_
 refine reg_nil ?_
 refine hK34 _ _ ?_
 refine wp_ret ?_
 refine ret1 rfl hd (ev_hit hN rfl) ⟨_, rfl, ?_⟩
 -- path
 exact ⟨hb, _, _, rfl, by omega, by omega, hs35⟩

set_option maxHeartbeats 2000000 in
theorem choosePW_ret (d : Ar) (v : Value) (n a b : Nat) (w : World) (hd : d.size = n) (hn : n ≤ 4000000000000000000) (hv : RdC w 0 w.heap.size 1 v n (d.toList.map u16v)) (hab : a < b) (hbn : b ≤ n) : Ret Try.prog 156 #[v, (Value.int .i64 ((a : Nat) : Int)), (Value.int .i64 ((b : Nat) : Int))] w (fun v' w' => Below w.heap.size w w' ∧ ∃ (x : Nat) (h : Int), v' = .tuple #[.int .i64 (x : Int), .int .i64 h] ∧ a ≤ x ∧ x < b) := by
 have hb := Below.refl w.heap.size w
 refine enter (N := 57) Try.func156 rfl rfl (by simp) fun a0 hN hd hA => ?_
 have s0 : a0.tmps.getD 0 undef = v := hA 0 (by simp)
 have s1 : a0.tmps.getD 1 undef = (Value.int .i64 ((a : Nat) : Int)) := hA 1 (by simp)
 have s2 : a0.tmps.getD 2 undef = (Value.int .i64 ((b : Nat) : Int)) := hA 2 (by simp)
 clear hA
 refine seq_any fun K38 hK38 => ?_
 refine one_reg ?_
 refine op_assign rfl ?_
 refine op_assign rfl ?_
 refine reg_nil ?_
 refine hK38 _ _ ?_
 refine seq_any fun K39 hK39 => ?_
 refine one_reg ?_
 refine op_move (ev_base hN rfl s2) ?_
 refine op_move (ev_base hN rfl s1) ?_
 refine op_sub (r := ((b - a : Nat) : Int)) (ev_hit hN rfl) (ev_hit hN rfl) (by rw [IntKind.wrap_i64]; omega) ?_
 refine op_assign (ev_hit hN rfl) ?_
 refine reg_nil ?_
 refine hK39 _ _ ?_
 refine seq_any fun K40 hK40 => ?_
 refine one_reg ?_
 refine op_alloc (cs := [(Value.int .i64 0)]) zero3 rfl ?_
 intro w41 b42 lo_b42 hi_b42 hB44 E43
 have z_w41 := E43.size
 have hv := hv.keep0 E43
 have hb := below_step0 hb E43 hb.size
 refine reg_nil ?_
 refine hK40 _ _ ?_
 refine seq_any fun K45 hK45 => ?_
 refine one_reg ?_
 refine op_move (ev_base hN rfl s1) ?_
 refine op_move (ev_hit hN rfl) ?_
 refine op_quo (r := ((((b - a) / 4) : Nat) : Int)) (ev_hit hN rfl) rfl (by decide) (by rw [IntKind.wrap_i64, Int.tdiv_eq_ediv_of_nonneg (by omega)]; omega) ?_
 refine op_mul (ev_hit hN rfl) rfl (mul64 (by omega)) ?_
 refine op_add (ev_hit hN rfl) (ev_hit hN rfl) (add64 (by omega)) ?_
 refine op_assign (ev_hit hN rfl) ?_
 refine reg_nil ?_
 refine hK45 _ _ ?_
 refine seq_any fun K46 hK46 => ?_
 refine one_reg ?_
 refine op_move (ev_base hN rfl s1) ?_
 refine op_move (ev_hit hN rfl) ?_
 refine op_quo (r := ((((b - a) / 4) : Nat) : Int)) (ev_hit hN rfl) rfl (by decide) (by rw [IntKind.wrap_i64, Int.tdiv_eq_ediv_of_nonneg (by omega)]; omega) ?_
 refine op_mul (ev_hit hN rfl) rfl (mul64 (by omega)) ?_
 refine op_add (ev_hit hN rfl) (ev_hit hN rfl) (add64 (by omega)) ?_
 refine op_assign (ev_hit hN rfl) ?_
 refine reg_nil ?_
 refine hK46 _ _ ?_
 refine seq_any fun K47 hK47 => ?_
 refine one_reg ?_
 refine op_move (ev_base hN rfl s1) ?_
 refine op_move (ev_hit hN rfl) ?_
 refine op_quo (r := ((((b - a) / 4) : Nat) : Int)) (ev_hit hN rfl) rfl (by decide) (by rw [IntKind.wrap_i64, Int.tdiv_eq_ediv_of_nonneg (by omega)]; omega) ?_
 refine op_mul (ev_hit hN rfl) rfl (mul64 (by omega)) ?_
 refine op_add (ev_hit hN rfl) (ev_hit hN rfl) (add64 (by omega)) ?_
 refine op_assign (ev_hit hN rfl) ?_
 refine reg_nil ?_
 refine hK47 _ _ ?_
 refine seq_any fun K48 hK48 => ?_
 refine seq_any fun K49 hK49 => ?_
 refine one_reg ?_
 refine op_move (ev_hit hN rfl) ?_
 refine op_geq (ev_hit hN rfl) rfl (fun c32 => ?_) (fun c32 => ?_)
 · -- 32T
  refine reg_nil ?_
  refine hK49 _ _ ?_
  refine wp_cond_true (ev_hit hN rfl) ?_
  refine seq_any fun K50 hK50 => ?_
  refine seq_any fun K51 hK51 => ?_
  refine one_reg ?_
  refine op_move (ev_hit hN rfl) ?_
  refine op_geq (ev_hit hN rfl) rfl (fun c34 => ?_) (fun c34 => ?_)
  · -- 34T
   refine reg_nil ?_
   refine hK51 _ _ ?_
   refine wp_cond_true (ev_hit hN rfl) ?_
   refine seq_any fun K52 hK52 => ?_
   refine one_reg ?_
   refine op_move (ev_base hN rfl s0) ?_
   refine op_move (ev_hit hN rfl) ?_
   refine op_fn (vs := [v, (Value.int .i64 (((a : Nat) : Int) + (((((b - a) / 4) : Nat) : Int) * 1))), (ptr b42 0)]) ok176 ⟨(ev_hit hN rfl), ⟨(ev_hit hN rfl), ⟨(ev_hit hN rfl), trivial⟩⟩⟩ (medAdjW_ret d v _ w.heap.size b42 0 (a + (((b - a) / 4) * 1)) _ (by first | assumption | (simp only [Array.size_setIfInBounds, swp_sz, siftDown_size]; assumption)) (by omega) hv (by omega) hB44 (by omega) (by omega) (by omega)) ?_
   rintro _ w54 ⟨E55, x53, m53, rfl, hx53, hm53, hs53⟩
   have hB44_old := hB44
   have z_w54 := E55.size
   have hv := hv.keep E55 (fun k hk => .inr (by simp at hk; omega))
   have hb := below_step1 hb E55 hb.size (by omega)
   refine op_assign (ev_hit hN rfl) ?_
   refine reg_nil ?_
   refine hK52 _ _ ?_
   refine seq_any fun K56 hK56 => ?_
   refine one_reg ?_
   refine op_move (ev_base hN rfl s0) ?_
   refine op_move (ev_hit hN rfl) ?_
   refine op_fn (vs := [v, (Value.int .i64 (((a : Nat) : Int) + (((((b - a) / 4) : Nat) : Int) * 2))), (ptr b42 0)]) ok176 ⟨(ev_hit hN rfl), ⟨(ev_hit hN rfl), ⟨(ev_hit hN rfl), trivial⟩⟩⟩ (medAdjW_ret d v _ w.heap.size b42 m53 (a + (((b - a) / 4) * 2)) _ (by first | assumption | (simp only [Array.size_setIfInBounds, swp_sz, siftDown_size]; assumption)) (by omega) hv (by omega) hs53 (by omega) (by omega) (by omega)) ?_
   rintro _ w58 ⟨E59, x57, m57, rfl, hx57, hm57, hs57⟩
   have hs53_old := hs53
   have z_w58 := E59.size
   have hv := hv.keep E59 (fun k hk => .inr (by simp at hk; omega))
   have hb := below_step1 hb E59 hb.size (by omega)
   refine op_assign (ev_hit hN rfl) ?_
   refine reg_nil ?_
   refine hK56 _ _ ?_
   refine one_reg ?_
   refine op_move (ev_base hN rfl s0) ?_
   refine op_move (ev_hit hN rfl) ?_
   refine op_fn (vs := [v, (Value.int .i64 (((a : Nat) : Int) + (((((b - a) / 4) : Nat) : Int) * 3))), (ptr b42 0)]) ok176 ⟨(ev_hit hN rfl), ⟨(ev_hit hN rfl), ⟨(ev_hit hN rfl), trivial⟩⟩⟩ (medAdjW_ret d v _ w.heap.size b42 m57 (a + (((b - a) / 4) * 3)) _ (by first | assumption | (simp only [Array.size_setIfInBounds, swp_sz, siftDown_size]; assumption)) (by omega) hv (by omega) hs57 (by omega) (by omega) (by omega)) ?_
   rintro _ w61 ⟨E62, x60, m60, rfl, hx60, hm60, hs60⟩
   have hs57_old := hs57
   have z_w61 := E62.size
   have hv := hv.keep E62 (fun k hk => .inr (by simp at hk; omega))
   have hb := below_step1 hb E62 hb.size (by omega)
   refine op_assign (ev_hit hN rfl) ?_
   refine reg_nil ?_
   refine hK50 _ _ ?_
   refine one_reg ?_
   refine op_move (ev_base hN rfl s0) ?_
   refine op_move (ev_hit hN rfl) ?_
   refine op_move (ev_hit hN rfl) ?_
   refine op_move (ev_hit hN rfl) ?_
   refine op_fn (vs := [v, (Value.int .i64 ((x53 : Nat) : Int)), (Value.int .i64 ((x57 : Nat) : Int)), (Value.int .i64 ((x60 : Nat) : Int)), (ptr b42 0)]) ok177 ⟨(ev_hit hN rfl), ⟨(ev_hit hN rfl), ⟨(ev_hit hN rfl), ⟨(ev_hit hN rfl), ⟨(ev_hit hN rfl), trivial⟩⟩⟩⟩⟩ (medianW_ret d v _ w.heap.size b42 m60 x53 x57 x60 _ (by first | assumption | (simp only [Array.size_setIfInBounds, swp_sz, siftDown_size]; assumption)) (by omega) hv (by omega) hs60 (by omega) (by omega) (by omega) (by omega)) ?_
   rintro _ w64 ⟨E65, x63, m63, rfl, hx63, hm63, hs63⟩
   have hs60_old := hs60
   have z_w64 := E65.size
   have hv := hv.keep E65 (fun k hk => .inr (by simp at hk; omega))
   have hb := below_step1 hb E65 hb.size (by omega)
   refine op_assign (ev_hit hN rfl) ?_
   refine reg_nil ?_
   refine hK48 _ _ ?_
   refine seq_any fun K66 hK66 => ?_
   refine one_reg ?_
   refine op_load1 (v := (Value.int .i64 ((m63 : Nat) : Int))) one3 (ev_hit hN rfl) (hs63.cell rfl) ?_
   refine reg_nil ?_
   refine hK66 _ _ ?_
   refine wp_block ?_
   refine seq_any fun K67 hK67 => ?_
   refine one_reg ?_
   refine op_eql (ev_hit hN rfl) rfl (fun c52 => ?_) (fun c52 => ?_)
   · -- 52T
    refine op_assign (ev_hit hN rfl) ?_
    refine reg_nil ?_
    refine hK67 _ _ ?_
    refine wp_cond_true (ev_hit hN rfl) ?_
    refine seq_any fun K68 hK68 => ?_
    refine one_reg ?_
    refine op_move (ev_hit hN rfl) ?_
    refine op_assign (ev_hit hN rfl) ?_
    refine op_assign rfl ?_
    refine reg_nil ?_
    refine hK68 _ _ ?_
    refine wp_ret (blk_ret ( ?_))
    refine ret2 rfl hd (ev_hit hN rfl) (ev_hit hN rfl) ⟨_, rfl, ?_⟩
    -- path 32T 34T 52T
    exact ⟨hb, x63, _, congrArg (fun q : Int => Value.tuple #[.int .i64 q, _]) (by omega), by omega, by omega⟩
   · -- 52F
    refine op_assign (ev_hit hN rfl) ?_
    refine reg_nil ?_
    refine hK67 _ _ ?_
    refine wp_cond_false (ev_hit hN rfl) ?_
    refine seq_any fun K69 hK69 => ?_
    refine one_reg ?_
    refine op_eql (ev_hit hN rfl) rfl (fun c55 => ?_) (fun c55 => ?_)
    · -- 55T
     refine op_assign (ev_hit hN rfl) ?_
     refine reg_nil ?_
     refine hK69 _ _ ?_
     refine wp_cond_true (ev_hit hN rfl) ?_
     refine seq_any fun K70 hK70 => ?_
     refine one_reg ?_
     refine op_move (ev_hit hN rfl) ?_
     refine op_assign (ev_hit hN rfl) ?_
     refine op_assign rfl ?_
     refine reg_nil ?_
     refine hK70 _ _ ?_
     refine wp_ret (blk_ret ( ?_))
     refine ret2 rfl hd (ev_hit hN rfl) (ev_hit hN rfl) ⟨_, rfl, ?_⟩
     -- path 32T 34T 52F 55T
     exact ⟨hb, x63, _, congrArg (fun q : Int => Value.tuple #[.int .i64 q, _]) (by omega), by omega, by omega⟩
    · -- 55F
     refine op_assign (ev_hit hN rfl) ?_
     refine reg_nil ?_
     refine hK69 _ _ ?_
     refine wp_cond_false (ev_hit hN rfl) ?_
     refine seq_any fun K71 hK71 => ?_
     refine one_reg ?_
     refine op_move (ev_hit hN rfl) ?_
     refine op_assign (ev_hit hN rfl) ?_
     refine op_assign rfl ?_
     refine reg_nil ?_
     refine hK71 _ _ ?_
     refine wp_ret (blk_ret ( ?_))
     refine ret2 rfl hd (ev_hit hN rfl) (ev_hit hN rfl) ⟨_, rfl, ?_⟩
     -- path 32T 34T 52F 55F
     exact ⟨hb, x63, _, congrArg (fun q : Int => Value.tuple #[.int .i64 q, _]) (by omega), by omega, by omega⟩
  · -- 34F
   refine reg_nil ?_
   refine hK51 _ _ ?_
   refine wp_cond_false (ev_hit hN rfl) ?_
   refine wp_skip ?_
   refine hK50 _ _ ?_
   refine one_reg ?_
   refine op_move (ev_base hN rfl s0) ?_
   refine op_move (ev_hit hN rfl) ?_
   refine op_move (ev_hit hN rfl) ?_
   refine op_move (ev_hit hN rfl) ?_
   refine op_fn (vs := [v, (Value.int .i64 (((a : Nat) : Int) + (((((b - a) / 4) : Nat) : Int) * 1))), (Value.int .i64 (((a : Nat) : Int) + (((((b - a) / 4) : Nat) : Int) * 2))), (Value.int .i64 (((a : Nat) : Int) + (((((b - a) / 4) : Nat) : Int) * 3))), (ptr b42 0)]) ok177 ⟨(ev_hit hN rfl), ⟨(ev_hit hN rfl), ⟨(ev_hit hN rfl), ⟨(ev_hit hN rfl), ⟨(ev_hit hN rfl), trivial⟩⟩⟩⟩⟩ (medianW_ret d v _ w.heap.size b42 0 (a + (((b - a) / 4) * 1)) (a + (((b - a) / 4) * 2)) (a + (((b - a) / 4) * 3)) _ (by first | assumption | (simp only [Array.size_setIfInBounds, swp_sz, siftDown_size]; assumption)) (by omega) hv (by omega) hB44 (by omega) (by omega) (by omega) (by omega)) ?_
   rintro _ w73 ⟨E74, x72, m72, rfl, hx72, hm72, hs72⟩
   have hB44_old := hB44
   have z_w73 := E74.size
   have hv := hv.keep E74 (fun k hk => .inr (by simp at hk; omega))
   have hb := below_step1 hb E74 hb.size (by omega)
   refine op_assign (ev_hit hN rfl) ?_
   refine reg_nil ?_
   refine hK48 _ _ ?_
   refine seq_any fun K75 hK75 => ?_
   refine one_reg ?_
   refine op_load1 (v := (Value.int .i64 ((m72 : Nat) : Int))) one3 (ev_hit hN rfl) (hs72.cell rfl) ?_
   refine reg_nil ?_
   refine hK75 _ _ ?_
   refine wp_block ?_
   refine seq_any fun K76 hK76 => ?_
   refine one_reg ?_
   refine op_eql (ev_hit hN rfl) rfl (fun c52 => ?_) (fun c52 => ?_)
   · -- 52T
    refine op_assign (ev_hit hN rfl) ?_
    refine reg_nil ?_
    refine hK76 _ _ ?_
    refine wp_cond_true (ev_hit hN rfl) ?_
    refine seq_any fun K77 hK77 => ?_
    refine one_reg ?_
    refine op_move (ev_hit hN rfl) ?_
    refine op_assign (ev_hit hN rfl) ?_
    refine op_assign rfl ?_
    refine reg_nil ?_
    refine hK77 _ _ ?_
    refine wp_ret (blk_ret ( ?_))
    refine ret2 rfl hd (ev_hit hN rfl) (ev_hit hN rfl) ⟨_, rfl, ?_⟩
    -- path 32T 34F 52T
    exact ⟨hb, x72, _, congrArg (fun q : Int => Value.tuple #[.int .i64 q, _]) (by omega), by omega, by omega⟩
   · -- 52F
    refine op_assign (ev_hit hN rfl) ?_
    refine reg_nil ?_
    refine hK76 _ _ ?_
    refine wp_cond_false (ev_hit hN rfl) ?_
    refine seq_any fun K78 hK78 => ?_
    refine one_reg ?_
    refine op_eql (ev_hit hN rfl) rfl (fun c55 => ?_) (fun c55 => ?_)
    · -- 55T
     refine op_assign (ev_hit hN rfl) ?_
     refine reg_nil ?_
     refine hK78 _ _ ?_
     refine wp_cond_true (ev_hit hN rfl) ?_
     refine seq_any fun K79 hK79 => ?_
     refine one_reg ?_
     refine op_move (ev_hit hN rfl) ?_
     refine op_assign (ev_hit hN rfl) ?_
     refine op_assign rfl ?_
     refine reg_nil ?_
     refine hK79 _ _ ?_
     refine wp_ret (blk_ret ( ?_))
     refine ret2 rfl hd (ev_hit hN rfl) (ev_hit hN rfl) ⟨_, rfl, ?_⟩
     -- path 32T 34F 52F 55T
     exact ⟨hb, x72, _, congrArg (fun q : Int => Value.tuple #[.int .i64 q, _]) (by omega), by omega, by omega⟩
    · -- 55F
     refine op_assign (ev_hit hN rfl) ?_
     refine reg_nil ?_
     refine hK78 _ _ ?_
     refine wp_cond_false (ev_hit hN rfl) ?_
     refine seq_any fun K80 hK80 => ?_
     refine one_reg ?_
     refine op_move (ev_hit hN rfl) ?_
     refine op_assign (ev_hit hN rfl) ?_
     refine op_assign rfl ?_
     refine reg_nil ?_
     refine hK80 _ _ ?_
     refine wp_ret (blk_ret ( ?_))
     refine ret2 rfl hd (ev_hit hN rfl) (ev_hit hN rfl) ⟨_, rfl, ?_⟩
     -- path 32T 34F 52F 55F
     exact ⟨hb, x72, _, congrArg (fun q : Int => Value.tuple #[.int .i64 q, _]) (by omega), by omega, by omega⟩
 · -- 32F
  refine reg_nil ?_
  refine hK49 _ _ ?_
  refine wp_cond_false (ev_hit hN rfl) ?_
  refine wp_skip ?_
  refine hK48 _ _ ?_
  refine seq_any fun K81 hK81 => ?_
  refine one_reg ?_
  refine op_load1 (v := (Value.int .i64 0)) one3 (ev_hit hN rfl) (hB44.cell rfl) ?_
  refine reg_nil ?_
  refine hK81 _ _ ?_
  refine wp_block ?_
  refine seq_any fun K82 hK82 => ?_
  refine one_reg ?_
  refine op_bin (v := .bool true) (ev_hit hN rfl) rfl (by rw [binOp_eql]; rfl) ?_
  refine op_assign (ev_hit hN rfl) ?_
  refine reg_nil ?_
  refine hK82 _ _ ?_
  refine wp_cond_true (ev_hit hN rfl) ?_
  refine seq_any fun K83 hK83 => ?_
  refine one_reg ?_
  refine op_move (ev_hit hN rfl) ?_
  refine op_assign (ev_hit hN rfl) ?_
  refine op_assign rfl ?_
  refine reg_nil ?_
  refine hK83 _ _ ?_
  refine wp_ret (blk_ret ( ?_))
  refine ret2 rfl hd (ev_hit hN rfl) (ev_hit hN rfl) ⟨_, rfl, ?_⟩
  -- path 32F
  exact ⟨hb, (a + (((b - a) / 4) * 2)), _, congrArg (fun q : Int => Value.tuple #[.int .i64 q, _]) (by omega), by omega, by omega⟩

end Go.Proofs.Ytmhdbphpmgjpcaa

/- Walks, written by a program: what each function of the translation hands back. -/
namespace Go.Proofs.Ytmhdbphpmgjpcaa
open Go.Gx Go.RowKit
attribute [local irreducible] wpList wpStill Code.wp Calls
open Go.Sort (insertionSort insOuter insInner swp siftDown heapSort heapBuild heapPop scanUp scanDown partition partLoop partitionEqual partEqLoop scanSorted partialIns bitsLen partialInsertionSort shiftDown shiftUp SortedIn reverseRange reverseLoop fixDown fixUp)
set_option maxHeartbeats 2000000 in
theorem partEqW_ret (d : Ar) (v : Value) (n base : Nat) (a b pv : Nat) (w : World) (hd : d.size = n) (hn : n ≤ 4000000000000000000) (O : Own w base 46 1 v n (d.toList.map u16v)) (hap : a ≤ pv) (hpb : pv < b) (hbn : b ≤ n) : Ret Try.prog 160 #[v, (Value.int .i64 ((a : Nat) : Int)), (Value.int .i64 ((b : Nat) : Int)), (Value.int .i64 ((pv : Nat) : Int))] w (fun v' w' => w.grownBy w' v.ownBlock ∧ v' = .int .i64 ((partitionEqual ltT d a b pv).1 : Int) ∧ Own w' base 46 1 v n ((partitionEqual ltT d a b pv).2.toList.map u16v)) := by
 have hb := grown_refl w v.ownBlock
 refine enter (N := 84) Try.func160 rfl rfl (by simp) fun a0 hN hd hA => ?_
 have s0 : a0.tmps.getD 0 undef = v := hA 0 (by simp)
 have s1 : a0.tmps.getD 1 undef = (Value.int .i64 ((a : Nat) : Int)) := hA 1 (by simp)
 have s2 : a0.tmps.getD 2 undef = (Value.int .i64 ((b : Nat) : Int)) := hA 2 (by simp)
 have s3 : a0.tmps.getD 3 undef = (Value.int .i64 ((pv : Nat) : Int)) := hA 3 (by simp)
 clear hA
 refine seq_any fun K1 hK1 => ?_
 refine one_reg ?_
 refine op_assign rfl ?_
 refine reg_nil ?_
 refine hK1 _ _ ?_
 refine seq_any fun K2 hK2 => ?_
 refine reg_mid (e := 46) (sz := 1) (base := base) (n := n) (v := v) (Φ := phiL [(fun uz _ => uz = v), (fun uz _ => uz = (Value.int .i64 ((a : Nat) : Int))), (fun uz _ => uz = v), (fun uz _ => uz = (Value.int .i64 ((pv : Nat) : Int))), (fun uz _ => uz = v), (fun uz _ => uz = (Value.int .i64 ((pv : Nat) : Int))), (fun uz _ => ∃ bz oz, uz = ptr bz oz ∧ AtV v pv bz oz), (fun uz _ => uz = (Value.int .u16 (d[pv]!.toNat : Int))), (fun uz _ => uz = v), (fun uz _ => uz = (Value.int .i64 ((a : Nat) : Int))), (fun uz _ => ∃ bz oz, uz = ptr bz oz ∧ AtV v a bz oz), (fun uz _ => uz = (Value.int .u16 (d[a]!.toNat : Int))), (fun uz _ => ∃ bz oz, uz = ptr bz oz ∧ AtV v a bz oz), (fun _ _ => True), (fun uz _ => ∃ bz oz, uz = ptr bz oz ∧ AtV v pv bz oz), (fun _ _ => True)]) [13, 15] [(d.toList.map u16v), ((d.setIfInBounds a d[pv]!).toList.map u16v), (((d.setIfInBounds a d[pv]!).setIfInBounds pv d[a]!).toList.map u16v)] mixed (by kernel_rfl) (by kernel_rfl) (by kernel_rfl) (by kernel_rfl) hN O (StL.get (StL.eq (StL.eq (StL.eq (StL.eq (StL.eq (StL.eq (StL.at (StL.eq (StL.eq (StL.eq (StL.at (StL.eq (StL.at (StL.cons (fun _ _ _ _ h => h) (StL.at (StL.cons (fun _ _ _ _ h => h) (StL.nil _)))))))))))))))))) (ObRs.get (ObRs.cons ?_ (ObRs.cons ?_ (ObRs.cons ?_ (ObRs.cons ?_ (ObRs.cons ?_ (ObRs.cons ?_ (ObRs.cons ?_ (ObRs.cons ?_ (ObRs.cons ?_ (ObRs.cons ?_ (ObRs.cons ?_ (ObRs.cons ?_ (ObRs.cons ?_ (ObRs.pass rfl (ObRs.cons ?_ (ObRs.pass rfl (ObRs.nil)))))))))))))))))) (ObWs.get (ObWs.cons ?_ (ObWs.cons ?_ (ObWs.nil)))) ?_
 ·
  intro aA wA cA hNA hRA hckA hOA hbsA hdpA
  have qA_0 := (hbsA 0 rfl).trans (sl_base hN rfl s0)
  clear hbsA hdpA
  refine op_move (ev_base hNA rfl qA_0) ?_
  exact obR_end rfl rfl (grown_refl _ _)
 ·
  intro aA wA cA hNA hRA hckA hOA hbsA hdpA
  have qA_1 := (hbsA 1 rfl).trans (sl_base hN rfl s1)
  clear hbsA hdpA
  refine op_move (ev_base hNA rfl qA_1) ?_
  exact obR_end rfl rfl (grown_refl _ _)
 ·
  intro aA wA cA hNA hRA hckA hOA hbsA hdpA
  have qA_0 := (hbsA 0 rfl).trans (sl_base hN rfl s0)
  clear hbsA hdpA
  refine op_move (ev_base hNA rfl qA_0) ?_
  exact obR_end rfl rfl (grown_refl _ _)
 ·
  intro aA wA cA hNA hRA hckA hOA hbsA hdpA
  have qA_3 := (hbsA 3 rfl).trans (sl_base hN rfl s3)
  clear hbsA hdpA
  refine op_move (ev_base hNA rfl qA_3) ?_
  exact obR_end rfl rfl (grown_refl _ _)
 ·
  intro aA wA cA hNA hRA hckA hOA hbsA hdpA
  have qA_0 := (hbsA 0 rfl).trans (sl_base hN rfl s0)
  clear hbsA hdpA
  refine op_move (ev_base hNA rfl qA_0) ?_
  exact obR_end rfl rfl (grown_refl _ _)
 ·
  intro aA wA cA hNA hRA hckA hOA hbsA hdpA
  have qA_3 := (hbsA 3 rfl).trans (sl_base hN rfl s3)
  clear hbsA hdpA
  refine op_move (ev_base hNA rfl qA_3) ?_
  exact obR_end rfl rfl (grown_refl _ _)
 ·
  intro aA wA cA hNA hRA hckA hOA hbsA hdpA
  have qA_15 : Sl aA 15 v := hdpA 4 _ 15 (by kernel_rfl) rfl rfl
  have qA_16 : Sl aA 16 (Value.int .i64 ((pv : Nat) : Int)) := hdpA 5 _ 16 (by kernel_rfl) rfl rfl
  clear hbsA hdpA
  refine op_index_own (i := pv) slt45 (ev_base hNA rfl qA_15) hOA (ev_base hNA rfl qA_16) (by omega) (by omega) ?_
  intro b_ o_ _ hA_
  exact obR_end rfl ⟨b_, o_, rfl, by simpa using hA_⟩ (grown_refl _ _)
 ·
  intro aA wA cA hNA hRA hckA hOA hbsA hdpA
  obtain ⟨bA_17, oA_17, qA_17, hAA_17⟩ := hdpA 6 _ 17 (by kernel_rfl) rfl rfl
  clear hbsA hdpA
  obtain rfl : cA = 0 := Nat.le_zero.1 (hckA 0 13 rfl (by kernel_rfl))
  have hOA : Own wA base 46 1 v n (d.toList.map u16v) := hOA
  refine op_load1 (v := (Value.int .u16 (d[pv]!.toNat : Int))) one46 (ev_base hNA rfl qA_17) (by have := hOA.cellAt hAA_17 0 _ (el_at (i := pv) (by first | omega | (simp only [Array.size_setIfInBounds, swp_sz, siftDown_size]; omega))); simpa using this) ?_
  exact obR_end rfl rfl (grown_refl _ _)
 ·
  intro aA wA cA hNA hRA hckA hOA hbsA hdpA
  have qA_0 := (hbsA 0 rfl).trans (sl_base hN rfl s0)
  clear hbsA hdpA
  refine op_move (ev_base hNA rfl qA_0) ?_
  exact obR_end rfl rfl (grown_refl _ _)
 ·
  intro aA wA cA hNA hRA hckA hOA hbsA hdpA
  have qA_1 := (hbsA 1 rfl).trans (sl_base hN rfl s1)
  clear hbsA hdpA
  refine op_move (ev_base hNA rfl qA_1) ?_
  exact obR_end rfl rfl (grown_refl _ _)
 ·
  intro aA wA cA hNA hRA hckA hOA hbsA hdpA
  have qA_19 : Sl aA 19 v := hdpA 8 _ 19 (by kernel_rfl) rfl rfl
  have qA_20 : Sl aA 20 (Value.int .i64 ((a : Nat) : Int)) := hdpA 9 _ 20 (by kernel_rfl) rfl rfl
  clear hbsA hdpA
  refine op_index_own (i := a) slt45 (ev_base hNA rfl qA_19) hOA (ev_base hNA rfl qA_20) (by omega) (by omega) ?_
  intro b_ o_ _ hA_
  exact obR_end rfl ⟨b_, o_, rfl, by simpa using hA_⟩ (grown_refl _ _)
 ·
  intro aA wA cA hNA hRA hckA hOA hbsA hdpA
  obtain ⟨bA_21, oA_21, qA_21, hAA_21⟩ := hdpA 10 _ 21 (by kernel_rfl) rfl rfl
  clear hbsA hdpA
  obtain rfl : cA = 0 := Nat.le_zero.1 (hckA 0 13 rfl (by kernel_rfl))
  have hOA : Own wA base 46 1 v n (d.toList.map u16v) := hOA
  refine op_load1 (v := (Value.int .u16 (d[a]!.toNat : Int))) one46 (ev_base hNA rfl qA_21) (by have := hOA.cellAt hAA_21 0 _ (el_at (i := a) (by first | omega | (simp only [Array.size_setIfInBounds, swp_sz, siftDown_size]; omega))); simpa using this) ?_
  exact obR_end rfl rfl (grown_refl _ _)
 ·
  intro aA wA cA hNA hRA hckA hOA hbsA hdpA
  have qA_11 : Sl aA 11 v := hdpA 0 _ 11 (by kernel_rfl) rfl rfl
  have qA_12 : Sl aA 12 (Value.int .i64 ((a : Nat) : Int)) := hdpA 1 _ 12 (by kernel_rfl) rfl rfl
  clear hbsA hdpA
  refine op_index_own (i := a) slt45 (ev_base hNA rfl qA_11) hOA (ev_base hNA rfl qA_12) (by omega) (by omega) ?_
  intro b_ o_ _ hA_
  exact obR_end rfl ⟨b_, o_, rfl, by simpa using hA_⟩ (grown_refl _ _)
 ·
  intro aA wA cA hNA hRA hckA hOA hbsA hdpA
  have qA_13 : Sl aA 13 v := hdpA 2 _ 13 (by kernel_rfl) rfl rfl
  have qA_14 : Sl aA 14 (Value.int .i64 ((pv : Nat) : Int)) := hdpA 3 _ 14 (by kernel_rfl) rfl rfl
  clear hbsA hdpA
  refine op_index_own (i := pv) slt45 (ev_base hNA rfl qA_13) hOA (ev_base hNA rfl qA_14) (by omega) (by omega) ?_
  intro b_ o_ _ hA_
  exact obR_end rfl ⟨b_, o_, rfl, by simpa using hA_⟩ (grown_refl _ _)
 ·
  intro o_ ho_; obtain rfl := Option.some.inj ho_; intro aA wA hNA hRA hbsA hdpA hOA
  obtain ⟨bA_23, oA_23, qA_23, hAA_23⟩ := hdpA 12 _ 23 (by kernel_rfl) rfl rfl
  have qA_18 : Sl aA 18 (Value.int .u16 (d[pv]!.toNat : Int)) := hdpA 7 _ 18 (by kernel_rfl) rfl rfl
  clear hbsA hdpA
  have hOA : Own wA base 46 1 v n (d.toList.map u16v) := hOA
  refine op_store_own (vs := [(Value.int .u16 (d[pv]!.toNat : Int))]) size46 (ev_base hNA rfl qA_23) (ev_base hNA rfl qA_18) rfl rfl rfl hOA hAA_23 (by have := hOA.1; simp at this ⊢; omega) ?_
  intro w_ hO_ E_
  exact obW_end rfl (hO_.cast rfl (set_arr (by first | omega | (simp only [Array.size_setIfInBounds, swp_sz, siftDown_size]; omega)))) E_
 ·
  intro o_ ho_; obtain rfl := Option.some.inj ho_; intro aA wA hNA hRA hbsA hdpA hOA
  obtain ⟨bA_24, oA_24, qA_24, hAA_24⟩ := hdpA 14 _ 24 (by kernel_rfl) rfl rfl
  have qA_22 : Sl aA 22 (Value.int .u16 (d[a]!.toNat : Int)) := hdpA 11 _ 22 (by kernel_rfl) rfl rfl
  clear hbsA hdpA
  have hOA : Own wA base 46 1 v n ((d.setIfInBounds a d[pv]!).toList.map u16v) := hOA
  refine op_store_own (vs := [(Value.int .u16 (d[a]!.toNat : Int))]) size46 (ev_base hNA rfl qA_24) (ev_base hNA rfl qA_22) rfl rfl rfl hOA hAA_24 (by have := hOA.1; simp at this ⊢; omega) ?_
  intro w_ hO_ E_
  exact obW_end rfl (hO_.cast rfl (set_arr (by first | omega | (simp only [Array.size_setIfInBounds, swp_sz, siftDown_size]; omega)))) E_
 ·
  intro a3 w3 hN3 hd3 hbs3 hph3 hO3 E3
  have hd3 := hd3.trans hd
  have s3_0 := (hbs3 0 rfl).trans (sl_base hN rfl s0)
  have s3_1 := (hbs3 1 rfl).trans (sl_base hN rfl s1)
  have s3_2 := (hbs3 2 rfl).trans (sl_base hN rfl s2)
  have s3_8 := (hbs3 8 rfl).trans (sl_hit hN rfl)
  clear hbs3 hph3
  have hO3 : Own w3 base 46 1 v n (((d.setIfInBounds a d[pv]!).setIfInBounds pv d[a]!).toList.map u16v) := hO3
  have z_w3 := E3.size
  have hb := grow_stepX hb E3 rfl
  refine hK2 _ _ ?_
  refine seq_any fun K4 hK4 => ?_
  refine one_reg ?_
  refine op_move (ev_base hN3 rfl s3_1) ?_
  refine op_add (ev_hit hN3 rfl) rfl (add64 (by omega)) ?_
  refine op_move (ev_base hN3 rfl s3_2) ?_
  refine op_sub (r := ((b - 1 : Nat) : Int)) (ev_hit hN3 rfl) rfl (by rw [IntKind.wrap_i64]; omega) ?_
  refine op_assign (ev_hit hN3 rfl) ?_
  refine op_assign (ev_hit hN3 rfl) ?_
  refine reg_nil ?_
  refine hK4 _ _ ?_
  refine seq_any fun K5 hK5 => ?_
  refine wp_block ?_
  refine loop_m (fun mz_ az_ w' => ∃ (ii jj : Nat) (dk : Ar), mz_ = (jj + 2 - ii) ∧ (az_.tmps.getD 0 undef = v) ∧ (az_.tmps.getD 1 undef = (Value.int .i64 ((a : Nat) : Int))) ∧ (az_.tmps.getD 8 undef = (Value.int .i64 0)) ∧ (az_.tmps.getD 9 undef = (Value.int .i64 ((ii : Nat) : Int))) ∧ (az_.tmps.getD 10 undef = (Value.int .i64 ((jj : Nat) : Int))) ∧ (dk.size = n) ∧ (a < ii ∧ ii ≤ jj + 1 ∧ jj < b) ∧ (partEqLoop ltT a (a + 1) (b - 1) (swp d a pv) = partEqLoop ltT a ii jj dk) ∧ (w.grownBy w' v.ownBlock) ∧ (w3.heap.size ≤ w'.heap.size) ∧ (Own w' base 46 1 v n (dk.toList.map u16v))) _ hN3 hd3 ⟨(a + 1), (b - 1), _, rfl, (sl_base hN3 rfl s3_0), (sl_base hN3 rfl s3_1), (sl_base hN3 rfl s3_8), (sl_hit hN3 rfl).trans (congrArg (Value.int .i64) (by omega)), (sl_hit hN3 rfl).trans (congrArg (Value.int .i64) (by omega)), (by first | assumption | (simp only [Array.size_setIfInBounds, swp_sz, siftDown_size]; assumption)), (by omega), rfl, hb, (Nat.le_refl _), hO3⟩ ?_
  rintro _ a6 w6 hN6 hd6 ⟨ii, jj, dk, rfl, s6_0, s6_1, s6_8, s6_9, s6_10, hdk, hr1, hs, hb, zl_w6, hO7⟩
  have z_w6 := hb.size
  refine wp_block ?_
  refine seq_any fun K8 hK8 => ?_
  refine wp_block ?_
  refine loop_m (fun mz_ az_ w' => ∃ (i2 : Nat), mz_ = (jj + 1 - i2) ∧ (az_.tmps.getD 0 undef = v) ∧ (az_.tmps.getD 1 undef = (Value.int .i64 ((a : Nat) : Int))) ∧ (az_.tmps.getD 8 undef = (Value.int .i64 0)) ∧ (az_.tmps.getD 10 undef = (Value.int .i64 ((jj : Nat) : Int))) ∧ (az_.tmps.getD 9 undef = (Value.int .i64 ((i2 : Nat) : Int))) ∧ (ii ≤ i2 ∧ i2 ≤ jj + 1) ∧ (scanUp (fun x => !ltT dk[a]! x) dk jj ii = scanUp (fun x => !ltT dk[a]! x) dk jj i2) ∧ (w.grownBy w' v.ownBlock) ∧ (w6.heap.size ≤ w'.heap.size) ∧ (Own w' base 46 1 v n (dk.toList.map u16v))) _ hN6 hd6 ⟨ii, rfl, (sl_base hN6 rfl s6_0), (sl_base hN6 rfl s6_1), (sl_base hN6 rfl s6_8), (sl_base hN6 rfl s6_10), (sl_base hN6 rfl s6_9).trans (congrArg (Value.int .i64) (by omega)), (by omega), rfl, hb, (Nat.le_refl _), hO7⟩ ?_
  rintro _ a9 w9 hN9 hd9 ⟨i2, rfl, s9_0, s9_1, s9_8, s9_10, s9_9, hr2, hu1, hb, zl_w9, hO7⟩
  have z_w9 := hb.size
  refine seq_any fun K10 hK10 => ?_
  refine seq_any fun K11 hK11 => ?_
  refine reg_still mixed (by kernel_rfl) ?_
  intro w13 E12
  have z_w13 := E12.size
  have hO7 := hO7.keep0 E12
  have hb := grow_step0 hb E12
  refine st_step rfl (fun _ h9 => op_move (ev_base hN9 rfl s9_9) h9) ?_
  refine st_step rfl (fun _ h9 => op_move (ev_base hN9 rfl s9_10) h9) ?_
  by_cases g31 : ((i2 : Nat) : Int) ≤ ((jj : Nat) : Int)
  · -- 31T
   refine st_step rfl (fun _ h9 => op_cmp (b := true) (ev_hit hN9 rfl) (ev_hit hN9 rfl) (b_leq (decide_eq_true g31)) h9) ?_
   refine st_step rfl (fun _ h9 => op_move (ev_hit hN9 rfl) h9) ?_
   refine st_g_true (j := 3) (dj := 32) (b := true) rfl rfl rfl (ev_hit hN9 rfl) ?_
   refine st_step rfl (fun _ h9 => op_move (ev_base hN9 rfl s9_0) h9) ?_
   refine st_g_true (j := 3) (dj := 32) (b := true) rfl rfl rfl (ev_hit hN9 rfl) ?_
   refine st_step rfl (fun _ h9 => op_move (ev_base hN9 rfl s9_1) h9) ?_
   refine st_g_true (j := 3) (dj := 32) (b := true) rfl rfl rfl (ev_hit hN9 rfl) ?_
   refine st_index_rd slt45 (ev_hit hN9 rfl) hO7.rdw (ev_hit hN9 rfl) (by omega) (by omega) ?_
   intro b14 o15 h0b14 h1b14 hc16
   refine st_g_true (j := 3) (dj := 32) (b := true) rfl rfl rfl (ev_hit hN9 rfl) ?_
   refine st_step rfl (fun _ h9 => op_load1 (v := (Value.int .u16 (dk[a]!.toNat : Int))) one46 (ev_hit hN9 rfl) (by have := hc16 0 (Value.int .u16 (dk[a]!.toNat : Int)) (by decide) (el_arr (i := a) (by omega) (by first | omega | (simp only [Array.size_setIfInBounds, swp_sz, siftDown_size]; omega))); simpa using this) h9) ?_
   refine st_g_true (j := 3) (dj := 32) (b := true) rfl rfl rfl (ev_hit hN9 rfl) ?_
   refine st_step rfl (fun _ h9 => op_move (ev_base hN9 rfl s9_0) h9) ?_
   refine st_g_true (j := 3) (dj := 32) (b := true) rfl rfl rfl (ev_hit hN9 rfl) ?_
   refine st_step rfl (fun _ h9 => op_move (ev_base hN9 rfl s9_9) h9) ?_
   refine st_g_true (j := 3) (dj := 32) (b := true) rfl rfl rfl (ev_hit hN9 rfl) ?_
   refine st_index_rd slt45 (ev_hit hN9 rfl) hO7.rdw (ev_hit hN9 rfl) (by omega) (by omega) ?_
   intro b17 o18 h0b17 h1b17 hc19
   refine st_g_true (j := 3) (dj := 32) (b := true) rfl rfl rfl (ev_hit hN9 rfl) ?_
   refine st_step rfl (fun _ h9 => op_load1 (v := (Value.int .u16 (dk[i2]!.toNat : Int))) one46 (ev_hit hN9 rfl) (by have := hc19 0 (Value.int .u16 (dk[i2]!.toNat : Int)) (by decide) (el_arr (i := i2) (by omega) (by first | omega | (simp only [Array.size_setIfInBounds, swp_sz, siftDown_size]; omega))); simpa using this) h9) ?_
   refine st_g_true (j := 3) (dj := 32) (b := true) rfl rfl rfl (ev_hit hN9 rfl) ?_
   refine st_fn (vs := [(Value.int .u16 (dk[a]!.toNat : Int)), (Value.int .u16 (dk[i2]!.toNat : Int))]) ok159 (⟨(ev_hit hN9 rfl), ⟨(ev_hit hN9 rfl), trivial⟩⟩) (Less16_ret dk[a]! dk[i2]! _) ?_
   refine st_g_true (j := 3) (dj := 32) (b := true) rfl rfl rfl (ev_hit hN9 rfl) ?_
   refine st_step rfl (fun _ h9 => op_not (ev_hit hN9 rfl) h9) ?_
   refine st_step rfl (fun _ h9 => op_pick_t (ev_hit hN9 rfl) (ev_hit hN9 rfl) h9) ?_
   refine st_nil ?_
   refine hK11 _ _ ?_
   refine wp_cond_split (ev_hit hN9 rfl) (fun c43 => ?_) (fun c43 => ?_)
   · -- 43T
    refine wp_skip ?_
    refine hK10 _ _ ?_
    refine wp_block ?_
    refine one_reg ?_
    refine op_move (ev_base hN9 rfl s9_9) ?_
    refine op_add (ev_hit hN9 rfl) rfl (add64 (by omega)) ?_
    refine op_assign (ev_hit hN9 rfl) ?_
    refine reg_nil ?_
    refine blk_normal ?_
    -- round 31T 43T
    exact loop_next _ hN9 hd9 ⟨(i2 + 1), rfl, (sl_base hN9 rfl s9_0), (sl_base hN9 rfl s9_1), (sl_base hN9 rfl s9_8), (sl_base hN9 rfl s9_10), (sl_hit hN9 rfl).trans (congrArg (Value.int .i64) (by omega)), (by omega), (hu1.trans (scanUp_go (by omega) c43)), hb, (by omega), hO7⟩ (by omega)
   · -- 43F
    refine wp_exit (then_exit (then_exit (blk_hit ?_)))
    refine hK8 _ _ ?_
    refine seq_any fun K20 hK20 => ?_
    refine wp_block ?_
    have hu2 : scanUp (fun x => !ltT dk[a]! x) dk jj ii = i2 := hu1.trans (scanUp_stop (.inr c43))
    refine loop_m (fun mz_ az_ w' => ∃ (j2 : Nat), mz_ = (j2 + 1) ∧ (az_.tmps.getD 0 undef = v) ∧ (az_.tmps.getD 1 undef = (Value.int .i64 ((a : Nat) : Int))) ∧ (az_.tmps.getD 8 undef = (Value.int .i64 0)) ∧ (az_.tmps.getD 9 undef = (Value.int .i64 ((i2 : Nat) : Int))) ∧ (az_.tmps.getD 10 undef = (Value.int .i64 ((j2 : Nat) : Int))) ∧ (j2 ≤ jj ∧ i2 ≤ j2 + 1) ∧ (scanDown (fun x => ltT dk[a]! x) dk i2 jj = scanDown (fun x => ltT dk[a]! x) dk i2 j2) ∧ (w.grownBy w' v.ownBlock) ∧ (w13.heap.size ≤ w'.heap.size) ∧ (Own w' base 46 1 v n (dk.toList.map u16v))) _ hN9 hd9 ⟨jj, rfl, (sl_base hN9 rfl s9_0), (sl_base hN9 rfl s9_1), (sl_base hN9 rfl s9_8), (sl_base hN9 rfl s9_9), (sl_base hN9 rfl s9_10).trans (congrArg (Value.int .i64) (by omega)), (by omega), rfl, hb, (Nat.le_refl _), hO7⟩ ?_
    rintro _ a21 w21 hN21 hd21 ⟨j2, rfl, s21_0, s21_1, s21_8, s21_9, s21_10, hr3, hv1, hb, zl_w21, hO7⟩
    have z_w21 := hb.size
    refine seq_any fun K22 hK22 => ?_
    refine seq_any fun K23 hK23 => ?_
    refine reg_still mixed (by kernel_rfl) ?_
    intro w25 E24
    have z_w25 := E24.size
    have hO7 := hO7.keep0 E24
    have hb := grow_step0 hb E24
    refine st_step rfl (fun _ h9 => op_move (ev_base hN21 rfl s21_9) h9) ?_
    refine st_step rfl (fun _ h9 => op_move (ev_base hN21 rfl s21_10) h9) ?_
    by_cases g48 : ((i2 : Nat) : Int) ≤ ((j2 : Nat) : Int)
    · -- 48T
     refine st_step rfl (fun _ h9 => op_cmp (b := true) (ev_hit hN21 rfl) (ev_hit hN21 rfl) (b_leq (decide_eq_true g48)) h9) ?_
     refine st_step rfl (fun _ h9 => op_move (ev_hit hN21 rfl) h9) ?_
     refine st_g_true (j := 3) (dj := 49) (b := true) rfl rfl rfl (ev_hit hN21 rfl) ?_
     refine st_step rfl (fun _ h9 => op_move (ev_base hN21 rfl s21_0) h9) ?_
     refine st_g_true (j := 3) (dj := 49) (b := true) rfl rfl rfl (ev_hit hN21 rfl) ?_
     refine st_step rfl (fun _ h9 => op_move (ev_base hN21 rfl s21_1) h9) ?_
     refine st_g_true (j := 3) (dj := 49) (b := true) rfl rfl rfl (ev_hit hN21 rfl) ?_
     refine st_index_rd slt45 (ev_hit hN21 rfl) hO7.rdw (ev_hit hN21 rfl) (by omega) (by omega) ?_
     intro b26 o27 h0b26 h1b26 hc28
     refine st_g_true (j := 3) (dj := 49) (b := true) rfl rfl rfl (ev_hit hN21 rfl) ?_
     refine st_step rfl (fun _ h9 => op_load1 (v := (Value.int .u16 (dk[a]!.toNat : Int))) one46 (ev_hit hN21 rfl) (by have := hc28 0 (Value.int .u16 (dk[a]!.toNat : Int)) (by decide) (el_arr (i := a) (by omega) (by first | omega | (simp only [Array.size_setIfInBounds, swp_sz, siftDown_size]; omega))); simpa using this) h9) ?_
     refine st_g_true (j := 3) (dj := 49) (b := true) rfl rfl rfl (ev_hit hN21 rfl) ?_
     refine st_step rfl (fun _ h9 => op_move (ev_base hN21 rfl s21_0) h9) ?_
     refine st_g_true (j := 3) (dj := 49) (b := true) rfl rfl rfl (ev_hit hN21 rfl) ?_
     refine st_step rfl (fun _ h9 => op_move (ev_base hN21 rfl s21_10) h9) ?_
     refine st_g_true (j := 3) (dj := 49) (b := true) rfl rfl rfl (ev_hit hN21 rfl) ?_
     refine st_index_rd slt45 (ev_hit hN21 rfl) hO7.rdw (ev_hit hN21 rfl) (by omega) (by omega) ?_
     intro b29 o30 h0b29 h1b29 hc31
     refine st_g_true (j := 3) (dj := 49) (b := true) rfl rfl rfl (ev_hit hN21 rfl) ?_
     refine st_step rfl (fun _ h9 => op_load1 (v := (Value.int .u16 (dk[j2]!.toNat : Int))) one46 (ev_hit hN21 rfl) (by have := hc31 0 (Value.int .u16 (dk[j2]!.toNat : Int)) (by decide) (el_arr (i := j2) (by omega) (by first | omega | (simp only [Array.size_setIfInBounds, swp_sz, siftDown_size]; omega))); simpa using this) h9) ?_
     refine st_g_true (j := 3) (dj := 49) (b := true) rfl rfl rfl (ev_hit hN21 rfl) ?_
     refine st_fn (vs := [(Value.int .u16 (dk[a]!.toNat : Int)), (Value.int .u16 (dk[j2]!.toNat : Int))]) ok159 (⟨(ev_hit hN21 rfl), ⟨(ev_hit hN21 rfl), trivial⟩⟩) (Less16_ret dk[a]! dk[j2]! _) ?_
     refine st_step rfl (fun _ h9 => op_pick_t (ev_hit hN21 rfl) (ev_hit hN21 rfl) h9) ?_
     refine st_nil ?_
     refine hK23 _ _ ?_
     refine wp_cond_split (ev_hit hN21 rfl) (fun c59 => ?_) (fun c59 => ?_)
     · -- 59T
      refine wp_skip ?_
      refine hK22 _ _ ?_
      refine wp_block ?_
      refine one_reg ?_
      refine op_move (ev_base hN21 rfl s21_10) ?_
      refine op_sub (ev_hit hN21 rfl) rfl (sub64 (by omega)) ?_
      refine op_assign (ev_hit hN21 rfl) ?_
      refine reg_nil ?_
      refine blk_normal ?_
      -- round 31T 43F 48T 59T
      exact loop_next _ hN21 hd21 ⟨(j2 - 1), rfl, (sl_base hN21 rfl s21_0), (sl_base hN21 rfl s21_1), (sl_base hN21 rfl s21_8), (sl_base hN21 rfl s21_9), (sl_hit hN21 rfl).trans (congrArg (Value.int .i64) (by omega)), (by omega), (hv1.trans (scanDown_go (by omega) (by omega) c59)), hb, (by omega), hO7⟩ (by omega)
     · -- 59F
      refine wp_exit (then_exit (then_exit (blk_hit ?_)))
      refine hK20 _ _ ?_
      refine seq_any fun K32 hK32 => ?_
      refine seq_any fun K33 hK33 => ?_
      refine one_reg ?_
      refine op_move (ev_base hN21 rfl s21_9) ?_
      refine op_move (ev_base hN21 rfl s21_10) ?_
      refine op_gtr (ev_hit hN21 rfl) (ev_hit hN21 rfl) (fun c64 => ?_) (fun c64 => ?_)
      · -- 64T
       refine reg_nil ?_
       refine hK33 _ _ ?_
       refine wp_cond_true (ev_hit hN21 rfl) ?_
       refine wp_exit (then_exit (blk_miss (by decide) (then_exit (blk_hit ?_))))
       refine hK5 _ _ ?_
       refine seq_any fun K34 hK34 => ?_
       refine one_reg ?_
       refine op_move (ev_base hN21 rfl s21_9) ?_
       refine op_assign (ev_hit hN21 rfl) ?_
       refine reg_nil ?_
       refine hK34 _ _ ?_
       refine wp_ret ?_
       refine ret1 rfl hd21 (ev_hit hN21 rfl) ⟨_, rfl, ?_⟩
       -- path 31T 43F 48T 59F 64T
       have hv2 : scanDown (fun x => ltT dk[a]! x) dk i2 jj = j2 := hv1.trans (scanDown_stop (.inr c59))
       have hq : partitionEqual ltT d a b pv = (i2, dk) := hs.trans (pe_stop hu2 hv2 (by omega))
       exact ⟨hb, by first | (rw [hq]; done) | (rw [hq]; rfl), hO7.cast rfl (by rw [hq])⟩
      · -- 64F
       refine reg_nil ?_
       refine hK33 _ _ ?_
       refine wp_cond_false (ev_hit hN21 rfl) ?_
       refine wp_skip ?_
       refine hK32 _ _ ?_
       refine seq_any fun K35 hK35 => ?_
       refine reg_mid (e := 46) (sz := 1) (base := base) (n := n) (v := v) (Φ := phiL [(fun uz _ => uz = v), (fun uz _ => uz = (Value.int .i64 ((i2 : Nat) : Int))), (fun uz _ => uz = v), (fun uz _ => uz = (Value.int .i64 ((j2 : Nat) : Int))), (fun uz _ => uz = v), (fun uz _ => uz = (Value.int .i64 ((j2 : Nat) : Int))), (fun uz _ => ∃ bz oz, uz = ptr bz oz ∧ AtV v j2 bz oz), (fun uz _ => uz = (Value.int .u16 (dk[j2]!.toNat : Int))), (fun uz _ => uz = v), (fun uz _ => uz = (Value.int .i64 ((i2 : Nat) : Int))), (fun uz _ => ∃ bz oz, uz = ptr bz oz ∧ AtV v i2 bz oz), (fun uz _ => uz = (Value.int .u16 (dk[i2]!.toNat : Int))), (fun uz _ => ∃ bz oz, uz = ptr bz oz ∧ AtV v i2 bz oz), (fun _ _ => True), (fun uz _ => ∃ bz oz, uz = ptr bz oz ∧ AtV v j2 bz oz), (fun _ _ => True)]) [13, 15] [(dk.toList.map u16v), ((dk.setIfInBounds i2 dk[j2]!).toList.map u16v), (((dk.setIfInBounds i2 dk[j2]!).setIfInBounds j2 dk[i2]!).toList.map u16v)] mixed (by kernel_rfl) (by kernel_rfl) (by kernel_rfl) (by kernel_rfl) hN21 hO7 (StL.get (StL.eq (StL.eq (StL.eq (StL.eq (StL.eq (StL.eq (StL.at (StL.eq (StL.eq (StL.eq (StL.at (StL.eq (StL.at (StL.cons (fun _ _ _ _ h => h) (StL.at (StL.cons (fun _ _ _ _ h => h) (StL.nil _)))))))))))))))))) (ObRs.get (ObRs.cons ?_ (ObRs.cons ?_ (ObRs.cons ?_ (ObRs.cons ?_ (ObRs.cons ?_ (ObRs.cons ?_ (ObRs.cons ?_ (ObRs.cons ?_ (ObRs.cons ?_ (ObRs.cons ?_ (ObRs.cons ?_ (ObRs.cons ?_ (ObRs.cons ?_ (ObRs.pass rfl (ObRs.cons ?_ (ObRs.pass rfl (ObRs.nil)))))))))))))))))) (ObWs.get (ObWs.cons ?_ (ObWs.cons ?_ (ObWs.nil)))) ?_
       ·
        intro aA wA cA hNA hRA hckA hOA hbsA hdpA
        have qA_0 := (hbsA 0 rfl).trans (sl_base hN21 rfl s21_0)
        clear hbsA hdpA
        refine op_move (ev_base hNA rfl qA_0) ?_
        exact obR_end rfl rfl (grown_refl _ _)
       ·
        intro aA wA cA hNA hRA hckA hOA hbsA hdpA
        have qA_9 := (hbsA 9 rfl).trans (sl_base hN21 rfl s21_9)
        clear hbsA hdpA
        refine op_move (ev_base hNA rfl qA_9) ?_
        exact obR_end rfl rfl (grown_refl _ _)
       ·
        intro aA wA cA hNA hRA hckA hOA hbsA hdpA
        have qA_0 := (hbsA 0 rfl).trans (sl_base hN21 rfl s21_0)
        clear hbsA hdpA
        refine op_move (ev_base hNA rfl qA_0) ?_
        exact obR_end rfl rfl (grown_refl _ _)
       ·
        intro aA wA cA hNA hRA hckA hOA hbsA hdpA
        have qA_10 := (hbsA 10 rfl).trans (sl_base hN21 rfl s21_10)
        clear hbsA hdpA
        refine op_move (ev_base hNA rfl qA_10) ?_
        exact obR_end rfl rfl (grown_refl _ _)
       ·
        intro aA wA cA hNA hRA hckA hOA hbsA hdpA
        have qA_0 := (hbsA 0 rfl).trans (sl_base hN21 rfl s21_0)
        clear hbsA hdpA
        refine op_move (ev_base hNA rfl qA_0) ?_
        exact obR_end rfl rfl (grown_refl _ _)
       ·
        intro aA wA cA hNA hRA hckA hOA hbsA hdpA
        have qA_10 := (hbsA 10 rfl).trans (sl_base hN21 rfl s21_10)
        clear hbsA hdpA
        refine op_move (ev_base hNA rfl qA_10) ?_
        exact obR_end rfl rfl (grown_refl _ _)
       ·
        intro aA wA cA hNA hRA hckA hOA hbsA hdpA
        have qA_69 : Sl aA 69 v := hdpA 4 _ 69 (by kernel_rfl) rfl rfl
        have qA_70 : Sl aA 70 (Value.int .i64 ((j2 : Nat) : Int)) := hdpA 5 _ 70 (by kernel_rfl) rfl rfl
        clear hbsA hdpA
        refine op_index_own (i := j2) slt45 (ev_base hNA rfl qA_69) hOA (ev_base hNA rfl qA_70) (by omega) (by omega) ?_
        intro b_ o_ _ hA_
        exact obR_end rfl ⟨b_, o_, rfl, by simpa using hA_⟩ (grown_refl _ _)
       ·
        intro aA wA cA hNA hRA hckA hOA hbsA hdpA
        obtain ⟨bA_71, oA_71, qA_71, hAA_71⟩ := hdpA 6 _ 71 (by kernel_rfl) rfl rfl
        clear hbsA hdpA
        obtain rfl : cA = 0 := Nat.le_zero.1 (hckA 0 13 rfl (by kernel_rfl))
        have hOA : Own wA base 46 1 v n (dk.toList.map u16v) := hOA
        refine op_load1 (v := (Value.int .u16 (dk[j2]!.toNat : Int))) one46 (ev_base hNA rfl qA_71) (by have := hOA.cellAt hAA_71 0 _ (el_at (i := j2) (by first | omega | (simp only [Array.size_setIfInBounds, swp_sz, siftDown_size]; omega))); simpa using this) ?_
        exact obR_end rfl rfl (grown_refl _ _)
       ·
        intro aA wA cA hNA hRA hckA hOA hbsA hdpA
        have qA_0 := (hbsA 0 rfl).trans (sl_base hN21 rfl s21_0)
        clear hbsA hdpA
        refine op_move (ev_base hNA rfl qA_0) ?_
        exact obR_end rfl rfl (grown_refl _ _)
       ·
        intro aA wA cA hNA hRA hckA hOA hbsA hdpA
        have qA_9 := (hbsA 9 rfl).trans (sl_base hN21 rfl s21_9)
        clear hbsA hdpA
        refine op_move (ev_base hNA rfl qA_9) ?_
        exact obR_end rfl rfl (grown_refl _ _)
       ·
        intro aA wA cA hNA hRA hckA hOA hbsA hdpA
        have qA_73 : Sl aA 73 v := hdpA 8 _ 73 (by kernel_rfl) rfl rfl
        have qA_74 : Sl aA 74 (Value.int .i64 ((i2 : Nat) : Int)) := hdpA 9 _ 74 (by kernel_rfl) rfl rfl
        clear hbsA hdpA
        refine op_index_own (i := i2) slt45 (ev_base hNA rfl qA_73) hOA (ev_base hNA rfl qA_74) (by omega) (by omega) ?_
        intro b_ o_ _ hA_
        exact obR_end rfl ⟨b_, o_, rfl, by simpa using hA_⟩ (grown_refl _ _)
       ·
        intro aA wA cA hNA hRA hckA hOA hbsA hdpA
        obtain ⟨bA_75, oA_75, qA_75, hAA_75⟩ := hdpA 10 _ 75 (by kernel_rfl) rfl rfl
        clear hbsA hdpA
        obtain rfl : cA = 0 := Nat.le_zero.1 (hckA 0 13 rfl (by kernel_rfl))
        have hOA : Own wA base 46 1 v n (dk.toList.map u16v) := hOA
        refine op_load1 (v := (Value.int .u16 (dk[i2]!.toNat : Int))) one46 (ev_base hNA rfl qA_75) (by have := hOA.cellAt hAA_75 0 _ (el_at (i := i2) (by first | omega | (simp only [Array.size_setIfInBounds, swp_sz, siftDown_size]; omega))); simpa using this) ?_
        exact obR_end rfl rfl (grown_refl _ _)
       ·
        intro aA wA cA hNA hRA hckA hOA hbsA hdpA
        have qA_65 : Sl aA 65 v := hdpA 0 _ 65 (by kernel_rfl) rfl rfl
        have qA_66 : Sl aA 66 (Value.int .i64 ((i2 : Nat) : Int)) := hdpA 1 _ 66 (by kernel_rfl) rfl rfl
        clear hbsA hdpA
        refine op_index_own (i := i2) slt45 (ev_base hNA rfl qA_65) hOA (ev_base hNA rfl qA_66) (by omega) (by omega) ?_
        intro b_ o_ _ hA_
        exact obR_end rfl ⟨b_, o_, rfl, by simpa using hA_⟩ (grown_refl _ _)
       ·
        intro aA wA cA hNA hRA hckA hOA hbsA hdpA
        have qA_67 : Sl aA 67 v := hdpA 2 _ 67 (by kernel_rfl) rfl rfl
        have qA_68 : Sl aA 68 (Value.int .i64 ((j2 : Nat) : Int)) := hdpA 3 _ 68 (by kernel_rfl) rfl rfl
        clear hbsA hdpA
        refine op_index_own (i := j2) slt45 (ev_base hNA rfl qA_67) hOA (ev_base hNA rfl qA_68) (by omega) (by omega) ?_
        intro b_ o_ _ hA_
        exact obR_end rfl ⟨b_, o_, rfl, by simpa using hA_⟩ (grown_refl _ _)
       ·
        intro o_ ho_; obtain rfl := Option.some.inj ho_; intro aA wA hNA hRA hbsA hdpA hOA
        obtain ⟨bA_77, oA_77, qA_77, hAA_77⟩ := hdpA 12 _ 77 (by kernel_rfl) rfl rfl
        have qA_72 : Sl aA 72 (Value.int .u16 (dk[j2]!.toNat : Int)) := hdpA 7 _ 72 (by kernel_rfl) rfl rfl
        clear hbsA hdpA
        have hOA : Own wA base 46 1 v n (dk.toList.map u16v) := hOA
        refine op_store_own (vs := [(Value.int .u16 (dk[j2]!.toNat : Int))]) size46 (ev_base hNA rfl qA_77) (ev_base hNA rfl qA_72) rfl rfl rfl hOA hAA_77 (by have := hOA.1; simp at this ⊢; omega) ?_
        intro w_ hO_ E_
        exact obW_end rfl (hO_.cast rfl (set_arr (by first | omega | (simp only [Array.size_setIfInBounds, swp_sz, siftDown_size]; omega)))) E_
       ·
        intro o_ ho_; obtain rfl := Option.some.inj ho_; intro aA wA hNA hRA hbsA hdpA hOA
        obtain ⟨bA_78, oA_78, qA_78, hAA_78⟩ := hdpA 14 _ 78 (by kernel_rfl) rfl rfl
        have qA_76 : Sl aA 76 (Value.int .u16 (dk[i2]!.toNat : Int)) := hdpA 11 _ 76 (by kernel_rfl) rfl rfl
        clear hbsA hdpA
        have hOA : Own wA base 46 1 v n ((dk.setIfInBounds i2 dk[j2]!).toList.map u16v) := hOA
        refine op_store_own (vs := [(Value.int .u16 (dk[i2]!.toNat : Int))]) size46 (ev_base hNA rfl qA_78) (ev_base hNA rfl qA_76) rfl rfl rfl hOA hAA_78 (by have := hOA.1; simp at this ⊢; omega) ?_
        intro w_ hO_ E_
        exact obW_end rfl (hO_.cast rfl (set_arr (by first | omega | (simp only [Array.size_setIfInBounds, swp_sz, siftDown_size]; omega)))) E_
       ·
        intro a36 w36 hN36 hd36 hbs36 hph36 hO36 E36
        have hd36 := hd36.trans hd21
        have s36_0 := (hbs36 0 rfl).trans (sl_base hN21 rfl s21_0)
        have s36_1 := (hbs36 1 rfl).trans (sl_base hN21 rfl s21_1)
        have s36_8 := (hbs36 8 rfl).trans (sl_base hN21 rfl s21_8)
        have s36_9 := (hbs36 9 rfl).trans (sl_base hN21 rfl s21_9)
        have s36_10 := (hbs36 10 rfl).trans (sl_base hN21 rfl s21_10)
        clear hbs36 hph36
        have hO36 : Own w36 base 46 1 v n (((dk.setIfInBounds i2 dk[j2]!).setIfInBounds j2 dk[i2]!).toList.map u16v) := hO36
        have z_w36 := E36.size
        have hb := grow_stepX hb E36 rfl
        refine hK35 _ _ ?_
        refine seq_any fun K37 hK37 => ?_
        refine one_reg ?_
        refine op_move (ev_base hN36 rfl s36_9) ?_
        refine op_add (ev_hit hN36 rfl) rfl (add64 (by omega)) ?_
        refine op_assign (ev_hit hN36 rfl) ?_
        refine reg_nil ?_
        refine hK37 _ _ ?_
        refine one_reg ?_
        refine op_move (ev_base hN36 rfl s36_10) ?_
        refine op_sub (ev_hit hN36 rfl) rfl (sub64 (by omega)) ?_
        refine op_assign (ev_hit hN36 rfl) ?_
        refine reg_nil ?_
        refine blk_normal ?_
        -- round 31T 43F 48T 59F 64F
        have hv2 : scanDown (fun x => ltT dk[a]! x) dk i2 jj = j2 := hv1.trans (scanDown_stop (.inr c59))
        have hne : i2 ≠ j2 := by first | omega | (intro hh; subst hh; rw [c59] at c43; simp at c43)
        exact loop_next _ hN36 hd36 ⟨(i2 + 1), (j2 - 1), _, rfl, (sl_base hN36 rfl s36_0), (sl_base hN36 rfl s36_1), (sl_base hN36 rfl s36_8), (sl_hit hN36 rfl).trans (congrArg (Value.int .i64) (by omega)), (sl_hit hN36 rfl).trans (congrArg (Value.int .i64) (by omega)), (by first | assumption | (simp only [Array.size_setIfInBounds, swp_sz, siftDown_size]; assumption)), (by omega), (hs.trans (pe_go hu2 hv2 (by omega))), hb, (by omega), hO36⟩ (by omega)
    · -- 48F
     refine st_step rfl (fun _ h9 => op_cmp (b := false) (ev_hit hN21 rfl) (ev_hit hN21 rfl) (b_leq (decide_eq_false g48)) h9) ?_
     refine st_step rfl (fun _ h9 => op_move (ev_hit hN21 rfl) h9) ?_
     refine st_g_false (j := 3) (dj := 49) (b := true) rfl rfl rfl (ev_hit hN21 rfl) rfl rfl ?_
     refine st_g_false (j := 3) (dj := 49) (b := true) rfl rfl rfl (ev_hit hN21 rfl) rfl rfl ?_
     refine st_g_false (j := 3) (dj := 49) (b := true) rfl rfl rfl (ev_hit hN21 rfl) rfl rfl ?_
     refine st_g_false (j := 3) (dj := 49) (b := true) rfl rfl rfl (ev_hit hN21 rfl) rfl rfl ?_
     refine st_g_false (j := 3) (dj := 49) (b := true) rfl rfl rfl (ev_hit hN21 rfl) rfl rfl ?_
     refine st_g_false (j := 3) (dj := 49) (b := true) rfl rfl rfl (ev_hit hN21 rfl) rfl rfl ?_
     refine st_g_false (j := 3) (dj := 49) (b := true) rfl rfl rfl (ev_hit hN21 rfl) rfl rfl ?_
     refine st_g_false (j := 3) (dj := 49) (b := true) rfl rfl rfl (ev_hit hN21 rfl) rfl rfl ?_
     refine st_g_false (j := 3) (dj := 49) (b := true) rfl rfl rfl (ev_hit hN21 rfl) rfl rfl ?_
     refine st_step rfl (fun _ h9 => op_pick_f (ev_hit hN21 rfl) rfl h9) ?_
     refine st_nil ?_
     refine hK23 _ _ ?_
     refine wp_cond_false (ev_hit hN21 rfl) ?_
     refine wp_exit (then_exit (then_exit (blk_hit ?_)))
     refine hK20 _ _ ?_
     refine seq_any fun K38 hK38 => ?_
     refine seq_any fun K39 hK39 => ?_
     refine one_reg ?_
     refine op_move (ev_base hN21 rfl s21_9) ?_
     refine op_move (ev_base hN21 rfl s21_10) ?_
     refine op_gtr (ev_hit hN21 rfl) (ev_hit hN21 rfl) (fun c64 => ?_) (fun c64 => ?_)
     · -- 64T
      refine reg_nil ?_
      refine hK39 _ _ ?_
      refine wp_cond_true (ev_hit hN21 rfl) ?_
      refine wp_exit (then_exit (blk_miss (by decide) (then_exit (blk_hit ?_))))
      refine hK5 _ _ ?_
      refine seq_any fun K40 hK40 => ?_
      refine one_reg ?_
      refine op_move (ev_base hN21 rfl s21_9) ?_
      refine op_assign (ev_hit hN21 rfl) ?_
      refine reg_nil ?_
      refine hK40 _ _ ?_
      refine wp_ret ?_
      refine ret1 rfl hd21 (ev_hit hN21 rfl) ⟨_, rfl, ?_⟩
      -- path 31T 43F 48F 64T
      have hv2 : scanDown (fun x => ltT dk[a]! x) dk i2 jj = j2 := hv1.trans (scanDown_stop (.inl (by omega)))
      have hq : partitionEqual ltT d a b pv = (i2, dk) := hs.trans (pe_stop hu2 hv2 (by omega))
      exact ⟨hb, by first | (rw [hq]; done) | (rw [hq]; rfl), hO7.cast rfl (by rw [hq])⟩
     · -- 64F
      refine reg_nil ?_
      refine hK39 _ _ ?_
      refine wp_cond_false (ev_hit hN21 rfl) ?_
      refine wp_skip ?_
      refine hK38 _ _ ?_
      refine seq_any fun K41 hK41 => ?_
      refine reg_mid (e := 46) (sz := 1) (base := base) (n := n) (v := v) (Φ := phiL [(fun uz _ => uz = v), (fun uz _ => uz = (Value.int .i64 ((i2 : Nat) : Int))), (fun uz _ => uz = v), (fun uz _ => uz = (Value.int .i64 ((j2 : Nat) : Int))), (fun uz _ => uz = v), (fun uz _ => uz = (Value.int .i64 ((j2 : Nat) : Int))), (fun uz _ => ∃ bz oz, uz = ptr bz oz ∧ AtV v j2 bz oz), (fun uz _ => uz = (Value.int .u16 (dk[j2]!.toNat : Int))), (fun uz _ => uz = v), (fun uz _ => uz = (Value.int .i64 ((i2 : Nat) : Int))), (fun uz _ => ∃ bz oz, uz = ptr bz oz ∧ AtV v i2 bz oz), (fun uz _ => uz = (Value.int .u16 (dk[i2]!.toNat : Int))), (fun uz _ => ∃ bz oz, uz = ptr bz oz ∧ AtV v i2 bz oz), (fun _ _ => True), (fun uz _ => ∃ bz oz, uz = ptr bz oz ∧ AtV v j2 bz oz), (fun _ _ => True)]) [13, 15] [(dk.toList.map u16v), ((dk.setIfInBounds i2 dk[j2]!).toList.map u16v), (((dk.setIfInBounds i2 dk[j2]!).setIfInBounds j2 dk[i2]!).toList.map u16v)] mixed (by kernel_rfl) (by kernel_rfl) (by kernel_rfl) (by kernel_rfl) hN21 hO7 (StL.get (StL.eq (StL.eq (StL.eq (StL.eq (StL.eq (StL.eq (StL.at (StL.eq (StL.eq (StL.eq (StL.at (StL.eq (StL.at (StL.cons (fun _ _ _ _ h => h) (StL.at (StL.cons (fun _ _ _ _ h => h) (StL.nil _)))))))))))))))))) (ObRs.get (ObRs.cons ?_ (ObRs.cons ?_ (ObRs.cons ?_ (ObRs.cons ?_ (ObRs.cons ?_ (ObRs.cons ?_ (ObRs.cons ?_ (ObRs.cons ?_ (ObRs.cons ?_ (ObRs.cons ?_ (ObRs.cons ?_ (ObRs.cons ?_ (ObRs.cons ?_ (ObRs.pass rfl (ObRs.cons ?_ (ObRs.pass rfl (ObRs.nil)))))))))))))))))) (ObWs.get (ObWs.cons ?_ (ObWs.cons ?_ (ObWs.nil)))) ?_
      ·
       intro aA wA cA hNA hRA hckA hOA hbsA hdpA
       have qA_0 := (hbsA 0 rfl).trans (sl_base hN21 rfl s21_0)
       clear hbsA hdpA
       refine op_move (ev_base hNA rfl qA_0) ?_
       exact obR_end rfl rfl (grown_refl _ _)
      ·
       intro aA wA cA hNA hRA hckA hOA hbsA hdpA
       have qA_9 := (hbsA 9 rfl).trans (sl_base hN21 rfl s21_9)
       clear hbsA hdpA
       refine op_move (ev_base hNA rfl qA_9) ?_
       exact obR_end rfl rfl (grown_refl _ _)
      ·
       intro aA wA cA hNA hRA hckA hOA hbsA hdpA
       have qA_0 := (hbsA 0 rfl).trans (sl_base hN21 rfl s21_0)
       clear hbsA hdpA
       refine op_move (ev_base hNA rfl qA_0) ?_
       exact obR_end rfl rfl (grown_refl _ _)
      ·
       intro aA wA cA hNA hRA hckA hOA hbsA hdpA
       have qA_10 := (hbsA 10 rfl).trans (sl_base hN21 rfl s21_10)
       clear hbsA hdpA
       refine op_move (ev_base hNA rfl qA_10) ?_
       exact obR_end rfl rfl (grown_refl _ _)
      ·
       intro aA wA cA hNA hRA hckA hOA hbsA hdpA
       have qA_0 := (hbsA 0 rfl).trans (sl_base hN21 rfl s21_0)
       clear hbsA hdpA
       refine op_move (ev_base hNA rfl qA_0) ?_
       exact obR_end rfl rfl (grown_refl _ _)
      ·
       intro aA wA cA hNA hRA hckA hOA hbsA hdpA
       have qA_10 := (hbsA 10 rfl).trans (sl_base hN21 rfl s21_10)
       clear hbsA hdpA
       refine op_move (ev_base hNA rfl qA_10) ?_
       exact obR_end rfl rfl (grown_refl _ _)
      ·
       intro aA wA cA hNA hRA hckA hOA hbsA hdpA
       have qA_69 : Sl aA 69 v := hdpA 4 _ 69 (by kernel_rfl) rfl rfl
       have qA_70 : Sl aA 70 (Value.int .i64 ((j2 : Nat) : Int)) := hdpA 5 _ 70 (by kernel_rfl) rfl rfl
       clear hbsA hdpA
       refine op_index_own (i := j2) slt45 (ev_base hNA rfl qA_69) hOA (ev_base hNA rfl qA_70) (by omega) (by omega) ?_
       intro b_ o_ _ hA_
       exact obR_end rfl ⟨b_, o_, rfl, by simpa using hA_⟩ (grown_refl _ _)
      ·
       intro aA wA cA hNA hRA hckA hOA hbsA hdpA
       obtain ⟨bA_71, oA_71, qA_71, hAA_71⟩ := hdpA 6 _ 71 (by kernel_rfl) rfl rfl
       clear hbsA hdpA
       obtain rfl : cA = 0 := Nat.le_zero.1 (hckA 0 13 rfl (by kernel_rfl))
       have hOA : Own wA base 46 1 v n (dk.toList.map u16v) := hOA
       refine op_load1 (v := (Value.int .u16 (dk[j2]!.toNat : Int))) one46 (ev_base hNA rfl qA_71) (by have := hOA.cellAt hAA_71 0 _ (el_at (i := j2) (by first | omega | (simp only [Array.size_setIfInBounds, swp_sz, siftDown_size]; omega))); simpa using this) ?_
       exact obR_end rfl rfl (grown_refl _ _)
      ·
       intro aA wA cA hNA hRA hckA hOA hbsA hdpA
       have qA_0 := (hbsA 0 rfl).trans (sl_base hN21 rfl s21_0)
       clear hbsA hdpA
       refine op_move (ev_base hNA rfl qA_0) ?_
       exact obR_end rfl rfl (grown_refl _ _)
      ·
       intro aA wA cA hNA hRA hckA hOA hbsA hdpA
       have qA_9 := (hbsA 9 rfl).trans (sl_base hN21 rfl s21_9)
       clear hbsA hdpA
       refine op_move (ev_base hNA rfl qA_9) ?_
       exact obR_end rfl rfl (grown_refl _ _)
      ·
       intro aA wA cA hNA hRA hckA hOA hbsA hdpA
       have qA_73 : Sl aA 73 v := hdpA 8 _ 73 (by kernel_rfl) rfl rfl
       have qA_74 : Sl aA 74 (Value.int .i64 ((i2 : Nat) : Int)) := hdpA 9 _ 74 (by kernel_rfl) rfl rfl
       clear hbsA hdpA
       refine op_index_own (i := i2) slt45 (ev_base hNA rfl qA_73) hOA (ev_base hNA rfl qA_74) (by omega) (by omega) ?_
       intro b_ o_ _ hA_
       exact obR_end rfl ⟨b_, o_, rfl, by simpa using hA_⟩ (grown_refl _ _)
      ·
       intro aA wA cA hNA hRA hckA hOA hbsA hdpA
       obtain ⟨bA_75, oA_75, qA_75, hAA_75⟩ := hdpA 10 _ 75 (by kernel_rfl) rfl rfl
       clear hbsA hdpA
       obtain rfl : cA = 0 := Nat.le_zero.1 (hckA 0 13 rfl (by kernel_rfl))
       have hOA : Own wA base 46 1 v n (dk.toList.map u16v) := hOA
       refine op_load1 (v := (Value.int .u16 (dk[i2]!.toNat : Int))) one46 (ev_base hNA rfl qA_75) (by have := hOA.cellAt hAA_75 0 _ (el_at (i := i2) (by first | omega | (simp only [Array.size_setIfInBounds, swp_sz, siftDown_size]; omega))); simpa using this) ?_
       exact obR_end rfl rfl (grown_refl _ _)
      ·
       intro aA wA cA hNA hRA hckA hOA hbsA hdpA
       have qA_65 : Sl aA 65 v := hdpA 0 _ 65 (by kernel_rfl) rfl rfl
       have qA_66 : Sl aA 66 (Value.int .i64 ((i2 : Nat) : Int)) := hdpA 1 _ 66 (by kernel_rfl) rfl rfl
       clear hbsA hdpA
       refine op_index_own (i := i2) slt45 (ev_base hNA rfl qA_65) hOA (ev_base hNA rfl qA_66) (by omega) (by omega) ?_
       intro b_ o_ _ hA_
       exact obR_end rfl ⟨b_, o_, rfl, by simpa using hA_⟩ (grown_refl _ _)
      ·
       intro aA wA cA hNA hRA hckA hOA hbsA hdpA
       have qA_67 : Sl aA 67 v := hdpA 2 _ 67 (by kernel_rfl) rfl rfl
       have qA_68 : Sl aA 68 (Value.int .i64 ((j2 : Nat) : Int)) := hdpA 3 _ 68 (by kernel_rfl) rfl rfl
       clear hbsA hdpA
       refine op_index_own (i := j2) slt45 (ev_base hNA rfl qA_67) hOA (ev_base hNA rfl qA_68) (by omega) (by omega) ?_
       intro b_ o_ _ hA_
       exact obR_end rfl ⟨b_, o_, rfl, by simpa using hA_⟩ (grown_refl _ _)
      ·
       intro o_ ho_; obtain rfl := Option.some.inj ho_; intro aA wA hNA hRA hbsA hdpA hOA
       obtain ⟨bA_77, oA_77, qA_77, hAA_77⟩ := hdpA 12 _ 77 (by kernel_rfl) rfl rfl
       have qA_72 : Sl aA 72 (Value.int .u16 (dk[j2]!.toNat : Int)) := hdpA 7 _ 72 (by kernel_rfl) rfl rfl
       clear hbsA hdpA
       have hOA : Own wA base 46 1 v n (dk.toList.map u16v) := hOA
       refine op_store_own (vs := [(Value.int .u16 (dk[j2]!.toNat : Int))]) size46 (ev_base hNA rfl qA_77) (ev_base hNA rfl qA_72) rfl rfl rfl hOA hAA_77 (by have := hOA.1; simp at this ⊢; omega) ?_
       intro w_ hO_ E_
       exact obW_end rfl (hO_.cast rfl (set_arr (by first | omega | (simp only [Array.size_setIfInBounds, swp_sz, siftDown_size]; omega)))) E_
      ·
       intro o_ ho_; obtain rfl := Option.some.inj ho_; intro aA wA hNA hRA hbsA hdpA hOA
       obtain ⟨bA_78, oA_78, qA_78, hAA_78⟩ := hdpA 14 _ 78 (by kernel_rfl) rfl rfl
       have qA_76 : Sl aA 76 (Value.int .u16 (dk[i2]!.toNat : Int)) := hdpA 11 _ 76 (by kernel_rfl) rfl rfl
       clear hbsA hdpA
       have hOA : Own wA base 46 1 v n ((dk.setIfInBounds i2 dk[j2]!).toList.map u16v) := hOA
       refine op_store_own (vs := [(Value.int .u16 (dk[i2]!.toNat : Int))]) size46 (ev_base hNA rfl qA_78) (ev_base hNA rfl qA_76) rfl rfl rfl hOA hAA_78 (by have := hOA.1; simp at this ⊢; omega) ?_
       intro w_ hO_ E_
       exact obW_end rfl (hO_.cast rfl (set_arr (by first | omega | (simp only [Array.size_setIfInBounds, swp_sz, siftDown_size]; omega)))) E_
      ·
       intro a42 w42 hN42 hd42 hbs42 hph42 hO42 E42
       have hd42 := hd42.trans hd21
       have s42_0 := (hbs42 0 rfl).trans (sl_base hN21 rfl s21_0)
       have s42_1 := (hbs42 1 rfl).trans (sl_base hN21 rfl s21_1)
       have s42_8 := (hbs42 8 rfl).trans (sl_base hN21 rfl s21_8)
       have s42_9 := (hbs42 9 rfl).trans (sl_base hN21 rfl s21_9)
       have s42_10 := (hbs42 10 rfl).trans (sl_base hN21 rfl s21_10)
       clear hbs42 hph42
       have hO42 : Own w42 base 46 1 v n (((dk.setIfInBounds i2 dk[j2]!).setIfInBounds j2 dk[i2]!).toList.map u16v) := hO42
       have z_w42 := E42.size
       have hb := grow_stepX hb E42 rfl
       refine hK41 _ _ ?_
       refine seq_any fun K43 hK43 => ?_
       refine one_reg ?_
       refine op_move (ev_base hN42 rfl s42_9) ?_
       refine op_add (ev_hit hN42 rfl) rfl (add64 (by omega)) ?_
       refine op_assign (ev_hit hN42 rfl) ?_
       refine reg_nil ?_
       refine hK43 _ _ ?_
       refine one_reg ?_
       refine op_move (ev_base hN42 rfl s42_10) ?_
       refine op_sub (ev_hit hN42 rfl) rfl (sub64 (by omega)) ?_
       refine op_assign (ev_hit hN42 rfl) ?_
       refine reg_nil ?_
       refine blk_normal ?_
       -- round 31T 43F 48F 64F
       have hv2 : scanDown (fun x => ltT dk[a]! x) dk i2 jj = j2 := hv1.trans (scanDown_stop (.inl (by omega)))
       have hne : i2 ≠ j2 := by first | omega | (intro hh; subst hh; rw [c59] at c43; simp at c43)
       exact loop_next _ hN42 hd42 ⟨(i2 + 1), (j2 - 1), _, rfl, (sl_base hN42 rfl s42_0), (sl_base hN42 rfl s42_1), (sl_base hN42 rfl s42_8), (sl_hit hN42 rfl).trans (congrArg (Value.int .i64) (by omega)), (sl_hit hN42 rfl).trans (congrArg (Value.int .i64) (by omega)), (by first | assumption | (simp only [Array.size_setIfInBounds, swp_sz, siftDown_size]; assumption)), (by omega), (hs.trans (pe_go hu2 hv2 (by omega))), hb, (by omega), hO42⟩ (by omega)
  · -- 31F
   refine st_step rfl (fun _ h9 => op_cmp (b := false) (ev_hit hN9 rfl) (ev_hit hN9 rfl) (b_leq (decide_eq_false g31)) h9) ?_
   refine st_step rfl (fun _ h9 => op_move (ev_hit hN9 rfl) h9) ?_
   refine st_g_false (j := 3) (dj := 32) (b := true) rfl rfl rfl (ev_hit hN9 rfl) rfl rfl ?_
   refine st_g_false (j := 3) (dj := 32) (b := true) rfl rfl rfl (ev_hit hN9 rfl) rfl rfl ?_
   refine st_g_false (j := 3) (dj := 32) (b := true) rfl rfl rfl (ev_hit hN9 rfl) rfl rfl ?_
   refine st_g_false (j := 3) (dj := 32) (b := true) rfl rfl rfl (ev_hit hN9 rfl) rfl rfl ?_
   refine st_g_false (j := 3) (dj := 32) (b := true) rfl rfl rfl (ev_hit hN9 rfl) rfl rfl ?_
   refine st_g_false (j := 3) (dj := 32) (b := true) rfl rfl rfl (ev_hit hN9 rfl) rfl rfl ?_
   refine st_g_false (j := 3) (dj := 32) (b := true) rfl rfl rfl (ev_hit hN9 rfl) rfl rfl ?_
   refine st_g_false (j := 3) (dj := 32) (b := true) rfl rfl rfl (ev_hit hN9 rfl) rfl rfl ?_
   refine st_g_false (j := 3) (dj := 32) (b := true) rfl rfl rfl (ev_hit hN9 rfl) rfl rfl ?_
   refine st_g_false (j := 3) (dj := 32) (b := true) rfl rfl rfl (ev_hit hN9 rfl) rfl rfl ?_
   refine st_step rfl (fun _ h9 => op_pick_f (ev_hit hN9 rfl) rfl h9) ?_
   refine st_nil ?_
   refine hK11 _ _ ?_
   refine wp_cond_false (ev_hit hN9 rfl) ?_
   refine wp_exit (then_exit (then_exit (blk_hit ?_)))
   refine hK8 _ _ ?_
   refine seq_any fun K44 hK44 => ?_
   refine wp_block ?_
   have hu2 : scanUp (fun x => !ltT dk[a]! x) dk jj ii = i2 := hu1.trans (scanUp_stop (.inl (by omega)))
   refine loop_m (fun mz_ az_ w' => ∃ (j2 : Nat), mz_ = (j2 + 1) ∧ (az_.tmps.getD 0 undef = v) ∧ (az_.tmps.getD 1 undef = (Value.int .i64 ((a : Nat) : Int))) ∧ (az_.tmps.getD 8 undef = (Value.int .i64 0)) ∧ (az_.tmps.getD 9 undef = (Value.int .i64 ((i2 : Nat) : Int))) ∧ (az_.tmps.getD 10 undef = (Value.int .i64 ((j2 : Nat) : Int))) ∧ (j2 ≤ jj ∧ i2 ≤ j2 + 1) ∧ (scanDown (fun x => ltT dk[a]! x) dk i2 jj = scanDown (fun x => ltT dk[a]! x) dk i2 j2) ∧ (w.grownBy w' v.ownBlock) ∧ (w13.heap.size ≤ w'.heap.size) ∧ (Own w' base 46 1 v n (dk.toList.map u16v))) _ hN9 hd9 ⟨jj, rfl, (sl_base hN9 rfl s9_0), (sl_base hN9 rfl s9_1), (sl_base hN9 rfl s9_8), (sl_base hN9 rfl s9_9), (sl_base hN9 rfl s9_10).trans (congrArg (Value.int .i64) (by omega)), (by omega), rfl, hb, (Nat.le_refl _), hO7⟩ ?_
   rintro _ a45 w45 hN45 hd45 ⟨j2, rfl, s45_0, s45_1, s45_8, s45_9, s45_10, hr3, hv1, hb, zl_w45, hO7⟩
   have z_w45 := hb.size
   refine seq_any fun K46 hK46 => ?_
   refine seq_any fun K47 hK47 => ?_
   refine reg_still mixed (by kernel_rfl) ?_
   intro w49 E48
   have z_w49 := E48.size
   have hO7 := hO7.keep0 E48
   have hb := grow_step0 hb E48
   refine st_step rfl (fun _ h9 => op_move (ev_base hN45 rfl s45_9) h9) ?_
   refine st_step rfl (fun _ h9 => op_move (ev_base hN45 rfl s45_10) h9) ?_
   by_cases g48 : ((i2 : Nat) : Int) ≤ ((j2 : Nat) : Int)
   · -- 48T
    refine st_step rfl (fun _ h9 => op_cmp (b := true) (ev_hit hN45 rfl) (ev_hit hN45 rfl) (b_leq (decide_eq_true g48)) h9) ?_
    refine st_step rfl (fun _ h9 => op_move (ev_hit hN45 rfl) h9) ?_
    refine st_g_true (j := 3) (dj := 49) (b := true) rfl rfl rfl (ev_hit hN45 rfl) ?_
    refine st_step rfl (fun _ h9 => op_move (ev_base hN45 rfl s45_0) h9) ?_
    refine st_g_true (j := 3) (dj := 49) (b := true) rfl rfl rfl (ev_hit hN45 rfl) ?_
    refine st_step rfl (fun _ h9 => op_move (ev_base hN45 rfl s45_1) h9) ?_
    refine st_g_true (j := 3) (dj := 49) (b := true) rfl rfl rfl (ev_hit hN45 rfl) ?_
    refine st_index_rd slt45 (ev_hit hN45 rfl) hO7.rdw (ev_hit hN45 rfl) (by omega) (by omega) ?_
    intro b50 o51 h0b50 h1b50 hc52
    refine st_g_true (j := 3) (dj := 49) (b := true) rfl rfl rfl (ev_hit hN45 rfl) ?_
    refine st_step rfl (fun _ h9 => op_load1 (v := (Value.int .u16 (dk[a]!.toNat : Int))) one46 (ev_hit hN45 rfl) (by have := hc52 0 (Value.int .u16 (dk[a]!.toNat : Int)) (by decide) (el_arr (i := a) (by omega) (by first | omega | (simp only [Array.size_setIfInBounds, swp_sz, siftDown_size]; omega))); simpa using this) h9) ?_
    refine st_g_true (j := 3) (dj := 49) (b := true) rfl rfl rfl (ev_hit hN45 rfl) ?_
    refine st_step rfl (fun _ h9 => op_move (ev_base hN45 rfl s45_0) h9) ?_
    refine st_g_true (j := 3) (dj := 49) (b := true) rfl rfl rfl (ev_hit hN45 rfl) ?_
    refine st_step rfl (fun _ h9 => op_move (ev_base hN45 rfl s45_10) h9) ?_
    refine st_g_true (j := 3) (dj := 49) (b := true) rfl rfl rfl (ev_hit hN45 rfl) ?_
    refine st_index_rd slt45 (ev_hit hN45 rfl) hO7.rdw (ev_hit hN45 rfl) (by omega) (by omega) ?_
    intro b53 o54 h0b53 h1b53 hc55
    refine st_g_true (j := 3) (dj := 49) (b := true) rfl rfl rfl (ev_hit hN45 rfl) ?_
    refine st_step rfl (fun _ h9 => op_load1 (v := (Value.int .u16 (dk[j2]!.toNat : Int))) one46 (ev_hit hN45 rfl) (by have := hc55 0 (Value.int .u16 (dk[j2]!.toNat : Int)) (by decide) (el_arr (i := j2) (by omega) (by first | omega | (simp only [Array.size_setIfInBounds, swp_sz, siftDown_size]; omega))); simpa using this) h9) ?_
    refine st_g_true (j := 3) (dj := 49) (b := true) rfl rfl rfl (ev_hit hN45 rfl) ?_
    refine st_fn (vs := [(Value.int .u16 (dk[a]!.toNat : Int)), (Value.int .u16 (dk[j2]!.toNat : Int))]) ok159 (⟨(ev_hit hN45 rfl), ⟨(ev_hit hN45 rfl), trivial⟩⟩) (Less16_ret dk[a]! dk[j2]! _) ?_
    refine st_step rfl (fun _ h9 => op_pick_t (ev_hit hN45 rfl) (ev_hit hN45 rfl) h9) ?_
    refine st_nil ?_
    refine hK47 _ _ ?_
    refine wp_cond_split (ev_hit hN45 rfl) (fun c59 => ?_) (fun c59 => ?_)
    · -- 59T
     refine wp_skip ?_
     refine hK46 _ _ ?_
     refine wp_block ?_
     refine one_reg ?_
     refine op_move (ev_base hN45 rfl s45_10) ?_
     refine op_sub (ev_hit hN45 rfl) rfl (sub64 (by omega)) ?_
     refine op_assign (ev_hit hN45 rfl) ?_
     refine reg_nil ?_
     refine blk_normal ?_
     -- round 31F 48T 59T
     exact loop_next _ hN45 hd45 ⟨(j2 - 1), rfl, (sl_base hN45 rfl s45_0), (sl_base hN45 rfl s45_1), (sl_base hN45 rfl s45_8), (sl_base hN45 rfl s45_9), (sl_hit hN45 rfl).trans (congrArg (Value.int .i64) (by omega)), (by omega), (hv1.trans (scanDown_go (by omega) (by omega) c59)), hb, (by omega), hO7⟩ (by omega)
    · -- 59F
     refine wp_exit (then_exit (then_exit (blk_hit ?_)))
     refine hK44 _ _ ?_
     refine seq_any fun K56 hK56 => ?_
     refine seq_any fun K57 hK57 => ?_
     refine one_reg ?_
     refine op_move (ev_base hN45 rfl s45_9) ?_
     refine op_move (ev_base hN45 rfl s45_10) ?_
     refine op_gtr (ev_hit hN45 rfl) (ev_hit hN45 rfl) (fun c64 => ?_) (fun c64 => ?_)
     · -- 64T
      refine reg_nil ?_
      refine hK57 _ _ ?_
      refine wp_cond_true (ev_hit hN45 rfl) ?_
      refine wp_exit (then_exit (blk_miss (by decide) (then_exit (blk_hit ?_))))
      refine hK5 _ _ ?_
      refine seq_any fun K58 hK58 => ?_
      refine one_reg ?_
      refine op_move (ev_base hN45 rfl s45_9) ?_
      refine op_assign (ev_hit hN45 rfl) ?_
      refine reg_nil ?_
      refine hK58 _ _ ?_
      refine wp_ret ?_
      refine ret1 rfl hd45 (ev_hit hN45 rfl) ⟨_, rfl, ?_⟩
      -- path 31F 48T 59F 64T
      have hv2 : scanDown (fun x => ltT dk[a]! x) dk i2 jj = j2 := hv1.trans (scanDown_stop (.inr c59))
      have hq : partitionEqual ltT d a b pv = (i2, dk) := hs.trans (pe_stop hu2 hv2 (by omega))
      exact ⟨hb, by first | (rw [hq]; done) | (rw [hq]; rfl), hO7.cast rfl (by rw [hq])⟩
     · -- 64F
      refine reg_nil ?_
      refine hK57 _ _ ?_
      refine wp_cond_false (ev_hit hN45 rfl) ?_
      refine wp_skip ?_
      refine hK56 _ _ ?_
      refine seq_any fun K59 hK59 => ?_
      refine reg_mid (e := 46) (sz := 1) (base := base) (n := n) (v := v) (Φ := phiL [(fun uz _ => uz = v), (fun uz _ => uz = (Value.int .i64 ((i2 : Nat) : Int))), (fun uz _ => uz = v), (fun uz _ => uz = (Value.int .i64 ((j2 : Nat) : Int))), (fun uz _ => uz = v), (fun uz _ => uz = (Value.int .i64 ((j2 : Nat) : Int))), (fun uz _ => ∃ bz oz, uz = ptr bz oz ∧ AtV v j2 bz oz), (fun uz _ => uz = (Value.int .u16 (dk[j2]!.toNat : Int))), (fun uz _ => uz = v), (fun uz _ => uz = (Value.int .i64 ((i2 : Nat) : Int))), (fun uz _ => ∃ bz oz, uz = ptr bz oz ∧ AtV v i2 bz oz), (fun uz _ => uz = (Value.int .u16 (dk[i2]!.toNat : Int))), (fun uz _ => ∃ bz oz, uz = ptr bz oz ∧ AtV v i2 bz oz), (fun _ _ => True), (fun uz _ => ∃ bz oz, uz = ptr bz oz ∧ AtV v j2 bz oz), (fun _ _ => True)]) [13, 15] [(dk.toList.map u16v), ((dk.setIfInBounds i2 dk[j2]!).toList.map u16v), (((dk.setIfInBounds i2 dk[j2]!).setIfInBounds j2 dk[i2]!).toList.map u16v)] mixed (by kernel_rfl) (by kernel_rfl) (by kernel_rfl) (by kernel_rfl) hN45 hO7 (StL.get (StL.eq (StL.eq (StL.eq (StL.eq (StL.eq (StL.eq (StL.at (StL.eq (StL.eq (StL.eq (StL.at (StL.eq (StL.at (StL.cons (fun _ _ _ _ h => h) (StL.at (StL.cons (fun _ _ _ _ h => h) (StL.nil _)))))))))))))))))) (ObRs.get (ObRs.cons ?_ (ObRs.cons ?_ (ObRs.cons ?_ (ObRs.cons ?_ (ObRs.cons ?_ (ObRs.cons ?_ (ObRs.cons ?_ (ObRs.cons ?_ (ObRs.cons ?_ (ObRs.cons ?_ (ObRs.cons ?_ (ObRs.cons ?_ (ObRs.cons ?_ (ObRs.pass rfl (ObRs.cons ?_ (ObRs.pass rfl (ObRs.nil)))))))))))))))))) (ObWs.get (ObWs.cons ?_ (ObWs.cons ?_ (ObWs.nil)))) ?_
      ·
       intro aA wA cA hNA hRA hckA hOA hbsA hdpA
       have qA_0 := (hbsA 0 rfl).trans (sl_base hN45 rfl s45_0)
       clear hbsA hdpA
       refine op_move (ev_base hNA rfl qA_0) ?_
       exact obR_end rfl rfl (grown_refl _ _)
      ·
       intro aA wA cA hNA hRA hckA hOA hbsA hdpA
       have qA_9 := (hbsA 9 rfl).trans (sl_base hN45 rfl s45_9)
       clear hbsA hdpA
       refine op_move (ev_base hNA rfl qA_9) ?_
       exact obR_end rfl rfl (grown_refl _ _)
      ·
       intro aA wA cA hNA hRA hckA hOA hbsA hdpA
       have qA_0 := (hbsA 0 rfl).trans (sl_base hN45 rfl s45_0)
       clear hbsA hdpA
       refine op_move (ev_base hNA rfl qA_0) ?_
       exact obR_end rfl rfl (grown_refl _ _)
      ·
       intro aA wA cA hNA hRA hckA hOA hbsA hdpA
       have qA_10 := (hbsA 10 rfl).trans (sl_base hN45 rfl s45_10)
       clear hbsA hdpA
       refine op_move (ev_base hNA rfl qA_10) ?_
       exact obR_end rfl rfl (grown_refl _ _)
      ·
       intro aA wA cA hNA hRA hckA hOA hbsA hdpA
       have qA_0 := (hbsA 0 rfl).trans (sl_base hN45 rfl s45_0)
       clear hbsA hdpA
       refine op_move (ev_base hNA rfl qA_0) ?_
       exact obR_end rfl rfl (grown_refl _ _)
      ·
       intro aA wA cA hNA hRA hckA hOA hbsA hdpA
       have qA_10 := (hbsA 10 rfl).trans (sl_base hN45 rfl s45_10)
       clear hbsA hdpA
       refine op_move (ev_base hNA rfl qA_10) ?_
       exact obR_end rfl rfl (grown_refl _ _)
      ·
       intro aA wA cA hNA hRA hckA hOA hbsA hdpA
       have qA_69 : Sl aA 69 v := hdpA 4 _ 69 (by kernel_rfl) rfl rfl
       have qA_70 : Sl aA 70 (Value.int .i64 ((j2 : Nat) : Int)) := hdpA 5 _ 70 (by kernel_rfl) rfl rfl
       clear hbsA hdpA
       refine op_index_own (i := j2) slt45 (ev_base hNA rfl qA_69) hOA (ev_base hNA rfl qA_70) (by omega) (by omega) ?_
       intro b_ o_ _ hA_
       exact obR_end rfl ⟨b_, o_, rfl, by simpa using hA_⟩ (grown_refl _ _)
      ·
       intro aA wA cA hNA hRA hckA hOA hbsA hdpA
       obtain ⟨bA_71, oA_71, qA_71, hAA_71⟩ := hdpA 6 _ 71 (by kernel_rfl) rfl rfl
       clear hbsA hdpA
       obtain rfl : cA = 0 := Nat.le_zero.1 (hckA 0 13 rfl (by kernel_rfl))
       have hOA : Own wA base 46 1 v n (dk.toList.map u16v) := hOA
       refine op_load1 (v := (Value.int .u16 (dk[j2]!.toNat : Int))) one46 (ev_base hNA rfl qA_71) (by have := hOA.cellAt hAA_71 0 _ (el_at (i := j2) (by first | omega | (simp only [Array.size_setIfInBounds, swp_sz, siftDown_size]; omega))); simpa using this) ?_
       exact obR_end rfl rfl (grown_refl _ _)
      ·
       intro aA wA cA hNA hRA hckA hOA hbsA hdpA
       have qA_0 := (hbsA 0 rfl).trans (sl_base hN45 rfl s45_0)
       clear hbsA hdpA
       refine op_move (ev_base hNA rfl qA_0) ?_
       exact obR_end rfl rfl (grown_refl _ _)
      ·
       intro aA wA cA hNA hRA hckA hOA hbsA hdpA
       have qA_9 := (hbsA 9 rfl).trans (sl_base hN45 rfl s45_9)
       clear hbsA hdpA
       refine op_move (ev_base hNA rfl qA_9) ?_
       exact obR_end rfl rfl (grown_refl _ _)
      ·
       intro aA wA cA hNA hRA hckA hOA hbsA hdpA
       have qA_73 : Sl aA 73 v := hdpA 8 _ 73 (by kernel_rfl) rfl rfl
       have qA_74 : Sl aA 74 (Value.int .i64 ((i2 : Nat) : Int)) := hdpA 9 _ 74 (by kernel_rfl) rfl rfl
       clear hbsA hdpA
       refine op_index_own (i := i2) slt45 (ev_base hNA rfl qA_73) hOA (ev_base hNA rfl qA_74) (by omega) (by omega) ?_
       intro b_ o_ _ hA_
       exact obR_end rfl ⟨b_, o_, rfl, by simpa using hA_⟩ (grown_refl _ _)
      ·
       intro aA wA cA hNA hRA hckA hOA hbsA hdpA
       obtain ⟨bA_75, oA_75, qA_75, hAA_75⟩ := hdpA 10 _ 75 (by kernel_rfl) rfl rfl
       clear hbsA hdpA
       obtain rfl : cA = 0 := Nat.le_zero.1 (hckA 0 13 rfl (by kernel_rfl))
       have hOA : Own wA base 46 1 v n (dk.toList.map u16v) := hOA
       refine op_load1 (v := (Value.int .u16 (dk[i2]!.toNat : Int))) one46 (ev_base hNA rfl qA_75) (by have := hOA.cellAt hAA_75 0 _ (el_at (i := i2) (by first | omega | (simp only [Array.size_setIfInBounds, swp_sz, siftDown_size]; omega))); simpa using this) ?_
       exact obR_end rfl rfl (grown_refl _ _)
      ·
       intro aA wA cA hNA hRA hckA hOA hbsA hdpA
       have qA_65 : Sl aA 65 v := hdpA 0 _ 65 (by kernel_rfl) rfl rfl
       have qA_66 : Sl aA 66 (Value.int .i64 ((i2 : Nat) : Int)) := hdpA 1 _ 66 (by kernel_rfl) rfl rfl
       clear hbsA hdpA
       refine op_index_own (i := i2) slt45 (ev_base hNA rfl qA_65) hOA (ev_base hNA rfl qA_66) (by omega) (by omega) ?_
       intro b_ o_ _ hA_
       exact obR_end rfl ⟨b_, o_, rfl, by simpa using hA_⟩ (grown_refl _ _)
      ·
       intro aA wA cA hNA hRA hckA hOA hbsA hdpA
       have qA_67 : Sl aA 67 v := hdpA 2 _ 67 (by kernel_rfl) rfl rfl
       have qA_68 : Sl aA 68 (Value.int .i64 ((j2 : Nat) : Int)) := hdpA 3 _ 68 (by kernel_rfl) rfl rfl
       clear hbsA hdpA
       refine op_index_own (i := j2) slt45 (ev_base hNA rfl qA_67) hOA (ev_base hNA rfl qA_68) (by omega) (by omega) ?_
       intro b_ o_ _ hA_
       exact obR_end rfl ⟨b_, o_, rfl, by simpa using hA_⟩ (grown_refl _ _)
      ·
       intro o_ ho_; obtain rfl := Option.some.inj ho_; intro aA wA hNA hRA hbsA hdpA hOA
       obtain ⟨bA_77, oA_77, qA_77, hAA_77⟩ := hdpA 12 _ 77 (by kernel_rfl) rfl rfl
       have qA_72 : Sl aA 72 (Value.int .u16 (dk[j2]!.toNat : Int)) := hdpA 7 _ 72 (by kernel_rfl) rfl rfl
       clear hbsA hdpA
       have hOA : Own wA base 46 1 v n (dk.toList.map u16v) := hOA
       refine op_store_own (vs := [(Value.int .u16 (dk[j2]!.toNat : Int))]) size46 (ev_base hNA rfl qA_77) (ev_base hNA rfl qA_72) rfl rfl rfl hOA hAA_77 (by have := hOA.1; simp at this ⊢; omega) ?_
       intro w_ hO_ E_
       exact obW_end rfl (hO_.cast rfl (set_arr (by first | omega | (simp only [Array.size_setIfInBounds, swp_sz, siftDown_size]; omega)))) E_
      ·
       intro o_ ho_; obtain rfl := Option.some.inj ho_; intro aA wA hNA hRA hbsA hdpA hOA
       obtain ⟨bA_78, oA_78, qA_78, hAA_78⟩ := hdpA 14 _ 78 (by kernel_rfl) rfl rfl
       have qA_76 : Sl aA 76 (Value.int .u16 (dk[i2]!.toNat : Int)) := hdpA 11 _ 76 (by kernel_rfl) rfl rfl
       clear hbsA hdpA
       have hOA : Own wA base 46 1 v n ((dk.setIfInBounds i2 dk[j2]!).toList.map u16v) := hOA
       refine op_store_own (vs := [(Value.int .u16 (dk[i2]!.toNat : Int))]) size46 (ev_base hNA rfl qA_78) (ev_base hNA rfl qA_76) rfl rfl rfl hOA hAA_78 (by have := hOA.1; simp at this ⊢; omega) ?_
       intro w_ hO_ E_
       exact obW_end rfl (hO_.cast rfl (set_arr (by first | omega | (simp only [Array.size_setIfInBounds, swp_sz, siftDown_size]; omega)))) E_
      ·
       intro a60 w60 hN60 hd60 hbs60 hph60 hO60 E60
       have hd60 := hd60.trans hd45
       have s60_0 := (hbs60 0 rfl).trans (sl_base hN45 rfl s45_0)
       have s60_1 := (hbs60 1 rfl).trans (sl_base hN45 rfl s45_1)
       have s60_8 := (hbs60 8 rfl).trans (sl_base hN45 rfl s45_8)
       have s60_9 := (hbs60 9 rfl).trans (sl_base hN45 rfl s45_9)
       have s60_10 := (hbs60 10 rfl).trans (sl_base hN45 rfl s45_10)
       clear hbs60 hph60
       have hO60 : Own w60 base 46 1 v n (((dk.setIfInBounds i2 dk[j2]!).setIfInBounds j2 dk[i2]!).toList.map u16v) := hO60
       have z_w60 := E60.size
       have hb := grow_stepX hb E60 rfl
       refine hK59 _ _ ?_
       refine seq_any fun K61 hK61 => ?_
       refine one_reg ?_
       refine op_move (ev_base hN60 rfl s60_9) ?_
       refine op_add (ev_hit hN60 rfl) rfl (add64 (by omega)) ?_
       refine op_assign (ev_hit hN60 rfl) ?_
       refine reg_nil ?_
       refine hK61 _ _ ?_
       refine one_reg ?_
       refine op_move (ev_base hN60 rfl s60_10) ?_
       refine op_sub (ev_hit hN60 rfl) rfl (sub64 (by omega)) ?_
       refine op_assign (ev_hit hN60 rfl) ?_
       refine reg_nil ?_
       refine blk_normal ?_
       -- round 31F 48T 59F 64F
       have hv2 : scanDown (fun x => ltT dk[a]! x) dk i2 jj = j2 := hv1.trans (scanDown_stop (.inr c59))
       have hne : i2 ≠ j2 := by first | omega | (intro hh; subst hh; rw [c59] at c43; simp at c43)
       exact loop_next _ hN60 hd60 ⟨(i2 + 1), (j2 - 1), _, rfl, (sl_base hN60 rfl s60_0), (sl_base hN60 rfl s60_1), (sl_base hN60 rfl s60_8), (sl_hit hN60 rfl).trans (congrArg (Value.int .i64) (by omega)), (sl_hit hN60 rfl).trans (congrArg (Value.int .i64) (by omega)), (by first | assumption | (simp only [Array.size_setIfInBounds, swp_sz, siftDown_size]; assumption)), (by omega), (hs.trans (pe_go hu2 hv2 (by omega))), hb, (by omega), hO60⟩ (by omega)
   · -- 48F
    refine st_step rfl (fun _ h9 => op_cmp (b := false) (ev_hit hN45 rfl) (ev_hit hN45 rfl) (b_leq (decide_eq_false g48)) h9) ?_
    refine st_step rfl (fun _ h9 => op_move (ev_hit hN45 rfl) h9) ?_
    refine st_g_false (j := 3) (dj := 49) (b := true) rfl rfl rfl (ev_hit hN45 rfl) rfl rfl ?_
    refine st_g_false (j := 3) (dj := 49) (b := true) rfl rfl rfl (ev_hit hN45 rfl) rfl rfl ?_
    refine st_g_false (j := 3) (dj := 49) (b := true) rfl rfl rfl (ev_hit hN45 rfl) rfl rfl ?_
    refine st_g_false (j := 3) (dj := 49) (b := true) rfl rfl rfl (ev_hit hN45 rfl) rfl rfl ?_
    refine st_g_false (j := 3) (dj := 49) (b := true) rfl rfl rfl (ev_hit hN45 rfl) rfl rfl ?_
    refine st_g_false (j := 3) (dj := 49) (b := true) rfl rfl rfl (ev_hit hN45 rfl) rfl rfl ?_
    refine st_g_false (j := 3) (dj := 49) (b := true) rfl rfl rfl (ev_hit hN45 rfl) rfl rfl ?_
    refine st_g_false (j := 3) (dj := 49) (b := true) rfl rfl rfl (ev_hit hN45 rfl) rfl rfl ?_
    refine st_g_false (j := 3) (dj := 49) (b := true) rfl rfl rfl (ev_hit hN45 rfl) rfl rfl ?_
    refine st_step rfl (fun _ h9 => op_pick_f (ev_hit hN45 rfl) rfl h9) ?_
    refine st_nil ?_
    refine hK47 _ _ ?_
    refine wp_cond_false (ev_hit hN45 rfl) ?_
    refine wp_exit (then_exit (then_exit (blk_hit ?_)))
    refine hK44 _ _ ?_
    refine seq_any fun K62 hK62 => ?_
    refine seq_any fun K63 hK63 => ?_
    refine one_reg ?_
    refine op_move (ev_base hN45 rfl s45_9) ?_
    refine op_move (ev_base hN45 rfl s45_10) ?_
    refine op_gtr (ev_hit hN45 rfl) (ev_hit hN45 rfl) (fun c64 => ?_) (fun c64 => ?_)
    · -- 64T
     refine reg_nil ?_
     refine hK63 _ _ ?_
     refine wp_cond_true (ev_hit hN45 rfl) ?_
     refine wp_exit (then_exit (blk_miss (by decide) (then_exit (blk_hit ?_))))
     refine hK5 _ _ ?_
     refine seq_any fun K64 hK64 => ?_
     refine one_reg ?_
     refine op_move (ev_base hN45 rfl s45_9) ?_
     refine op_assign (ev_hit hN45 rfl) ?_
     refine reg_nil ?_
     refine hK64 _ _ ?_
     refine wp_ret ?_
     refine ret1 rfl hd45 (ev_hit hN45 rfl) ⟨_, rfl, ?_⟩
     -- path 31F 48F 64T
     have hv2 : scanDown (fun x => ltT dk[a]! x) dk i2 jj = j2 := hv1.trans (scanDown_stop (.inl (by omega)))
     have hq : partitionEqual ltT d a b pv = (i2, dk) := hs.trans (pe_stop hu2 hv2 (by omega))
     exact ⟨hb, by first | (rw [hq]; done) | (rw [hq]; rfl), hO7.cast rfl (by rw [hq])⟩
    · -- 64F
     refine reg_nil ?_
     refine hK63 _ _ ?_
     refine wp_cond_false (ev_hit hN45 rfl) ?_
     refine wp_skip ?_
     refine hK62 _ _ ?_
     refine seq_any fun K65 hK65 => ?_
     refine reg_mid (e := 46) (sz := 1) (base := base) (n := n) (v := v) (Φ := phiL [(fun uz _ => uz = v), (fun uz _ => uz = (Value.int .i64 ((i2 : Nat) : Int))), (fun uz _ => uz = v), (fun uz _ => uz = (Value.int .i64 ((j2 : Nat) : Int))), (fun uz _ => uz = v), (fun uz _ => uz = (Value.int .i64 ((j2 : Nat) : Int))), (fun uz _ => ∃ bz oz, uz = ptr bz oz ∧ AtV v j2 bz oz), (fun uz _ => uz = (Value.int .u16 (dk[j2]!.toNat : Int))), (fun uz _ => uz = v), (fun uz _ => uz = (Value.int .i64 ((i2 : Nat) : Int))), (fun uz _ => ∃ bz oz, uz = ptr bz oz ∧ AtV v i2 bz oz), (fun uz _ => uz = (Value.int .u16 (dk[i2]!.toNat : Int))), (fun uz _ => ∃ bz oz, uz = ptr bz oz ∧ AtV v i2 bz oz), (fun _ _ => True), (fun uz _ => ∃ bz oz, uz = ptr bz oz ∧ AtV v j2 bz oz), (fun _ _ => True)]) [13, 15] [(dk.toList.map u16v), ((dk.setIfInBounds i2 dk[j2]!).toList.map u16v), (((dk.setIfInBounds i2 dk[j2]!).setIfInBounds j2 dk[i2]!).toList.map u16v)] mixed (by kernel_rfl) (by kernel_rfl) (by kernel_rfl) (by kernel_rfl) hN45 hO7 (StL.get (StL.eq (StL.eq (StL.eq (StL.eq (StL.eq (StL.eq (StL.at (StL.eq (StL.eq (StL.eq (StL.at (StL.eq (StL.at (StL.cons (fun _ _ _ _ h => h) (StL.at (StL.cons (fun _ _ _ _ h => h) (StL.nil _)))))))))))))))))) (ObRs.get (ObRs.cons ?_ (ObRs.cons ?_ (ObRs.cons ?_ (ObRs.cons ?_ (ObRs.cons ?_ (ObRs.cons ?_ (ObRs.cons ?_ (ObRs.cons ?_ (ObRs.cons ?_ (ObRs.cons ?_ (ObRs.cons ?_ (ObRs.cons ?_ (ObRs.cons ?_ (ObRs.pass rfl (ObRs.cons ?_ (ObRs.pass rfl (ObRs.nil)))))))))))))))))) (ObWs.get (ObWs.cons ?_ (ObWs.cons ?_ (ObWs.nil)))) ?_
     ·
      intro aA wA cA hNA hRA hckA hOA hbsA hdpA
      have qA_0 := (hbsA 0 rfl).trans (sl_base hN45 rfl s45_0)
      clear hbsA hdpA
      refine op_move (ev_base hNA rfl qA_0) ?_
      exact obR_end rfl rfl (grown_refl _ _)
     ·
      intro aA wA cA hNA hRA hckA hOA hbsA hdpA
      have qA_9 := (hbsA 9 rfl).trans (sl_base hN45 rfl s45_9)
      clear hbsA hdpA
      refine op_move (ev_base hNA rfl qA_9) ?_
      exact obR_end rfl rfl (grown_refl _ _)
     ·
      intro aA wA cA hNA hRA hckA hOA hbsA hdpA
      have qA_0 := (hbsA 0 rfl).trans (sl_base hN45 rfl s45_0)
      clear hbsA hdpA
      refine op_move (ev_base hNA rfl qA_0) ?_
      exact obR_end rfl rfl (grown_refl _ _)
     ·
      intro aA wA cA hNA hRA hckA hOA hbsA hdpA
      have qA_10 := (hbsA 10 rfl).trans (sl_base hN45 rfl s45_10)
      clear hbsA hdpA
      refine op_move (ev_base hNA rfl qA_10) ?_
      exact obR_end rfl rfl (grown_refl _ _)
     ·
      intro aA wA cA hNA hRA hckA hOA hbsA hdpA
      have qA_0 := (hbsA 0 rfl).trans (sl_base hN45 rfl s45_0)
      clear hbsA hdpA
      refine op_move (ev_base hNA rfl qA_0) ?_
      exact obR_end rfl rfl (grown_refl _ _)
     ·
      intro aA wA cA hNA hRA hckA hOA hbsA hdpA
      have qA_10 := (hbsA 10 rfl).trans (sl_base hN45 rfl s45_10)
      clear hbsA hdpA
      refine op_move (ev_base hNA rfl qA_10) ?_
      exact obR_end rfl rfl (grown_refl _ _)
     ·
      intro aA wA cA hNA hRA hckA hOA hbsA hdpA
      have qA_69 : Sl aA 69 v := hdpA 4 _ 69 (by kernel_rfl) rfl rfl
      have qA_70 : Sl aA 70 (Value.int .i64 ((j2 : Nat) : Int)) := hdpA 5 _ 70 (by kernel_rfl) rfl rfl
      clear hbsA hdpA
      refine op_index_own (i := j2) slt45 (ev_base hNA rfl qA_69) hOA (ev_base hNA rfl qA_70) (by omega) (by omega) ?_
      intro b_ o_ _ hA_
      exact obR_end rfl ⟨b_, o_, rfl, by simpa using hA_⟩ (grown_refl _ _)
     ·
      intro aA wA cA hNA hRA hckA hOA hbsA hdpA
      obtain ⟨bA_71, oA_71, qA_71, hAA_71⟩ := hdpA 6 _ 71 (by kernel_rfl) rfl rfl
      clear hbsA hdpA
      obtain rfl : cA = 0 := Nat.le_zero.1 (hckA 0 13 rfl (by kernel_rfl))
      have hOA : Own wA base 46 1 v n (dk.toList.map u16v) := hOA
      refine op_load1 (v := (Value.int .u16 (dk[j2]!.toNat : Int))) one46 (ev_base hNA rfl qA_71) (by have := hOA.cellAt hAA_71 0 _ (el_at (i := j2) (by first | omega | (simp only [Array.size_setIfInBounds, swp_sz, siftDown_size]; omega))); simpa using this) ?_
      exact obR_end rfl rfl (grown_refl _ _)
     ·
      intro aA wA cA hNA hRA hckA hOA hbsA hdpA
      have qA_0 := (hbsA 0 rfl).trans (sl_base hN45 rfl s45_0)
      clear hbsA hdpA
      refine op_move (ev_base hNA rfl qA_0) ?_
      exact obR_end rfl rfl (grown_refl _ _)
     ·
      intro aA wA cA hNA hRA hckA hOA hbsA hdpA
      have qA_9 := (hbsA 9 rfl).trans (sl_base hN45 rfl s45_9)
      clear hbsA hdpA
      refine op_move (ev_base hNA rfl qA_9) ?_
      exact obR_end rfl rfl (grown_refl _ _)
     ·
      intro aA wA cA hNA hRA hckA hOA hbsA hdpA
      have qA_73 : Sl aA 73 v := hdpA 8 _ 73 (by kernel_rfl) rfl rfl
      have qA_74 : Sl aA 74 (Value.int .i64 ((i2 : Nat) : Int)) := hdpA 9 _ 74 (by kernel_rfl) rfl rfl
      clear hbsA hdpA
      refine op_index_own (i := i2) slt45 (ev_base hNA rfl qA_73) hOA (ev_base hNA rfl qA_74) (by omega) (by omega) ?_
      intro b_ o_ _ hA_
      exact obR_end rfl ⟨b_, o_, rfl, by simpa using hA_⟩ (grown_refl _ _)
     ·
      intro aA wA cA hNA hRA hckA hOA hbsA hdpA
      obtain ⟨bA_75, oA_75, qA_75, hAA_75⟩ := hdpA 10 _ 75 (by kernel_rfl) rfl rfl
      clear hbsA hdpA
      obtain rfl : cA = 0 := Nat.le_zero.1 (hckA 0 13 rfl (by kernel_rfl))
      have hOA : Own wA base 46 1 v n (dk.toList.map u16v) := hOA
      refine op_load1 (v := (Value.int .u16 (dk[i2]!.toNat : Int))) one46 (ev_base hNA rfl qA_75) (by have := hOA.cellAt hAA_75 0 _ (el_at (i := i2) (by first | omega | (simp only [Array.size_setIfInBounds, swp_sz, siftDown_size]; omega))); simpa using this) ?_
      exact obR_end rfl rfl (grown_refl _ _)
     ·
      intro aA wA cA hNA hRA hckA hOA hbsA hdpA
      have qA_65 : Sl aA 65 v := hdpA 0 _ 65 (by kernel_rfl) rfl rfl
      have qA_66 : Sl aA 66 (Value.int .i64 ((i2 : Nat) : Int)) := hdpA 1 _ 66 (by kernel_rfl) rfl rfl
      clear hbsA hdpA
      refine op_index_own (i := i2) slt45 (ev_base hNA rfl qA_65) hOA (ev_base hNA rfl qA_66) (by omega) (by omega) ?_
      intro b_ o_ _ hA_
      exact obR_end rfl ⟨b_, o_, rfl, by simpa using hA_⟩ (grown_refl _ _)
     ·
      intro aA wA cA hNA hRA hckA hOA hbsA hdpA
      have qA_67 : Sl aA 67 v := hdpA 2 _ 67 (by kernel_rfl) rfl rfl
      have qA_68 : Sl aA 68 (Value.int .i64 ((j2 : Nat) : Int)) := hdpA 3 _ 68 (by kernel_rfl) rfl rfl
      clear hbsA hdpA
      refine op_index_own (i := j2) slt45 (ev_base hNA rfl qA_67) hOA (ev_base hNA rfl qA_68) (by omega) (by omega) ?_
      intro b_ o_ _ hA_
      exact obR_end rfl ⟨b_, o_, rfl, by simpa using hA_⟩ (grown_refl _ _)
     ·
      intro o_ ho_; obtain rfl := Option.some.inj ho_; intro aA wA hNA hRA hbsA hdpA hOA
      obtain ⟨bA_77, oA_77, qA_77, hAA_77⟩ := hdpA 12 _ 77 (by kernel_rfl) rfl rfl
      have qA_72 : Sl aA 72 (Value.int .u16 (dk[j2]!.toNat : Int)) := hdpA 7 _ 72 (by kernel_rfl) rfl rfl
      clear hbsA hdpA
      have hOA : Own wA base 46 1 v n (dk.toList.map u16v) := hOA
      refine op_store_own (vs := [(Value.int .u16 (dk[j2]!.toNat : Int))]) size46 (ev_base hNA rfl qA_77) (ev_base hNA rfl qA_72) rfl rfl rfl hOA hAA_77 (by have := hOA.1; simp at this ⊢; omega) ?_
      intro w_ hO_ E_
      exact obW_end rfl (hO_.cast rfl (set_arr (by first | omega | (simp only [Array.size_setIfInBounds, swp_sz, siftDown_size]; omega)))) E_
     ·
      intro o_ ho_; obtain rfl := Option.some.inj ho_; intro aA wA hNA hRA hbsA hdpA hOA
      obtain ⟨bA_78, oA_78, qA_78, hAA_78⟩ := hdpA 14 _ 78 (by kernel_rfl) rfl rfl
      have qA_76 : Sl aA 76 (Value.int .u16 (dk[i2]!.toNat : Int)) := hdpA 11 _ 76 (by kernel_rfl) rfl rfl
      clear hbsA hdpA
      have hOA : Own wA base 46 1 v n ((dk.setIfInBounds i2 dk[j2]!).toList.map u16v) := hOA
      refine op_store_own (vs := [(Value.int .u16 (dk[i2]!.toNat : Int))]) size46 (ev_base hNA rfl qA_78) (ev_base hNA rfl qA_76) rfl rfl rfl hOA hAA_78 (by have := hOA.1; simp at this ⊢; omega) ?_
      intro w_ hO_ E_
      exact obW_end rfl (hO_.cast rfl (set_arr (by first | omega | (simp only [Array.size_setIfInBounds, swp_sz, siftDown_size]; omega)))) E_
     ·
      intro a66 w66 hN66 hd66 hbs66 hph66 hO66 E66
      have hd66 := hd66.trans hd45
      have s66_0 := (hbs66 0 rfl).trans (sl_base hN45 rfl s45_0)
      have s66_1 := (hbs66 1 rfl).trans (sl_base hN45 rfl s45_1)
      have s66_8 := (hbs66 8 rfl).trans (sl_base hN45 rfl s45_8)
      have s66_9 := (hbs66 9 rfl).trans (sl_base hN45 rfl s45_9)
      have s66_10 := (hbs66 10 rfl).trans (sl_base hN45 rfl s45_10)
      clear hbs66 hph66
      have hO66 : Own w66 base 46 1 v n (((dk.setIfInBounds i2 dk[j2]!).setIfInBounds j2 dk[i2]!).toList.map u16v) := hO66
      have z_w66 := E66.size
      have hb := grow_stepX hb E66 rfl
      refine hK65 _ _ ?_
      refine seq_any fun K67 hK67 => ?_
      refine one_reg ?_
      refine op_move (ev_base hN66 rfl s66_9) ?_
      refine op_add (ev_hit hN66 rfl) rfl (add64 (by omega)) ?_
      refine op_assign (ev_hit hN66 rfl) ?_
      refine reg_nil ?_
      refine hK67 _ _ ?_
      refine one_reg ?_
      refine op_move (ev_base hN66 rfl s66_10) ?_
      refine op_sub (ev_hit hN66 rfl) rfl (sub64 (by omega)) ?_
      refine op_assign (ev_hit hN66 rfl) ?_
      refine reg_nil ?_
      refine blk_normal ?_
      -- round 31F 48F 64F
      have hv2 : scanDown (fun x => ltT dk[a]! x) dk i2 jj = j2 := hv1.trans (scanDown_stop (.inl (by omega)))
      have hne : i2 ≠ j2 := by first | omega | (intro hh; subst hh; rw [c59] at c43; simp at c43)
      exact loop_next _ hN66 hd66 ⟨(i2 + 1), (j2 - 1), _, rfl, (sl_base hN66 rfl s66_0), (sl_base hN66 rfl s66_1), (sl_base hN66 rfl s66_8), (sl_hit hN66 rfl).trans (congrArg (Value.int .i64) (by omega)), (sl_hit hN66 rfl).trans (congrArg (Value.int .i64) (by omega)), (by first | assumption | (simp only [Array.size_setIfInBounds, swp_sz, siftDown_size]; assumption)), (by omega), (hs.trans (pe_go hu2 hv2 (by omega))), hb, (by omega), hO66⟩ (by omega)

end Go.Proofs.Ytmhdbphpmgjpcaa
