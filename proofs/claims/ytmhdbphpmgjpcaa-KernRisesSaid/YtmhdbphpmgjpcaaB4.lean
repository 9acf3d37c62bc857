/- Walks, written by a program: what each function of the translation hands back. -/
import Derived.Test.YtmhdbphpmgjpcaaB3
namespace Go.Proofs.Ytmhdbphpmgjpcaa
open Go.Gx Go.RowKit
attribute [local irreducible] wpList wpStill Code.wp Calls
open Go.Sort (insertionSort insOuter insInner swp siftDown heapSort heapBuild heapPop scanUp scanDown partition partLoop partitionEqual partEqLoop scanSorted partialIns bitsLen partialInsertionSort shiftDown shiftUp SortedIn reverseRange reverseLoop fixDown fixUp)
set_option maxHeartbeats 2000000 in
theorem partW_ret (d : Ar) (v : Value) (n base : Nat) (a b pv : Nat) (w : World) (hd : d.size = n) (hn : n ≤ 4000000000000000000) (O : Own w base 46 1 v n (d.toList.map u16v)) (hap : a ≤ pv) (hpb : pv < b) (hbn : b ≤ n) : Ret Try.prog 161 #[v, (Value.int .i64 ((a : Nat) : Int)), (Value.int .i64 ((b : Nat) : Int)), (Value.int .i64 ((pv : Nat) : Int))] w (fun v' w' => w.grownBy w' v.ownBlock ∧ v' = .tuple #[.int .i64 ((partition ltT d a b pv).1 : Int), .bool (partition ltT d a b pv).2.1] ∧ Own w' base 46 1 v n ((partition ltT d a b pv).2.2.toList.map u16v)) := by
 have hb := grown_refl w v.ownBlock
 refine enter (N := 168) Try.func161 rfl rfl (by simp) fun a0 hN hd hA => ?_
 have s0 : a0.tmps.getD 0 undef = v := hA 0 (by simp)
 have s1 : a0.tmps.getD 1 undef = (Value.int .i64 ((a : Nat) : Int)) := hA 1 (by simp)
 have s2 : a0.tmps.getD 2 undef = (Value.int .i64 ((b : Nat) : Int)) := hA 2 (by simp)
 have s3 : a0.tmps.getD 3 undef = (Value.int .i64 ((pv : Nat) : Int)) := hA 3 (by simp)
 clear hA
 refine seq_any fun K1 hK1 => ?_
 refine one_reg ?_
 refine op_assign rfl ?_
 refine op_assign rfl ?_
 refine reg_nil ?_
 refine hK1 _ _ ?_
 refine seq_any fun K2 hK2 => ?_
 refine reg_mid (e := 46) (sz := 1) (base := base) (n := n) (v := v) (Φ := phiL [(fun uz _ => uz = v), (fun uz _ => uz = (Value.int .i64 ((a : Nat) : Int))), (fun uz _ => uz = v), (fun uz _ => uz = (Value.int .i64 ((pv : Nat) : Int))), (fun uz _ => uz = v), (fun uz _ => uz = (Value.int .i64 ((pv : Nat) : Int))), (fun uz _ => ∃ bz oz, uz = ptr bz oz ∧ AtV v pv bz oz), (fun uz _ => uz = (Value.int .u16 (d[pv]!.toNat : Int))), (fun uz _ => uz = v), (fun uz _ => uz = (Value.int .i64 ((a : Nat) : Int))), (fun uz _ => ∃ bz oz, uz = ptr bz oz ∧ AtV v a bz oz), (fun uz _ => uz = (Value.int .u16 (d[a]!.toNat : Int))), (fun uz _ => ∃ bz oz, uz = ptr bz oz ∧ AtV v a bz oz), (fun _ _ => True), (fun uz _ => ∃ bz oz, uz = ptr bz oz ∧ AtV v pv bz oz), (fun _ _ => True)]) [13, 15] [(d.toList.map u16v), ((d.setIfInBounds a d[pv]!).toList.map u16v), (((d.setIfInBounds a d[pv]!).setIfInBounds pv d[a]!).toList.map u16v)] mixed (by kernel_rfl) (by kernel_rfl) (by kernel_rfl) (by kernel_rfl) hN O (StL.get (StL.eq (StL.eq (StL.eq (StL.eq (StL.eq (StL.eq (StL.at (StL.eq (StL.eq (StL.eq (StL.at (StL.eq (StL.at (StL.cons (fun _ _ _ _ h => h) (StL.at (StL.cons (fun _ _ _ _ h => h) (StL.nil _)))))))))))))))))) (ObRs.get (ObRs.cons ?_ (ObRs.cons ?_ (ObRs.cons ?_ (ObRs.cons ?_ (ObRs.cons ?_ (ObRs.cons ?_ (ObRs.cons ?_ (ObRs.cons ?_ (ObRs.cons ?_ (ObRs.cons ?_ (ObRs.cons ?_ (ObRs.cons ?_ (ObRs.cons ?_ (ObRs.pass rfl (ObRs.cons ?_ (ObRs.pass rfl (ObRs.nil)))))))))))))))))) (ObWs.get (ObWs.cons ?_ (ObWs.cons ?_ (ObWs.nil)))) ?_
 ·
  intro aA wA cA hNA hRA hckA hOA hbsA hdpA
  have qA_0 := (hbsA 0 rfl).trans (sl_base hN rfl s0)
  clear hbsA hdpA
  refine op_move (ev_base hNA rfl qA_0) ?_
  exact obR_end rfl rfl (grown_refl _ _)
 ·
  intro aA wA cA hNA hRA hckA hOA hbsA hdpA
  have qA_1 := (hbsA 1 rfl).trans (sl_base hN rfl s1)
  clear hbsA hdpA
  refine op_move (ev_base hNA rfl qA_1) ?_
  exact obR_end rfl rfl (grown_refl _ _)
 ·
  intro aA wA cA hNA hRA hckA hOA hbsA hdpA
  have qA_0 := (hbsA 0 rfl).trans (sl_base hN rfl s0)
  clear hbsA hdpA
  refine op_move (ev_base hNA rfl qA_0) ?_
  exact obR_end rfl rfl (grown_refl _ _)
 ·
  intro aA wA cA hNA hRA hckA hOA hbsA hdpA
  have qA_3 := (hbsA 3 rfl).trans (sl_base hN rfl s3)
  clear hbsA hdpA
  refine op_move (ev_base hNA rfl qA_3) ?_
  exact obR_end rfl rfl (grown_refl _ _)
 ·
  intro aA wA cA hNA hRA hckA hOA hbsA hdpA
  have qA_0 := (hbsA 0 rfl).trans (sl_base hN rfl s0)
  clear hbsA hdpA
  refine op_move (ev_base hNA rfl qA_0) ?_
  exact obR_end rfl rfl (grown_refl _ _)
 ·
  intro aA wA cA hNA hRA hckA hOA hbsA hdpA
  have qA_3 := (hbsA 3 rfl).trans (sl_base hN rfl s3)
  clear hbsA hdpA
  refine op_move (ev_base hNA rfl qA_3) ?_
  exact obR_end rfl rfl (grown_refl _ _)
 ·
  intro aA wA cA hNA hRA hckA hOA hbsA hdpA
  have qA_16 : Sl aA 16 v := hdpA 4 _ 16 (by kernel_rfl) rfl rfl
  have qA_17 : Sl aA 17 (Value.int .i64 ((pv : Nat) : Int)) := hdpA 5 _ 17 (by kernel_rfl) rfl rfl
  clear hbsA hdpA
  refine op_index_own (i := pv) slt45 (ev_base hNA rfl qA_16) hOA (ev_base hNA rfl qA_17) (by omega) (by omega) ?_
  intro b_ o_ _ hA_
  exact obR_end rfl ⟨b_, o_, rfl, by simpa using hA_⟩ (grown_refl _ _)
 ·
  intro aA wA cA hNA hRA hckA hOA hbsA hdpA
  obtain ⟨bA_18, oA_18, qA_18, hAA_18⟩ := hdpA 6 _ 18 (by kernel_rfl) rfl rfl
  clear hbsA hdpA
  obtain rfl : cA = 0 := Nat.le_zero.1 (hckA 0 13 rfl (by kernel_rfl))
  have hOA : Own wA base 46 1 v n (d.toList.map u16v) := hOA
  refine op_load1 (v := (Value.int .u16 (d[pv]!.toNat : Int))) one46 (ev_base hNA rfl qA_18) (by have := hOA.cellAt hAA_18 0 _ (el_at (i := pv) (by first | omega | (simp only [Array.size_setIfInBounds, swp_sz, siftDown_size]; omega))); simpa using this) ?_
  exact obR_end rfl rfl (grown_refl _ _)
 ·
  intro aA wA cA hNA hRA hckA hOA hbsA hdpA
  have qA_0 := (hbsA 0 rfl).trans (sl_base hN rfl s0)
  clear hbsA hdpA
  refine op_move (ev_base hNA rfl qA_0) ?_
  exact obR_end rfl rfl (grown_refl _ _)
 ·
  intro aA wA cA hNA hRA hckA hOA hbsA hdpA
  have qA_1 := (hbsA 1 rfl).trans (sl_base hN rfl s1)
  clear hbsA hdpA
  refine op_move (ev_base hNA rfl qA_1) ?_
  exact obR_end rfl rfl (grown_refl _ _)
 ·
  intro aA wA cA hNA hRA hckA hOA hbsA hdpA
  have qA_20 : Sl aA 20 v := hdpA 8 _ 20 (by kernel_rfl) rfl rfl
  have qA_21 : Sl aA 21 (Value.int .i64 ((a : Nat) : Int)) := hdpA 9 _ 21 (by kernel_rfl) rfl rfl
  clear hbsA hdpA
  refine op_index_own (i := a) slt45 (ev_base hNA rfl qA_20) hOA (ev_base hNA rfl qA_21) (by omega) (by omega) ?_
  intro b_ o_ _ hA_
  exact obR_end rfl ⟨b_, o_, rfl, by simpa using hA_⟩ (grown_refl _ _)
 ·
  intro aA wA cA hNA hRA hckA hOA hbsA hdpA
  obtain ⟨bA_22, oA_22, qA_22, hAA_22⟩ := hdpA 10 _ 22 (by kernel_rfl) rfl rfl
  clear hbsA hdpA
  obtain rfl : cA = 0 := Nat.le_zero.1 (hckA 0 13 rfl (by kernel_rfl))
  have hOA : Own wA base 46 1 v n (d.toList.map u16v) := hOA
  refine op_load1 (v := (Value.int .u16 (d[a]!.toNat : Int))) one46 (ev_base hNA rfl qA_22) (by have := hOA.cellAt hAA_22 0 _ (el_at (i := a) (by first | omega | (simp only [Array.size_setIfInBounds, swp_sz, siftDown_size]; omega))); simpa using this) ?_
  exact obR_end rfl rfl (grown_refl _ _)
 ·
  intro aA wA cA hNA hRA hckA hOA hbsA hdpA
  have qA_12 : Sl aA 12 v := hdpA 0 _ 12 (by kernel_rfl) rfl rfl
  have qA_13 : Sl aA 13 (Value.int .i64 ((a : Nat) : Int)) := hdpA 1 _ 13 (by kernel_rfl) rfl rfl
  clear hbsA hdpA
  refine op_index_own (i := a) slt45 (ev_base hNA rfl qA_12) hOA (ev_base hNA rfl qA_13) (by omega) (by omega) ?_
  intro b_ o_ _ hA_
  exact obR_end rfl ⟨b_, o_, rfl, by simpa using hA_⟩ (grown_refl _ _)
 ·
  intro aA wA cA hNA hRA hckA hOA hbsA hdpA
  have qA_14 : Sl aA 14 v := hdpA 2 _ 14 (by kernel_rfl) rfl rfl
  have qA_15 : Sl aA 15 (Value.int .i64 ((pv : Nat) : Int)) := hdpA 3 _ 15 (by kernel_rfl) rfl rfl
  clear hbsA hdpA
  refine op_index_own (i := pv) slt45 (ev_base hNA rfl qA_14) hOA (ev_base hNA rfl qA_15) (by omega) (by omega) ?_
  intro b_ o_ _ hA_
  exact obR_end rfl ⟨b_, o_, rfl, by simpa using hA_⟩ (grown_refl _ _)
 ·
  intro o_ ho_; obtain rfl := Option.some.inj ho_; intro aA wA hNA hRA hbsA hdpA hOA
  obtain ⟨bA_24, oA_24, qA_24, hAA_24⟩ := hdpA 12 _ 24 (by kernel_rfl) rfl rfl
  have qA_19 : Sl aA 19 (Value.int .u16 (d[pv]!.toNat : Int)) := hdpA 7 _ 19 (by kernel_rfl) rfl rfl
  clear hbsA hdpA
  have hOA : Own wA base 46 1 v n (d.toList.map u16v) := hOA
  refine op_store_own (vs := [(Value.int .u16 (d[pv]!.toNat : Int))]) size46 (ev_base hNA rfl qA_24) (ev_base hNA rfl qA_19) rfl rfl rfl hOA hAA_24 (by have := hOA.1; simp at this ⊢; omega) ?_
  intro w_ hO_ E_
  exact obW_end rfl (hO_.cast rfl (set_arr (by first | omega | (simp only [Array.size_setIfInBounds, swp_sz, siftDown_size]; omega)))) E_
 ·
  intro o_ ho_; obtain rfl := Option.some.inj ho_; intro aA wA hNA hRA hbsA hdpA hOA
  obtain ⟨bA_25, oA_25, qA_25, hAA_25⟩ := hdpA 14 _ 25 (by kernel_rfl) rfl rfl
  have qA_23 : Sl aA 23 (Value.int .u16 (d[a]!.toNat : Int)) := hdpA 11 _ 23 (by kernel_rfl) rfl rfl
  clear hbsA hdpA
  have hOA : Own wA base 46 1 v n ((d.setIfInBounds a d[pv]!).toList.map u16v) := hOA
  refine op_store_own (vs := [(Value.int .u16 (d[a]!.toNat : Int))]) size46 (ev_base hNA rfl qA_25) (ev_base hNA rfl qA_23) rfl rfl rfl hOA hAA_25 (by have := hOA.1; simp at this ⊢; omega) ?_
  intro w_ hO_ E_
  exact obW_end rfl (hO_.cast rfl (set_arr (by first | omega | (simp only [Array.size_setIfInBounds, swp_sz, siftDown_size]; omega)))) E_
 ·
  intro a3 w3 hN3 hd3 hbs3 hph3 hO3 E3
  have hd3 := hd3.trans hd
  have s3_0 := (hbs3 0 rfl).trans (sl_base hN rfl s0)
  have s3_1 := (hbs3 1 rfl).trans (sl_base hN rfl s1)
  have s3_2 := (hbs3 2 rfl).trans (sl_base hN rfl s2)
  have s3_8 := (hbs3 8 rfl).trans (sl_hit hN rfl)
  have s3_9 := (hbs3 9 rfl).trans (sl_hit hN rfl)
  clear hbs3 hph3
  have hO3 : Own w3 base 46 1 v n (((d.setIfInBounds a d[pv]!).setIfInBounds pv d[a]!).toList.map u16v) := hO3
  have z_w3 := E3.size
  have hb := grow_stepX hb E3 rfl
  refine hK2 _ _ ?_
  refine seq_join1 (N := 168) (fun az_ w' => ∃ (d1 : Ar), (az_.tmps.getD 0 undef = v) ∧ (az_.tmps.getD 1 undef = (Value.int .i64 ((a : Nat) : Int))) ∧ (az_.tmps.getD 8 undef = (Value.int .i64 0)) ∧ (az_.tmps.getD 9 undef = (Value.bool false)) ∧ (az_.tmps.getD 10 undef = (Value.int .i64 (((a : Nat) : Int) + 1))) ∧ (az_.tmps.getD 11 undef = (Value.int .i64 (((b - 1) : Nat) : Int))) ∧ (d1 = swp d a pv) ∧ (d1.size = n) ∧ (w.grownBy w' v.ownBlock) ∧ (w3.heap.size ≤ w'.heap.size) ∧ (Own w' base 46 1 v n (d1.toList.map u16v))) (fun hJ4 => ?_) ?_
  ·
   refine seq_any fun K6 hK6 => ?_
   refine one_reg ?_
   refine op_move (ev_base hN3 rfl s3_1) ?_
   refine op_add (ev_hit hN3 rfl) rfl (add64 (by omega)) ?_
   refine op_move (ev_base hN3 rfl s3_2) ?_
   refine op_sub (r := ((b - 1 : Nat) : Int)) (ev_hit hN3 rfl) rfl (by rw [IntKind.wrap_i64]; omega) ?_
   refine op_assign (ev_hit hN3 rfl) ?_
   refine op_assign (ev_hit hN3 rfl) ?_
   refine reg_nil ?_
   refine hK6 _ _ ?_
   exact hJ4 _ _ _ hN3 hd3 ⟨_, (sl_base hN3 rfl s3_0), (sl_base hN3 rfl s3_1), (sl_base hN3 rfl s3_8), (sl_base hN3 rfl s3_9), (sl_hit hN3 rfl), (sl_hit hN3 rfl), rfl, (by first | assumption | (simp only [Array.size_setIfInBounds, swp_sz, siftDown_size]; assumption)), hb, (by omega), hO3⟩
  ·
   rintro a4 w4 hN4 hd4 ⟨d1, s4_0, s4_1, s4_8, s4_9, s4_10, s4_11, hd1, hz1, hb, zl_w4, hO5⟩
   have z_w4 := hb.size
   refine seq_join1 (N := 168) (fun az_ w' => ∃ (i2 : Nat), (az_.tmps.getD 0 undef = v) ∧ (az_.tmps.getD 1 undef = (Value.int .i64 ((a : Nat) : Int))) ∧ (az_.tmps.getD 8 undef = (Value.int .i64 0)) ∧ (az_.tmps.getD 9 undef = (Value.bool false)) ∧ (az_.tmps.getD 11 undef = (Value.int .i64 (((b - 1) : Nat) : Int))) ∧ (az_.tmps.getD 10 undef = (Value.int .i64 ((i2 : Nat) : Int))) ∧ (a + 1 ≤ i2 ∧ i2 ≤ b) ∧ (scanUp (fun x => ltT x d1[a]!) d1 (b - 1) (a + 1) = i2) ∧ (i2 ≤ b - 1 → ltT d1[i2]! d1[a]! = false) ∧ (w.grownBy w' v.ownBlock) ∧ (w4.heap.size ≤ w'.heap.size) ∧ (Own w' base 46 1 v n (d1.toList.map u16v))) (fun hJ7 => ?_) ?_
   ·
    refine seq_any fun K8 hK8 => ?_
    refine wp_block ?_
    refine loop_m (fun mz_ az_ w' => ∃ (i2 : Nat), mz_ = (b + 1 - i2) ∧ (az_.tmps.getD 0 undef = v) ∧ (az_.tmps.getD 1 undef = (Value.int .i64 ((a : Nat) : Int))) ∧ (az_.tmps.getD 8 undef = (Value.int .i64 0)) ∧ (az_.tmps.getD 9 undef = (Value.bool false)) ∧ (az_.tmps.getD 11 undef = (Value.int .i64 (((b - 1) : Nat) : Int))) ∧ (az_.tmps.getD 10 undef = (Value.int .i64 ((i2 : Nat) : Int))) ∧ (a + 1 ≤ i2 ∧ i2 ≤ b) ∧ (scanUp (fun x => ltT x d1[a]!) d1 (b - 1) (a + 1) = scanUp (fun x => ltT x d1[a]!) d1 (b - 1) i2) ∧ (w.grownBy w' v.ownBlock) ∧ (w4.heap.size ≤ w'.heap.size) ∧ (Own w' base 46 1 v n (d1.toList.map u16v))) _ hN4 hd4 ⟨(a + 1), rfl, (sl_base hN4 rfl s4_0), (sl_base hN4 rfl s4_1), (sl_base hN4 rfl s4_8), (sl_base hN4 rfl s4_9), (sl_base hN4 rfl s4_11), (sl_base hN4 rfl s4_10).trans (congrArg (Value.int .i64) (by omega)), (by omega), rfl, hb, (Nat.le_refl _), hO5⟩ ?_
    rintro _ a9 w9 hN9 hd9 ⟨i2, rfl, s9_0, s9_1, s9_8, s9_9, s9_11, s9_10, hr2, hu1, hb, zl_w9, hO5⟩
    have z_w9 := hb.size
    refine seq_any fun K10 hK10 => ?_
    refine seq_any fun K11 hK11 => ?_
    refine reg_still mixed (by kernel_rfl) ?_
    intro w13 E12
    have z_w13 := E12.size
    have hO5 := hO5.keep0 E12
    have hb := grow_step0 hb E12
    refine st_step rfl (fun _ h9 => op_move (ev_base hN9 rfl s9_10) h9) ?_
    refine st_step rfl (fun _ h9 => op_move (ev_base hN9 rfl s9_11) h9) ?_
    by_cases g32 : ((i2 : Nat) : Int) ≤ (((b - 1) : Nat) : Int)
    · -- 32T
     refine st_step rfl (fun _ h9 => op_cmp (b := true) (ev_hit hN9 rfl) (ev_hit hN9 rfl) (b_leq (decide_eq_true g32)) h9) ?_
     refine st_step rfl (fun _ h9 => op_move (ev_hit hN9 rfl) h9) ?_
     refine st_g_true (j := 3) (dj := 33) (b := true) rfl rfl rfl (ev_hit hN9 rfl) ?_
     refine st_step rfl (fun _ h9 => op_move (ev_base hN9 rfl s9_0) h9) ?_
     refine st_g_true (j := 3) (dj := 33) (b := true) rfl rfl rfl (ev_hit hN9 rfl) ?_
     refine st_step rfl (fun _ h9 => op_move (ev_base hN9 rfl s9_10) h9) ?_
     refine st_g_true (j := 3) (dj := 33) (b := true) rfl rfl rfl (ev_hit hN9 rfl) ?_
     refine st_index_rd slt45 (ev_hit hN9 rfl) hO5.rdw (ev_hit hN9 rfl) (by omega) (by omega) ?_
     intro b14 o15 h0b14 h1b14 hc16
     refine st_g_true (j := 3) (dj := 33) (b := true) rfl rfl rfl (ev_hit hN9 rfl) ?_
     refine st_step rfl (fun _ h9 => op_load1 (v := (Value.int .u16 (d1[i2]!.toNat : Int))) one46 (ev_hit hN9 rfl) (by have := hc16 0 (Value.int .u16 (d1[i2]!.toNat : Int)) (by decide) (el_arr (i := i2) (by omega) (by first | omega | (simp only [Array.size_setIfInBounds, swp_sz, siftDown_size]; omega))); simpa using this) h9) ?_
     refine st_g_true (j := 3) (dj := 33) (b := true) rfl rfl rfl (ev_hit hN9 rfl) ?_
     refine st_step rfl (fun _ h9 => op_move (ev_base hN9 rfl s9_0) h9) ?_
     refine st_g_true (j := 3) (dj := 33) (b := true) rfl rfl rfl (ev_hit hN9 rfl) ?_
     refine st_step rfl (fun _ h9 => op_move (ev_base hN9 rfl s9_1) h9) ?_
     refine st_g_true (j := 3) (dj := 33) (b := true) rfl rfl rfl (ev_hit hN9 rfl) ?_
     refine st_index_rd slt45 (ev_hit hN9 rfl) hO5.rdw (ev_hit hN9 rfl) (by omega) (by omega) ?_
     intro b17 o18 h0b17 h1b17 hc19
     refine st_g_true (j := 3) (dj := 33) (b := true) rfl rfl rfl (ev_hit hN9 rfl) ?_
     refine st_step rfl (fun _ h9 => op_load1 (v := (Value.int .u16 (d1[a]!.toNat : Int))) one46 (ev_hit hN9 rfl) (by have := hc19 0 (Value.int .u16 (d1[a]!.toNat : Int)) (by decide) (el_arr (i := a) (by omega) (by first | omega | (simp only [Array.size_setIfInBounds, swp_sz, siftDown_size]; omega))); simpa using this) h9) ?_
     refine st_g_true (j := 3) (dj := 33) (b := true) rfl rfl rfl (ev_hit hN9 rfl) ?_
     refine st_fn (vs := [(Value.int .u16 (d1[i2]!.toNat : Int)), (Value.int .u16 (d1[a]!.toNat : Int))]) ok159 (⟨(ev_hit hN9 rfl), ⟨(ev_hit hN9 rfl), trivial⟩⟩) (Less16_ret d1[i2]! d1[a]! _) ?_
     refine st_step rfl (fun _ h9 => op_pick_t (ev_hit hN9 rfl) (ev_hit hN9 rfl) h9) ?_
     refine st_nil ?_
     refine hK11 _ _ ?_
     refine wp_cond_split (ev_hit hN9 rfl) (fun c43 => ?_) (fun c43 => ?_)
     · -- 43T
      refine wp_skip ?_
      refine hK10 _ _ ?_
      refine wp_block ?_
      refine one_reg ?_
      refine op_move (ev_base hN9 rfl s9_10) ?_
      refine op_add (ev_hit hN9 rfl) rfl (add64 (by omega)) ?_
      refine op_assign (ev_hit hN9 rfl) ?_
      refine reg_nil ?_
      refine blk_normal ?_
      -- round 32T 43T
      exact loop_next _ hN9 hd9 ⟨(i2 + 1), rfl, (sl_base hN9 rfl s9_0), (sl_base hN9 rfl s9_1), (sl_base hN9 rfl s9_8), (sl_base hN9 rfl s9_9), (sl_base hN9 rfl s9_11), (sl_hit hN9 rfl).trans (congrArg (Value.int .i64) (by omega)), (by omega), (hu1.trans (scanUp_go (by omega) c43)), hb, (by omega), hO5⟩ (by omega)
     · -- 43F
      refine wp_exit (then_exit (then_exit (blk_hit ?_)))
      refine hK8 _ _ ?_
      exact hJ7 _ _ _ hN9 hd9 ⟨i2, (sl_base hN9 rfl s9_0), (sl_base hN9 rfl s9_1), (sl_base hN9 rfl s9_8), (sl_base hN9 rfl s9_9), (sl_base hN9 rfl s9_11), (sl_base hN9 rfl s9_10), (by omega), (hu1.trans (scanUp_stop (.inr c43))), (fun _ => c43), hb, (by omega), hO5⟩
    · -- 32F
     refine st_step rfl (fun _ h9 => op_cmp (b := false) (ev_hit hN9 rfl) (ev_hit hN9 rfl) (b_leq (decide_eq_false g32)) h9) ?_
     refine st_step rfl (fun _ h9 => op_move (ev_hit hN9 rfl) h9) ?_
     refine st_g_false (j := 3) (dj := 33) (b := true) rfl rfl rfl (ev_hit hN9 rfl) rfl rfl ?_
     refine st_g_false (j := 3) (dj := 33) (b := true) rfl rfl rfl (ev_hit hN9 rfl) rfl rfl ?_
     refine st_g_false (j := 3) (dj := 33) (b := true) rfl rfl rfl (ev_hit hN9 rfl) rfl rfl ?_
     refine st_g_false (j := 3) (dj := 33) (b := true) rfl rfl rfl (ev_hit hN9 rfl) rfl rfl ?_
     refine st_g_false (j := 3) (dj := 33) (b := true) rfl rfl rfl (ev_hit hN9 rfl) rfl rfl ?_
     refine st_g_false (j := 3) (dj := 33) (b := true) rfl rfl rfl (ev_hit hN9 rfl) rfl rfl ?_
     refine st_g_false (j := 3) (dj := 33) (b := true) rfl rfl rfl (ev_hit hN9 rfl) rfl rfl ?_
     refine st_g_false (j := 3) (dj := 33) (b := true) rfl rfl rfl (ev_hit hN9 rfl) rfl rfl ?_
     refine st_g_false (j := 3) (dj := 33) (b := true) rfl rfl rfl (ev_hit hN9 rfl) rfl rfl ?_
     refine st_step rfl (fun _ h9 => op_pick_f (ev_hit hN9 rfl) rfl h9) ?_
     refine st_nil ?_
     refine hK11 _ _ ?_
     refine wp_cond_false (ev_hit hN9 rfl) ?_
     refine wp_exit (then_exit (then_exit (blk_hit ?_)))
     refine hK8 _ _ ?_
     exact hJ7 _ _ _ hN9 hd9 ⟨i2, (sl_base hN9 rfl s9_0), (sl_base hN9 rfl s9_1), (sl_base hN9 rfl s9_8), (sl_base hN9 rfl s9_9), (sl_base hN9 rfl s9_11), (sl_base hN9 rfl s9_10), (by omega), (hu1.trans (scanUp_stop (.inl (by omega)))), (fun hq => absurd hq (by omega)), hb, (by omega), hO5⟩
   ·
    rintro a7 w7 hN7 hd7 ⟨i2, s7_0, s7_1, s7_8, s7_9, s7_11, s7_10, hr2, hu2, hx2, hb, zl_w7, hO5⟩
    have z_w7 := hb.size
    refine seq_join1 (N := 168) (fun az_ w' => ∃ (j2 : Nat), (az_.tmps.getD 0 undef = v) ∧ (az_.tmps.getD 1 undef = (Value.int .i64 ((a : Nat) : Int))) ∧ (az_.tmps.getD 8 undef = (Value.int .i64 0)) ∧ (az_.tmps.getD 9 undef = (Value.bool false)) ∧ (az_.tmps.getD 10 undef = (Value.int .i64 ((i2 : Nat) : Int))) ∧ (az_.tmps.getD 11 undef = (Value.int .i64 ((j2 : Nat) : Int))) ∧ (j2 ≤ b - 1 ∧ i2 ≤ j2 + 1) ∧ (scanDown (fun x => !ltT x d1[a]!) d1 i2 (b - 1) = j2) ∧ (i2 ≠ j2) ∧ (w.grownBy w' v.ownBlock) ∧ (w7.heap.size ≤ w'.heap.size) ∧ (Own w' base 46 1 v n (d1.toList.map u16v))) (fun hJ20 => ?_) ?_
    ·
     refine seq_any fun K21 hK21 => ?_
     refine wp_block ?_
     refine loop_m (fun mz_ az_ w' => ∃ (j2 : Nat), mz_ = (j2 + 1) ∧ (az_.tmps.getD 0 undef = v) ∧ (az_.tmps.getD 1 undef = (Value.int .i64 ((a : Nat) : Int))) ∧ (az_.tmps.getD 8 undef = (Value.int .i64 0)) ∧ (az_.tmps.getD 9 undef = (Value.bool false)) ∧ (az_.tmps.getD 10 undef = (Value.int .i64 ((i2 : Nat) : Int))) ∧ (az_.tmps.getD 11 undef = (Value.int .i64 ((j2 : Nat) : Int))) ∧ (j2 ≤ b - 1 ∧ i2 ≤ j2 + 1) ∧ (scanDown (fun x => !ltT x d1[a]!) d1 i2 (b - 1) = scanDown (fun x => !ltT x d1[a]!) d1 i2 j2) ∧ (w.grownBy w' v.ownBlock) ∧ (w7.heap.size ≤ w'.heap.size) ∧ (Own w' base 46 1 v n (d1.toList.map u16v))) _ hN7 hd7 ⟨(b - 1), rfl, (sl_base hN7 rfl s7_0), (sl_base hN7 rfl s7_1), (sl_base hN7 rfl s7_8), (sl_base hN7 rfl s7_9), (sl_base hN7 rfl s7_10), (sl_base hN7 rfl s7_11).trans (congrArg (Value.int .i64) (by omega)), (by omega), rfl, hb, (Nat.le_refl _), hO5⟩ ?_
     rintro _ a22 w22 hN22 hd22 ⟨j2, rfl, s22_0, s22_1, s22_8, s22_9, s22_10, s22_11, hr3, hv1, hb, zl_w22, hO5⟩
     have z_w22 := hb.size
     refine seq_any fun K23 hK23 => ?_
     refine seq_any fun K24 hK24 => ?_
     refine reg_still mixed (by kernel_rfl) ?_
     intro w26 E25
     have z_w26 := E25.size
     have hO5 := hO5.keep0 E25
     have hb := grow_step0 hb E25
     refine st_step rfl (fun _ h9 => op_move (ev_base hN22 rfl s22_10) h9) ?_
     refine st_step rfl (fun _ h9 => op_move (ev_base hN22 rfl s22_11) h9) ?_
     by_cases g48 : ((i2 : Nat) : Int) ≤ ((j2 : Nat) : Int)
     · -- 48T
      refine st_step rfl (fun _ h9 => op_cmp (b := true) (ev_hit hN22 rfl) (ev_hit hN22 rfl) (b_leq (decide_eq_true g48)) h9) ?_
      refine st_step rfl (fun _ h9 => op_move (ev_hit hN22 rfl) h9) ?_
      refine st_g_true (j := 3) (dj := 49) (b := true) rfl rfl rfl (ev_hit hN22 rfl) ?_
      refine st_step rfl (fun _ h9 => op_move (ev_base hN22 rfl s22_0) h9) ?_
      refine st_g_true (j := 3) (dj := 49) (b := true) rfl rfl rfl (ev_hit hN22 rfl) ?_
      refine st_step rfl (fun _ h9 => op_move (ev_base hN22 rfl s22_11) h9) ?_
      refine st_g_true (j := 3) (dj := 49) (b := true) rfl rfl rfl (ev_hit hN22 rfl) ?_
      refine st_index_rd slt45 (ev_hit hN22 rfl) hO5.rdw (ev_hit hN22 rfl) (by omega) (by omega) ?_
      intro b27 o28 h0b27 h1b27 hc29
      refine st_g_true (j := 3) (dj := 49) (b := true) rfl rfl rfl (ev_hit hN22 rfl) ?_
      refine st_step rfl (fun _ h9 => op_load1 (v := (Value.int .u16 (d1[j2]!.toNat : Int))) one46 (ev_hit hN22 rfl) (by have := hc29 0 (Value.int .u16 (d1[j2]!.toNat : Int)) (by decide) (el_arr (i := j2) (by omega) (by first | omega | (simp only [Array.size_setIfInBounds, swp_sz, siftDown_size]; omega))); simpa using this) h9) ?_
      refine st_g_true (j := 3) (dj := 49) (b := true) rfl rfl rfl (ev_hit hN22 rfl) ?_
      refine st_step rfl (fun _ h9 => op_move (ev_base hN22 rfl s22_0) h9) ?_
      refine st_g_true (j := 3) (dj := 49) (b := true) rfl rfl rfl (ev_hit hN22 rfl) ?_
      refine st_step rfl (fun _ h9 => op_move (ev_base hN22 rfl s22_1) h9) ?_
      refine st_g_true (j := 3) (dj := 49) (b := true) rfl rfl rfl (ev_hit hN22 rfl) ?_
      refine st_index_rd slt45 (ev_hit hN22 rfl) hO5.rdw (ev_hit hN22 rfl) (by omega) (by omega) ?_
      intro b30 o31 h0b30 h1b30 hc32
      refine st_g_true (j := 3) (dj := 49) (b := true) rfl rfl rfl (ev_hit hN22 rfl) ?_
      refine st_step rfl (fun _ h9 => op_load1 (v := (Value.int .u16 (d1[a]!.toNat : Int))) one46 (ev_hit hN22 rfl) (by have := hc32 0 (Value.int .u16 (d1[a]!.toNat : Int)) (by decide) (el_arr (i := a) (by omega) (by first | omega | (simp only [Array.size_setIfInBounds, swp_sz, siftDown_size]; omega))); simpa using this) h9) ?_
      refine st_g_true (j := 3) (dj := 49) (b := true) rfl rfl rfl (ev_hit hN22 rfl) ?_
      refine st_fn (vs := [(Value.int .u16 (d1[j2]!.toNat : Int)), (Value.int .u16 (d1[a]!.toNat : Int))]) ok159 (⟨(ev_hit hN22 rfl), ⟨(ev_hit hN22 rfl), trivial⟩⟩) (Less16_ret d1[j2]! d1[a]! _) ?_
      refine st_g_true (j := 3) (dj := 49) (b := true) rfl rfl rfl (ev_hit hN22 rfl) ?_
      refine st_step rfl (fun _ h9 => op_not (ev_hit hN22 rfl) h9) ?_
      refine st_step rfl (fun _ h9 => op_pick_t (ev_hit hN22 rfl) (ev_hit hN22 rfl) h9) ?_
      refine st_nil ?_
      refine hK24 _ _ ?_
      refine wp_cond_split (ev_hit hN22 rfl) (fun c60 => ?_) (fun c60 => ?_)
      · -- 60T
       refine wp_skip ?_
       refine hK23 _ _ ?_
       refine wp_block ?_
       refine one_reg ?_
       refine op_move (ev_base hN22 rfl s22_11) ?_
       refine op_sub (ev_hit hN22 rfl) rfl (sub64 (by omega)) ?_
       refine op_assign (ev_hit hN22 rfl) ?_
       refine reg_nil ?_
       refine blk_normal ?_
       -- round 48T 60T
       exact loop_next _ hN22 hd22 ⟨(j2 - 1), rfl, (sl_base hN22 rfl s22_0), (sl_base hN22 rfl s22_1), (sl_base hN22 rfl s22_8), (sl_base hN22 rfl s22_9), (sl_base hN22 rfl s22_10), (sl_hit hN22 rfl).trans (congrArg (Value.int .i64) (by omega)), (by omega), (hv1.trans (scanDown_go (by omega) (by omega) c60)), hb, (by omega), hO5⟩ (by omega)
      · -- 60F
       refine wp_exit (then_exit (then_exit (blk_hit ?_)))
       refine hK21 _ _ ?_
       exact hJ20 _ _ _ hN22 hd22 ⟨j2, (sl_base hN22 rfl s22_0), (sl_base hN22 rfl s22_1), (sl_base hN22 rfl s22_8), (sl_base hN22 rfl s22_9), (sl_base hN22 rfl s22_10), (sl_base hN22 rfl s22_11), (by omega), (hv1.trans (scanDown_stop (.inr c60))), (fun hh => by have h9 := hx2 (by omega); rw [hh] at h9; rw [h9] at c60; simp at c60), hb, (by omega), hO5⟩
     · -- 48F
      refine st_step rfl (fun _ h9 => op_cmp (b := false) (ev_hit hN22 rfl) (ev_hit hN22 rfl) (b_leq (decide_eq_false g48)) h9) ?_
      refine st_step rfl (fun _ h9 => op_move (ev_hit hN22 rfl) h9) ?_
      refine st_g_false (j := 3) (dj := 49) (b := true) rfl rfl rfl (ev_hit hN22 rfl) rfl rfl ?_
      refine st_g_false (j := 3) (dj := 49) (b := true) rfl rfl rfl (ev_hit hN22 rfl) rfl rfl ?_
      refine st_g_false (j := 3) (dj := 49) (b := true) rfl rfl rfl (ev_hit hN22 rfl) rfl rfl ?_
      refine st_g_false (j := 3) (dj := 49) (b := true) rfl rfl rfl (ev_hit hN22 rfl) rfl rfl ?_
      refine st_g_false (j := 3) (dj := 49) (b := true) rfl rfl rfl (ev_hit hN22 rfl) rfl rfl ?_
      refine st_g_false (j := 3) (dj := 49) (b := true) rfl rfl rfl (ev_hit hN22 rfl) rfl rfl ?_
      refine st_g_false (j := 3) (dj := 49) (b := true) rfl rfl rfl (ev_hit hN22 rfl) rfl rfl ?_
      refine st_g_false (j := 3) (dj := 49) (b := true) rfl rfl rfl (ev_hit hN22 rfl) rfl rfl ?_
      refine st_g_false (j := 3) (dj := 49) (b := true) rfl rfl rfl (ev_hit hN22 rfl) rfl rfl ?_
      refine st_g_false (j := 3) (dj := 49) (b := true) rfl rfl rfl (ev_hit hN22 rfl) rfl rfl ?_
      refine st_step rfl (fun _ h9 => op_pick_f (ev_hit hN22 rfl) rfl h9) ?_
      refine st_nil ?_
      refine hK24 _ _ ?_
      refine wp_cond_false (ev_hit hN22 rfl) ?_
      refine wp_exit (then_exit (then_exit (blk_hit ?_)))
      refine hK21 _ _ ?_
      exact hJ20 _ _ _ hN22 hd22 ⟨j2, (sl_base hN22 rfl s22_0), (sl_base hN22 rfl s22_1), (sl_base hN22 rfl s22_8), (sl_base hN22 rfl s22_9), (sl_base hN22 rfl s22_10), (sl_base hN22 rfl s22_11), (by omega), (hv1.trans (scanDown_stop (.inl (by omega)))), (by omega), hb, (by omega), hO5⟩
    ·
     rintro a20 w20 hN20 hd20 ⟨j2, s20_0, s20_1, s20_8, s20_9, s20_10, s20_11, hr3, hv2, hne, hb, zl_w20, hO5⟩
     have z_w20 := hb.size
     refine seq_any fun K33 hK33 => ?_
     refine seq_any fun K34 hK34 => ?_
     refine one_reg ?_
     refine op_move (ev_base hN20 rfl s20_10) ?_
     refine op_move (ev_base hN20 rfl s20_11) ?_
     refine op_gtr (ev_hit hN20 rfl) (ev_hit hN20 rfl) (fun c65 => ?_) (fun c65 => ?_)
     · -- 65T
      refine reg_nil ?_
      refine hK34 _ _ ?_
      refine wp_cond_true (ev_hit hN20 rfl) ?_
      refine seq_any fun K35 hK35 => ?_
      refine reg_mid (e := 46) (sz := 1) (base := base) (n := n) (v := v) (Φ := phiL [(fun uz _ => uz = v), (fun uz _ => uz = (Value.int .i64 ((j2 : Nat) : Int))), (fun uz _ => uz = v), (fun uz _ => uz = (Value.int .i64 ((a : Nat) : Int))), (fun uz _ => uz = v), (fun uz _ => uz = (Value.int .i64 ((a : Nat) : Int))), (fun uz _ => ∃ bz oz, uz = ptr bz oz ∧ AtV v a bz oz), (fun uz _ => uz = (Value.int .u16 (d1[a]!.toNat : Int))), (fun uz _ => uz = v), (fun uz _ => uz = (Value.int .i64 ((j2 : Nat) : Int))), (fun uz _ => ∃ bz oz, uz = ptr bz oz ∧ AtV v j2 bz oz), (fun uz _ => uz = (Value.int .u16 (d1[j2]!.toNat : Int))), (fun uz _ => ∃ bz oz, uz = ptr bz oz ∧ AtV v j2 bz oz), (fun _ _ => True), (fun uz _ => ∃ bz oz, uz = ptr bz oz ∧ AtV v a bz oz), (fun _ _ => True)]) [13, 15] [(d1.toList.map u16v), ((d1.setIfInBounds j2 d1[a]!).toList.map u16v), (((d1.setIfInBounds j2 d1[a]!).setIfInBounds a d1[j2]!).toList.map u16v)] mixed (by kernel_rfl) (by kernel_rfl) (by kernel_rfl) (by kernel_rfl) hN20 hO5 (StL.get (StL.eq (StL.eq (StL.eq (StL.eq (StL.eq (StL.eq (StL.at (StL.eq (StL.eq (StL.eq (StL.at (StL.eq (StL.at (StL.cons (fun _ _ _ _ h => h) (StL.at (StL.cons (fun _ _ _ _ h => h) (StL.nil _)))))))))))))))))) (ObRs.get (ObRs.cons ?_ (ObRs.cons ?_ (ObRs.cons ?_ (ObRs.cons ?_ (ObRs.cons ?_ (ObRs.cons ?_ (ObRs.cons ?_ (ObRs.cons ?_ (ObRs.cons ?_ (ObRs.cons ?_ (ObRs.cons ?_ (ObRs.cons ?_ (ObRs.cons ?_ (ObRs.pass rfl (ObRs.cons ?_ (ObRs.pass rfl (ObRs.nil)))))))))))))))))) (ObWs.get (ObWs.cons ?_ (ObWs.cons ?_ (ObWs.nil)))) ?_
      ·
       intro aA wA cA hNA hRA hckA hOA hbsA hdpA
       have qA_0 := (hbsA 0 rfl).trans (sl_base hN20 rfl s20_0)
       clear hbsA hdpA
       refine op_move (ev_base hNA rfl qA_0) ?_
       exact obR_end rfl rfl (grown_refl _ _)
      ·
       intro aA wA cA hNA hRA hckA hOA hbsA hdpA
       have qA_11 := (hbsA 11 rfl).trans (sl_base hN20 rfl s20_11)
       clear hbsA hdpA
       refine op_move (ev_base hNA rfl qA_11) ?_
       exact obR_end rfl rfl (grown_refl _ _)
      ·
       intro aA wA cA hNA hRA hckA hOA hbsA hdpA
       have qA_0 := (hbsA 0 rfl).trans (sl_base hN20 rfl s20_0)
       clear hbsA hdpA
       refine op_move (ev_base hNA rfl qA_0) ?_
       exact obR_end rfl rfl (grown_refl _ _)
      ·
       intro aA wA cA hNA hRA hckA hOA hbsA hdpA
       have qA_1 := (hbsA 1 rfl).trans (sl_base hN20 rfl s20_1)
       clear hbsA hdpA
       refine op_move (ev_base hNA rfl qA_1) ?_
       exact obR_end rfl rfl (grown_refl _ _)
      ·
       intro aA wA cA hNA hRA hckA hOA hbsA hdpA
       have qA_0 := (hbsA 0 rfl).trans (sl_base hN20 rfl s20_0)
       clear hbsA hdpA
       refine op_move (ev_base hNA rfl qA_0) ?_
       exact obR_end rfl rfl (grown_refl _ _)
      ·
       intro aA wA cA hNA hRA hckA hOA hbsA hdpA
       have qA_1 := (hbsA 1 rfl).trans (sl_base hN20 rfl s20_1)
       clear hbsA hdpA
       refine op_move (ev_base hNA rfl qA_1) ?_
       exact obR_end rfl rfl (grown_refl _ _)
      ·
       intro aA wA cA hNA hRA hckA hOA hbsA hdpA
       have qA_70 : Sl aA 70 v := hdpA 4 _ 70 (by kernel_rfl) rfl rfl
       have qA_71 : Sl aA 71 (Value.int .i64 ((a : Nat) : Int)) := hdpA 5 _ 71 (by kernel_rfl) rfl rfl
       clear hbsA hdpA
       refine op_index_own (i := a) slt45 (ev_base hNA rfl qA_70) hOA (ev_base hNA rfl qA_71) (by omega) (by omega) ?_
       intro b_ o_ _ hA_
       exact obR_end rfl ⟨b_, o_, rfl, by simpa using hA_⟩ (grown_refl _ _)
      ·
       intro aA wA cA hNA hRA hckA hOA hbsA hdpA
       obtain ⟨bA_72, oA_72, qA_72, hAA_72⟩ := hdpA 6 _ 72 (by kernel_rfl) rfl rfl
       clear hbsA hdpA
       obtain rfl : cA = 0 := Nat.le_zero.1 (hckA 0 13 rfl (by kernel_rfl))
       have hOA : Own wA base 46 1 v n (d1.toList.map u16v) := hOA
       refine op_load1 (v := (Value.int .u16 (d1[a]!.toNat : Int))) one46 (ev_base hNA rfl qA_72) (by have := hOA.cellAt hAA_72 0 _ (el_at (i := a) (by first | omega | (simp only [Array.size_setIfInBounds, swp_sz, siftDown_size]; omega))); simpa using this) ?_
       exact obR_end rfl rfl (grown_refl _ _)
      ·
       intro aA wA cA hNA hRA hckA hOA hbsA hdpA
       have qA_0 := (hbsA 0 rfl).trans (sl_base hN20 rfl s20_0)
       clear hbsA hdpA
       refine op_move (ev_base hNA rfl qA_0) ?_
       exact obR_end rfl rfl (grown_refl _ _)
      ·
       intro aA wA cA hNA hRA hckA hOA hbsA hdpA
       have qA_11 := (hbsA 11 rfl).trans (sl_base hN20 rfl s20_11)
       clear hbsA hdpA
       refine op_move (ev_base hNA rfl qA_11) ?_
       exact obR_end rfl rfl (grown_refl _ _)
      ·
       intro aA wA cA hNA hRA hckA hOA hbsA hdpA
       have qA_74 : Sl aA 74 v := hdpA 8 _ 74 (by kernel_rfl) rfl rfl
       have qA_75 : Sl aA 75 (Value.int .i64 ((j2 : Nat) : Int)) := hdpA 9 _ 75 (by kernel_rfl) rfl rfl
       clear hbsA hdpA
       refine op_index_own (i := j2) slt45 (ev_base hNA rfl qA_74) hOA (ev_base hNA rfl qA_75) (by omega) (by omega) ?_
       intro b_ o_ _ hA_
       exact obR_end rfl ⟨b_, o_, rfl, by simpa using hA_⟩ (grown_refl _ _)
      ·
       intro aA wA cA hNA hRA hckA hOA hbsA hdpA
       obtain ⟨bA_76, oA_76, qA_76, hAA_76⟩ := hdpA 10 _ 76 (by kernel_rfl) rfl rfl
       clear hbsA hdpA
       obtain rfl : cA = 0 := Nat.le_zero.1 (hckA 0 13 rfl (by kernel_rfl))
       have hOA : Own wA base 46 1 v n (d1.toList.map u16v) := hOA
       refine op_load1 (v := (Value.int .u16 (d1[j2]!.toNat : Int))) one46 (ev_base hNA rfl qA_76) (by have := hOA.cellAt hAA_76 0 _ (el_at (i := j2) (by first | omega | (simp only [Array.size_setIfInBounds, swp_sz, siftDown_size]; omega))); simpa using this) ?_
       exact obR_end rfl rfl (grown_refl _ _)
      ·
       intro aA wA cA hNA hRA hckA hOA hbsA hdpA
       have qA_66 : Sl aA 66 v := hdpA 0 _ 66 (by kernel_rfl) rfl rfl
       have qA_67 : Sl aA 67 (Value.int .i64 ((j2 : Nat) : Int)) := hdpA 1 _ 67 (by kernel_rfl) rfl rfl
       clear hbsA hdpA
       refine op_index_own (i := j2) slt45 (ev_base hNA rfl qA_66) hOA (ev_base hNA rfl qA_67) (by omega) (by omega) ?_
       intro b_ o_ _ hA_
       exact obR_end rfl ⟨b_, o_, rfl, by simpa using hA_⟩ (grown_refl _ _)
      ·
       intro aA wA cA hNA hRA hckA hOA hbsA hdpA
       have qA_68 : Sl aA 68 v := hdpA 2 _ 68 (by kernel_rfl) rfl rfl
       have qA_69 : Sl aA 69 (Value.int .i64 ((a : Nat) : Int)) := hdpA 3 _ 69 (by kernel_rfl) rfl rfl
       clear hbsA hdpA
       refine op_index_own (i := a) slt45 (ev_base hNA rfl qA_68) hOA (ev_base hNA rfl qA_69) (by omega) (by omega) ?_
       intro b_ o_ _ hA_
       exact obR_end rfl ⟨b_, o_, rfl, by simpa using hA_⟩ (grown_refl _ _)
      ·
       intro o_ ho_; obtain rfl := Option.some.inj ho_; intro aA wA hNA hRA hbsA hdpA hOA
       obtain ⟨bA_78, oA_78, qA_78, hAA_78⟩ := hdpA 12 _ 78 (by kernel_rfl) rfl rfl
       have qA_73 : Sl aA 73 (Value.int .u16 (d1[a]!.toNat : Int)) := hdpA 7 _ 73 (by kernel_rfl) rfl rfl
       clear hbsA hdpA
       have hOA : Own wA base 46 1 v n (d1.toList.map u16v) := hOA
       refine op_store_own (vs := [(Value.int .u16 (d1[a]!.toNat : Int))]) size46 (ev_base hNA rfl qA_78) (ev_base hNA rfl qA_73) rfl rfl rfl hOA hAA_78 (by have := hOA.1; simp at this ⊢; omega) ?_
       intro w_ hO_ E_
       exact obW_end rfl (hO_.cast rfl (set_arr (by first | omega | (simp only [Array.size_setIfInBounds, swp_sz, siftDown_size]; omega)))) E_
      ·
       intro o_ ho_; obtain rfl := Option.some.inj ho_; intro aA wA hNA hRA hbsA hdpA hOA
       obtain ⟨bA_79, oA_79, qA_79, hAA_79⟩ := hdpA 14 _ 79 (by kernel_rfl) rfl rfl
       have qA_77 : Sl aA 77 (Value.int .u16 (d1[j2]!.toNat : Int)) := hdpA 11 _ 77 (by kernel_rfl) rfl rfl
       clear hbsA hdpA
       have hOA : Own wA base 46 1 v n ((d1.setIfInBounds j2 d1[a]!).toList.map u16v) := hOA
       refine op_store_own (vs := [(Value.int .u16 (d1[j2]!.toNat : Int))]) size46 (ev_base hNA rfl qA_79) (ev_base hNA rfl qA_77) rfl rfl rfl hOA hAA_79 (by have := hOA.1; simp at this ⊢; omega) ?_
       intro w_ hO_ E_
       exact obW_end rfl (hO_.cast rfl (set_arr (by first | omega | (simp only [Array.size_setIfInBounds, swp_sz, siftDown_size]; omega)))) E_
      ·
       intro a36 w36 hN36 hd36 hbs36 hph36 hO36 E36
       have hd36 := hd36.trans hd20
       have s36_0 := (hbs36 0 rfl).trans (sl_base hN20 rfl s20_0)
       have s36_1 := (hbs36 1 rfl).trans (sl_base hN20 rfl s20_1)
       have s36_8 := (hbs36 8 rfl).trans (sl_base hN20 rfl s20_8)
       have s36_9 := (hbs36 9 rfl).trans (sl_base hN20 rfl s20_9)
       have s36_10 := (hbs36 10 rfl).trans (sl_base hN20 rfl s20_10)
       have s36_11 := (hbs36 11 rfl).trans (sl_base hN20 rfl s20_11)
       clear hbs36 hph36
       have hO36 : Own w36 base 46 1 v n (((d1.setIfInBounds j2 d1[a]!).setIfInBounds a d1[j2]!).toList.map u16v) := hO36
       have z_w36 := E36.size
       have hb := grow_stepX hb E36 rfl
       refine hK35 _ _ ?_
       refine seq_any fun K37 hK37 => ?_
       refine one_reg ?_
       refine op_move (ev_base hN36 rfl s36_11) ?_
       refine op_assign (ev_hit hN36 rfl) ?_
       refine op_assign rfl ?_
       refine reg_nil ?_
       refine hK37 _ _ ?_
       refine wp_ret (then_ret ( ?_))
       refine ret2 rfl hd36 (ev_hit hN36 rfl) (ev_hit hN36 rfl) ⟨_, rfl, ?_⟩
       -- path 65T
       have hq := pt_stop hd1 hu2 hv2 (by omega)
       exact ⟨hb, by rw [hq]; rfl, hO36.cast rfl (by rw [hq]; rfl)⟩
     · -- 65F
      refine reg_nil ?_
      refine hK34 _ _ ?_
      refine wp_cond_false (ev_hit hN20 rfl) ?_
      refine wp_skip ?_
      refine hK33 _ _ ?_
      refine seq_any fun K38 hK38 => ?_
      refine reg_mid (e := 46) (sz := 1) (base := base) (n := n) (v := v) (Φ := phiL [(fun uz _ => uz = v), (fun uz _ => uz = (Value.int .i64 ((i2 : Nat) : Int))), (fun uz _ => uz = v), (fun uz _ => uz = (Value.int .i64 ((j2 : Nat) : Int))), (fun uz _ => uz = v), (fun uz _ => uz = (Value.int .i64 ((j2 : Nat) : Int))), (fun uz _ => ∃ bz oz, uz = ptr bz oz ∧ AtV v j2 bz oz), (fun uz _ => uz = (Value.int .u16 (d1[j2]!.toNat : Int))), (fun uz _ => uz = v), (fun uz _ => uz = (Value.int .i64 ((i2 : Nat) : Int))), (fun uz _ => ∃ bz oz, uz = ptr bz oz ∧ AtV v i2 bz oz), (fun uz _ => uz = (Value.int .u16 (d1[i2]!.toNat : Int))), (fun uz _ => ∃ bz oz, uz = ptr bz oz ∧ AtV v i2 bz oz), (fun _ _ => True), (fun uz _ => ∃ bz oz, uz = ptr bz oz ∧ AtV v j2 bz oz), (fun _ _ => True)]) [13, 15] [(d1.toList.map u16v), ((d1.setIfInBounds i2 d1[j2]!).toList.map u16v), (((d1.setIfInBounds i2 d1[j2]!).setIfInBounds j2 d1[i2]!).toList.map u16v)] mixed (by kernel_rfl) (by kernel_rfl) (by kernel_rfl) (by kernel_rfl) hN20 hO5 (StL.get (StL.eq (StL.eq (StL.eq (StL.eq (StL.eq (StL.eq (StL.at (StL.eq (StL.eq (StL.eq (StL.at (StL.eq (StL.at (StL.cons (fun _ _ _ _ h => h) (StL.at (StL.cons (fun _ _ _ _ h => h) (StL.nil _)))))))))))))))))) (ObRs.get (ObRs.cons ?_ (ObRs.cons ?_ (ObRs.cons ?_ (ObRs.cons ?_ (ObRs.cons ?_ (ObRs.cons ?_ (ObRs.cons ?_ (ObRs.cons ?_ (ObRs.cons ?_ (ObRs.cons ?_ (ObRs.cons ?_ (ObRs.cons ?_ (ObRs.cons ?_ (ObRs.pass rfl (ObRs.cons ?_ (ObRs.pass rfl (ObRs.nil)))))))))))))))))) (ObWs.get (ObWs.cons ?_ (ObWs.cons ?_ (ObWs.nil)))) ?_
      ·
       intro aA wA cA hNA hRA hckA hOA hbsA hdpA
       have qA_0 := (hbsA 0 rfl).trans (sl_base hN20 rfl s20_0)
       clear hbsA hdpA
       refine op_move (ev_base hNA rfl qA_0) ?_
       exact obR_end rfl rfl (grown_refl _ _)
      ·
       intro aA wA cA hNA hRA hckA hOA hbsA hdpA
       have qA_10 := (hbsA 10 rfl).trans (sl_base hN20 rfl s20_10)
       clear hbsA hdpA
       refine op_move (ev_base hNA rfl qA_10) ?_
       exact obR_end rfl rfl (grown_refl _ _)
      ·
       intro aA wA cA hNA hRA hckA hOA hbsA hdpA
       have qA_0 := (hbsA 0 rfl).trans (sl_base hN20 rfl s20_0)
       clear hbsA hdpA
       refine op_move (ev_base hNA rfl qA_0) ?_
       exact obR_end rfl rfl (grown_refl _ _)
      ·
       intro aA wA cA hNA hRA hckA hOA hbsA hdpA
       have qA_11 := (hbsA 11 rfl).trans (sl_base hN20 rfl s20_11)
       clear hbsA hdpA
       refine op_move (ev_base hNA rfl qA_11) ?_
       exact obR_end rfl rfl (grown_refl _ _)
      ·
       intro aA wA cA hNA hRA hckA hOA hbsA hdpA
       have qA_0 := (hbsA 0 rfl).trans (sl_base hN20 rfl s20_0)
       clear hbsA hdpA
       refine op_move (ev_base hNA rfl qA_0) ?_
       exact obR_end rfl rfl (grown_refl _ _)
      ·
       intro aA wA cA hNA hRA hckA hOA hbsA hdpA
       have qA_11 := (hbsA 11 rfl).trans (sl_base hN20 rfl s20_11)
       clear hbsA hdpA
       refine op_move (ev_base hNA rfl qA_11) ?_
       exact obR_end rfl rfl (grown_refl _ _)
      ·
       intro aA wA cA hNA hRA hckA hOA hbsA hdpA
       have qA_85 : Sl aA 85 v := hdpA 4 _ 85 (by kernel_rfl) rfl rfl
       have qA_86 : Sl aA 86 (Value.int .i64 ((j2 : Nat) : Int)) := hdpA 5 _ 86 (by kernel_rfl) rfl rfl
       clear hbsA hdpA
       refine op_index_own (i := j2) slt45 (ev_base hNA rfl qA_85) hOA (ev_base hNA rfl qA_86) (by omega) (by omega) ?_
       intro b_ o_ _ hA_
       exact obR_end rfl ⟨b_, o_, rfl, by simpa using hA_⟩ (grown_refl _ _)
      ·
       intro aA wA cA hNA hRA hckA hOA hbsA hdpA
       obtain ⟨bA_87, oA_87, qA_87, hAA_87⟩ := hdpA 6 _ 87 (by kernel_rfl) rfl rfl
       clear hbsA hdpA
       obtain rfl : cA = 0 := Nat.le_zero.1 (hckA 0 13 rfl (by kernel_rfl))
       have hOA : Own wA base 46 1 v n (d1.toList.map u16v) := hOA
       refine op_load1 (v := (Value.int .u16 (d1[j2]!.toNat : Int))) one46 (ev_base hNA rfl qA_87) (by have := hOA.cellAt hAA_87 0 _ (el_at (i := j2) (by first | omega | (simp only [Array.size_setIfInBounds, swp_sz, siftDown_size]; omega))); simpa using this) ?_
       exact obR_end rfl rfl (grown_refl _ _)
      ·
       intro aA wA cA hNA hRA hckA hOA hbsA hdpA
       have qA_0 := (hbsA 0 rfl).trans (sl_base hN20 rfl s20_0)
       clear hbsA hdpA
       refine op_move (ev_base hNA rfl qA_0) ?_
       exact obR_end rfl rfl (grown_refl _ _)
      ·
       intro aA wA cA hNA hRA hckA hOA hbsA hdpA
       have qA_10 := (hbsA 10 rfl).trans (sl_base hN20 rfl s20_10)
       clear hbsA hdpA
       refine op_move (ev_base hNA rfl qA_10) ?_
       exact obR_end rfl rfl (grown_refl _ _)
      ·
       intro aA wA cA hNA hRA hckA hOA hbsA hdpA
       have qA_89 : Sl aA 89 v := hdpA 8 _ 89 (by kernel_rfl) rfl rfl
       have qA_90 : Sl aA 90 (Value.int .i64 ((i2 : Nat) : Int)) := hdpA 9 _ 90 (by kernel_rfl) rfl rfl
       clear hbsA hdpA
       refine op_index_own (i := i2) slt45 (ev_base hNA rfl qA_89) hOA (ev_base hNA rfl qA_90) (by omega) (by omega) ?_
       intro b_ o_ _ hA_
       exact obR_end rfl ⟨b_, o_, rfl, by simpa using hA_⟩ (grown_refl _ _)
      ·
       intro aA wA cA hNA hRA hckA hOA hbsA hdpA
       obtain ⟨bA_91, oA_91, qA_91, hAA_91⟩ := hdpA 10 _ 91 (by kernel_rfl) rfl rfl
       clear hbsA hdpA
       obtain rfl : cA = 0 := Nat.le_zero.1 (hckA 0 13 rfl (by kernel_rfl))
       have hOA : Own wA base 46 1 v n (d1.toList.map u16v) := hOA
       refine op_load1 (v := (Value.int .u16 (d1[i2]!.toNat : Int))) one46 (ev_base hNA rfl qA_91) (by have := hOA.cellAt hAA_91 0 _ (el_at (i := i2) (by first | omega | (simp only [Array.size_setIfInBounds, swp_sz, siftDown_size]; omega))); simpa using this) ?_
       exact obR_end rfl rfl (grown_refl _ _)
      ·
       intro aA wA cA hNA hRA hckA hOA hbsA hdpA
       have qA_81 : Sl aA 81 v := hdpA 0 _ 81 (by kernel_rfl) rfl rfl
       have qA_82 : Sl aA 82 (Value.int .i64 ((i2 : Nat) : Int)) := hdpA 1 _ 82 (by kernel_rfl) rfl rfl
       clear hbsA hdpA
       refine op_index_own (i := i2) slt45 (ev_base hNA rfl qA_81) hOA (ev_base hNA rfl qA_82) (by omega) (by omega) ?_
       intro b_ o_ _ hA_
       exact obR_end rfl ⟨b_, o_, rfl, by simpa using hA_⟩ (grown_refl _ _)
      ·
       intro aA wA cA hNA hRA hckA hOA hbsA hdpA
       have qA_83 : Sl aA 83 v := hdpA 2 _ 83 (by kernel_rfl) rfl rfl
       have qA_84 : Sl aA 84 (Value.int .i64 ((j2 : Nat) : Int)) := hdpA 3 _ 84 (by kernel_rfl) rfl rfl
       clear hbsA hdpA
       refine op_index_own (i := j2) slt45 (ev_base hNA rfl qA_83) hOA (ev_base hNA rfl qA_84) (by omega) (by omega) ?_
       intro b_ o_ _ hA_
       exact obR_end rfl ⟨b_, o_, rfl, by simpa using hA_⟩ (grown_refl _ _)
      ·
       intro o_ ho_; obtain rfl := Option.some.inj ho_; intro aA wA hNA hRA hbsA hdpA hOA
       obtain ⟨bA_93, oA_93, qA_93, hAA_93⟩ := hdpA 12 _ 93 (by kernel_rfl) rfl rfl
       have qA_88 : Sl aA 88 (Value.int .u16 (d1[j2]!.toNat : Int)) := hdpA 7 _ 88 (by kernel_rfl) rfl rfl
       clear hbsA hdpA
       have hOA : Own wA base 46 1 v n (d1.toList.map u16v) := hOA
       refine op_store_own (vs := [(Value.int .u16 (d1[j2]!.toNat : Int))]) size46 (ev_base hNA rfl qA_93) (ev_base hNA rfl qA_88) rfl rfl rfl hOA hAA_93 (by have := hOA.1; simp at this ⊢; omega) ?_
       intro w_ hO_ E_
       exact obW_end rfl (hO_.cast rfl (set_arr (by first | omega | (simp only [Array.size_setIfInBounds, swp_sz, siftDown_size]; omega)))) E_
      ·
       intro o_ ho_; obtain rfl := Option.some.inj ho_; intro aA wA hNA hRA hbsA hdpA hOA
       obtain ⟨bA_94, oA_94, qA_94, hAA_94⟩ := hdpA 14 _ 94 (by kernel_rfl) rfl rfl
       have qA_92 : Sl aA 92 (Value.int .u16 (d1[i2]!.toNat : Int)) := hdpA 11 _ 92 (by kernel_rfl) rfl rfl
       clear hbsA hdpA
       have hOA : Own wA base 46 1 v n ((d1.setIfInBounds i2 d1[j2]!).toList.map u16v) := hOA
       refine op_store_own (vs := [(Value.int .u16 (d1[i2]!.toNat : Int))]) size46 (ev_base hNA rfl qA_94) (ev_base hNA rfl qA_92) rfl rfl rfl hOA hAA_94 (by have := hOA.1; simp at this ⊢; omega) ?_
       intro w_ hO_ E_
       exact obW_end rfl (hO_.cast rfl (set_arr (by first | omega | (simp only [Array.size_setIfInBounds, swp_sz, siftDown_size]; omega)))) E_
      ·
       intro a39 w39 hN39 hd39 hbs39 hph39 hO39 E39
       have hd39 := hd39.trans hd20
       have s39_0 := (hbs39 0 rfl).trans (sl_base hN20 rfl s20_0)
       have s39_1 := (hbs39 1 rfl).trans (sl_base hN20 rfl s20_1)
       have s39_8 := (hbs39 8 rfl).trans (sl_base hN20 rfl s20_8)
       have s39_9 := (hbs39 9 rfl).trans (sl_base hN20 rfl s20_9)
       have s39_10 := (hbs39 10 rfl).trans (sl_base hN20 rfl s20_10)
       have s39_11 := (hbs39 11 rfl).trans (sl_base hN20 rfl s20_11)
       clear hbs39 hph39
       have hO39 : Own w39 base 46 1 v n (((d1.setIfInBounds i2 d1[j2]!).setIfInBounds j2 d1[i2]!).toList.map u16v) := hO39
       have z_w39 := E39.size
       have hb := grow_stepX hb E39 rfl
       refine hK38 _ _ ?_
       refine seq_any fun K40 hK40 => ?_
       refine one_reg ?_
       refine op_move (ev_base hN39 rfl s39_10) ?_
       refine op_add (ev_hit hN39 rfl) rfl (add64 (by omega)) ?_
       refine op_assign (ev_hit hN39 rfl) ?_
       refine reg_nil ?_
       refine hK40 _ _ ?_
       refine seq_any fun K41 hK41 => ?_
       refine one_reg ?_
       refine op_move (ev_base hN39 rfl s39_11) ?_
       refine op_sub (r := ((j2 - 1 : Nat) : Int)) (ev_hit hN39 rfl) rfl (by rw [IntKind.wrap_i64]; omega) ?_
       refine op_assign (ev_hit hN39 rfl) ?_
       refine reg_nil ?_
       refine hK41 _ _ ?_
       refine seq_any fun K42 hK42 => ?_
       refine wp_block ?_
       refine loop_m (fun mz_ az_ w' => ∃ (ii jj : Nat) (dk : Ar), mz_ = (jj + 2 - ii) ∧ (az_.tmps.getD 0 undef = v) ∧ (az_.tmps.getD 1 undef = (Value.int .i64 ((a : Nat) : Int))) ∧ (az_.tmps.getD 8 undef = (Value.int .i64 0)) ∧ (az_.tmps.getD 9 undef = (Value.bool false)) ∧ (az_.tmps.getD 10 undef = (Value.int .i64 ((ii : Nat) : Int))) ∧ (az_.tmps.getD 11 undef = (Value.int .i64 ((jj : Nat) : Int))) ∧ (dk.size = n) ∧ (a < ii ∧ ii ≤ jj + 1 ∧ jj < b) ∧ (partLoop ltT a (i2 + 1) (j2 - 1) (swp d1 i2 j2) = partLoop ltT a ii jj dk) ∧ (w.grownBy w' v.ownBlock) ∧ (w39.heap.size ≤ w'.heap.size) ∧ (Own w' base 46 1 v n (dk.toList.map u16v))) _ hN39 hd39 ⟨(i2 + 1), (j2 - 1), _, rfl, (sl_base hN39 rfl s39_0), (sl_base hN39 rfl s39_1), (sl_base hN39 rfl s39_8), (sl_base hN39 rfl s39_9), (sl_hit hN39 rfl).trans (congrArg (Value.int .i64) (by omega)), (sl_hit hN39 rfl).trans (congrArg (Value.int .i64) (by omega)), (by first | assumption | (simp only [Array.size_setIfInBounds, swp_sz, siftDown_size]; assumption)), (by omega), rfl, hb, (Nat.le_refl _), hO39⟩ ?_
       rintro _ a43 w43 hN43 hd43 ⟨ii, jj, dk, rfl, s43_0, s43_1, s43_8, s43_9, s43_10, s43_11, hdk, hr4, hs, hb, zl_w43, hO44⟩
       have z_w43 := hb.size
       refine wp_block ?_
       refine seq_join1 (N := 168) (fun az_ w' => ∃ (i3 : Nat), (az_.tmps.getD 0 undef = v) ∧ (az_.tmps.getD 1 undef = (Value.int .i64 ((a : Nat) : Int))) ∧ (az_.tmps.getD 8 undef = (Value.int .i64 0)) ∧ (az_.tmps.getD 9 undef = (Value.bool false)) ∧ (az_.tmps.getD 11 undef = (Value.int .i64 ((jj : Nat) : Int))) ∧ (az_.tmps.getD 10 undef = (Value.int .i64 ((i3 : Nat) : Int))) ∧ (ii ≤ i3 ∧ i3 ≤ jj + 1) ∧ (scanUp (fun x => ltT x dk[a]!) dk jj ii = i3) ∧ (i3 ≤ jj → ltT dk[i3]! dk[a]! = false) ∧ (w.grownBy w' v.ownBlock) ∧ (w43.heap.size ≤ w'.heap.size) ∧ (Own w' base 46 1 v n (dk.toList.map u16v))) (fun hJ45 => ?_) ?_
       ·
        refine seq_any fun K46 hK46 => ?_
        refine wp_block ?_
        refine loop_m (fun mz_ az_ w' => ∃ (i3 : Nat), mz_ = (jj + 1 - i3) ∧ (az_.tmps.getD 0 undef = v) ∧ (az_.tmps.getD 1 undef = (Value.int .i64 ((a : Nat) : Int))) ∧ (az_.tmps.getD 8 undef = (Value.int .i64 0)) ∧ (az_.tmps.getD 9 undef = (Value.bool false)) ∧ (az_.tmps.getD 11 undef = (Value.int .i64 ((jj : Nat) : Int))) ∧ (az_.tmps.getD 10 undef = (Value.int .i64 ((i3 : Nat) : Int))) ∧ (ii ≤ i3 ∧ i3 ≤ jj + 1) ∧ (scanUp (fun x => ltT x dk[a]!) dk jj ii = scanUp (fun x => ltT x dk[a]!) dk jj i3) ∧ (w.grownBy w' v.ownBlock) ∧ (w43.heap.size ≤ w'.heap.size) ∧ (Own w' base 46 1 v n (dk.toList.map u16v))) _ hN43 hd43 ⟨ii, rfl, (sl_base hN43 rfl s43_0), (sl_base hN43 rfl s43_1), (sl_base hN43 rfl s43_8), (sl_base hN43 rfl s43_9), (sl_base hN43 rfl s43_11), (sl_base hN43 rfl s43_10).trans (congrArg (Value.int .i64) (by omega)), (by omega), rfl, hb, (Nat.le_refl _), hO44⟩ ?_
        rintro _ a47 w47 hN47 hd47 ⟨i3, rfl, s47_0, s47_1, s47_8, s47_9, s47_11, s47_10, hr5, hu3, hb, zl_w47, hO44⟩
        have z_w47 := hb.size
        refine seq_any fun K48 hK48 => ?_
        refine seq_any fun K49 hK49 => ?_
        refine reg_still mixed (by kernel_rfl) ?_
        intro w51 E50
        have z_w51 := E50.size
        have hO44 := hO44.keep0 E50
        have hb := grow_step0 hb E50
        refine st_step rfl (fun _ h9 => op_move (ev_base hN47 rfl s47_10) h9) ?_
        refine st_step rfl (fun _ h9 => op_move (ev_base hN47 rfl s47_11) h9) ?_
        by_cases g101 : ((i3 : Nat) : Int) ≤ ((jj : Nat) : Int)
        · -- 101T
         refine st_step rfl (fun _ h9 => op_cmp (b := true) (ev_hit hN47 rfl) (ev_hit hN47 rfl) (b_leq (decide_eq_true g101)) h9) ?_
         refine st_step rfl (fun _ h9 => op_move (ev_hit hN47 rfl) h9) ?_
         refine st_g_true (j := 3) (dj := 102) (b := true) rfl rfl rfl (ev_hit hN47 rfl) ?_
         refine st_step rfl (fun _ h9 => op_move (ev_base hN47 rfl s47_0) h9) ?_
         refine st_g_true (j := 3) (dj := 102) (b := true) rfl rfl rfl (ev_hit hN47 rfl) ?_
         refine st_step rfl (fun _ h9 => op_move (ev_base hN47 rfl s47_10) h9) ?_
         refine st_g_true (j := 3) (dj := 102) (b := true) rfl rfl rfl (ev_hit hN47 rfl) ?_
         refine st_index_rd slt45 (ev_hit hN47 rfl) hO44.rdw (ev_hit hN47 rfl) (by omega) (by omega) ?_
         intro b52 o53 h0b52 h1b52 hc54
         refine st_g_true (j := 3) (dj := 102) (b := true) rfl rfl rfl (ev_hit hN47 rfl) ?_
         refine st_step rfl (fun _ h9 => op_load1 (v := (Value.int .u16 (dk[i3]!.toNat : Int))) one46 (ev_hit hN47 rfl) (by have := hc54 0 (Value.int .u16 (dk[i3]!.toNat : Int)) (by decide) (el_arr (i := i3) (by omega) (by first | omega | (simp only [Array.size_setIfInBounds, swp_sz, siftDown_size]; omega))); simpa using this) h9) ?_
         refine st_g_true (j := 3) (dj := 102) (b := true) rfl rfl rfl (ev_hit hN47 rfl) ?_
         refine st_step rfl (fun _ h9 => op_move (ev_base hN47 rfl s47_0) h9) ?_
         refine st_g_true (j := 3) (dj := 102) (b := true) rfl rfl rfl (ev_hit hN47 rfl) ?_
         refine st_step rfl (fun _ h9 => op_move (ev_base hN47 rfl s47_1) h9) ?_
         refine st_g_true (j := 3) (dj := 102) (b := true) rfl rfl rfl (ev_hit hN47 rfl) ?_
         refine st_index_rd slt45 (ev_hit hN47 rfl) hO44.rdw (ev_hit hN47 rfl) (by omega) (by omega) ?_
         intro b55 o56 h0b55 h1b55 hc57
         refine st_g_true (j := 3) (dj := 102) (b := true) rfl rfl rfl (ev_hit hN47 rfl) ?_
         refine st_step rfl (fun _ h9 => op_load1 (v := (Value.int .u16 (dk[a]!.toNat : Int))) one46 (ev_hit hN47 rfl) (by have := hc57 0 (Value.int .u16 (dk[a]!.toNat : Int)) (by decide) (el_arr (i := a) (by omega) (by first | omega | (simp only [Array.size_setIfInBounds, swp_sz, siftDown_size]; omega))); simpa using this) h9) ?_
         refine st_g_true (j := 3) (dj := 102) (b := true) rfl rfl rfl (ev_hit hN47 rfl) ?_
         refine st_fn (vs := [(Value.int .u16 (dk[i3]!.toNat : Int)), (Value.int .u16 (dk[a]!.toNat : Int))]) ok159 (⟨(ev_hit hN47 rfl), ⟨(ev_hit hN47 rfl), trivial⟩⟩) (Less16_ret dk[i3]! dk[a]! _) ?_
         refine st_step rfl (fun _ h9 => op_pick_t (ev_hit hN47 rfl) (ev_hit hN47 rfl) h9) ?_
         refine st_nil ?_
         refine hK49 _ _ ?_
         refine wp_cond_split (ev_hit hN47 rfl) (fun c112 => ?_) (fun c112 => ?_)
         · -- 112T
          refine wp_skip ?_
          refine hK48 _ _ ?_
          refine wp_block ?_
          refine one_reg ?_
          refine op_move (ev_base hN47 rfl s47_10) ?_
          refine op_add (ev_hit hN47 rfl) rfl (add64 (by omega)) ?_
          refine op_assign (ev_hit hN47 rfl) ?_
          refine reg_nil ?_
          refine blk_normal ?_
          -- round 65F 101T 112T
          exact loop_next _ hN47 hd47 ⟨(i3 + 1), rfl, (sl_base hN47 rfl s47_0), (sl_base hN47 rfl s47_1), (sl_base hN47 rfl s47_8), (sl_base hN47 rfl s47_9), (sl_base hN47 rfl s47_11), (sl_hit hN47 rfl).trans (congrArg (Value.int .i64) (by omega)), (by omega), (hu3.trans (scanUp_go (by omega) c112)), hb, (by omega), hO44⟩ (by omega)
         · -- 112F
          refine wp_exit (then_exit (then_exit (blk_hit ?_)))
          refine hK46 _ _ ?_
          exact hJ45 _ _ _ hN47 hd47 ⟨i3, (sl_base hN47 rfl s47_0), (sl_base hN47 rfl s47_1), (sl_base hN47 rfl s47_8), (sl_base hN47 rfl s47_9), (sl_base hN47 rfl s47_11), (sl_base hN47 rfl s47_10), (by omega), (hu3.trans (scanUp_stop (.inr c112))), (fun _ => c112), hb, (by omega), hO44⟩
        · -- 101F
         refine st_step rfl (fun _ h9 => op_cmp (b := false) (ev_hit hN47 rfl) (ev_hit hN47 rfl) (b_leq (decide_eq_false g101)) h9) ?_
         refine st_step rfl (fun _ h9 => op_move (ev_hit hN47 rfl) h9) ?_
         refine st_g_false (j := 3) (dj := 102) (b := true) rfl rfl rfl (ev_hit hN47 rfl) rfl rfl ?_
         refine st_g_false (j := 3) (dj := 102) (b := true) rfl rfl rfl (ev_hit hN47 rfl) rfl rfl ?_
         refine st_g_false (j := 3) (dj := 102) (b := true) rfl rfl rfl (ev_hit hN47 rfl) rfl rfl ?_
         refine st_g_false (j := 3) (dj := 102) (b := true) rfl rfl rfl (ev_hit hN47 rfl) rfl rfl ?_
         refine st_g_false (j := 3) (dj := 102) (b := true) rfl rfl rfl (ev_hit hN47 rfl) rfl rfl ?_
         refine st_g_false (j := 3) (dj := 102) (b := true) rfl rfl rfl (ev_hit hN47 rfl) rfl rfl ?_
         refine st_g_false (j := 3) (dj := 102) (b := true) rfl rfl rfl (ev_hit hN47 rfl) rfl rfl ?_
         refine st_g_false (j := 3) (dj := 102) (b := true) rfl rfl rfl (ev_hit hN47 rfl) rfl rfl ?_
         refine st_g_false (j := 3) (dj := 102) (b := true) rfl rfl rfl (ev_hit hN47 rfl) rfl rfl ?_
         refine st_step rfl (fun _ h9 => op_pick_f (ev_hit hN47 rfl) rfl h9) ?_
         refine st_nil ?_
         refine hK49 _ _ ?_
         refine wp_cond_false (ev_hit hN47 rfl) ?_
         refine wp_exit (then_exit (then_exit (blk_hit ?_)))
         refine hK46 _ _ ?_
         exact hJ45 _ _ _ hN47 hd47 ⟨i3, (sl_base hN47 rfl s47_0), (sl_base hN47 rfl s47_1), (sl_base hN47 rfl s47_8), (sl_base hN47 rfl s47_9), (sl_base hN47 rfl s47_11), (sl_base hN47 rfl s47_10), (by omega), (hu3.trans (scanUp_stop (.inl (by omega)))), (fun hq => absurd hq (by omega)), hb, (by omega), hO44⟩
       ·
        rintro a45 w45 hN45 hd45 ⟨i3, s45_0, s45_1, s45_8, s45_9, s45_11, s45_10, hr5, hu4, hx4, hb, zl_w45, hO44⟩
        have z_w45 := hb.size
        refine seq_join1 (N := 168) (fun az_ w' => ∃ (j3 : Nat), (az_.tmps.getD 0 undef = v) ∧ (az_.tmps.getD 1 undef = (Value.int .i64 ((a : Nat) : Int))) ∧ (az_.tmps.getD 8 undef = (Value.int .i64 0)) ∧ (az_.tmps.getD 9 undef = (Value.bool false)) ∧ (az_.tmps.getD 10 undef = (Value.int .i64 ((i3 : Nat) : Int))) ∧ (az_.tmps.getD 11 undef = (Value.int .i64 ((j3 : Nat) : Int))) ∧ (j3 ≤ jj ∧ i3 ≤ j3 + 1) ∧ (scanDown (fun x => !ltT x dk[a]!) dk i3 jj = j3) ∧ (i3 ≠ j3) ∧ (w.grownBy w' v.ownBlock) ∧ (w45.heap.size ≤ w'.heap.size) ∧ (Own w' base 46 1 v n (dk.toList.map u16v))) (fun hJ58 => ?_) ?_
        ·
         refine seq_any fun K59 hK59 => ?_
         refine wp_block ?_
         refine loop_m (fun mz_ az_ w' => ∃ (j3 : Nat), mz_ = (j3 + 1) ∧ (az_.tmps.getD 0 undef = v) ∧ (az_.tmps.getD 1 undef = (Value.int .i64 ((a : Nat) : Int))) ∧ (az_.tmps.getD 8 undef = (Value.int .i64 0)) ∧ (az_.tmps.getD 9 undef = (Value.bool false)) ∧ (az_.tmps.getD 10 undef = (Value.int .i64 ((i3 : Nat) : Int))) ∧ (az_.tmps.getD 11 undef = (Value.int .i64 ((j3 : Nat) : Int))) ∧ (j3 ≤ jj ∧ i3 ≤ j3 + 1) ∧ (scanDown (fun x => !ltT x dk[a]!) dk i3 jj = scanDown (fun x => !ltT x dk[a]!) dk i3 j3) ∧ (w.grownBy w' v.ownBlock) ∧ (w45.heap.size ≤ w'.heap.size) ∧ (Own w' base 46 1 v n (dk.toList.map u16v))) _ hN45 hd45 ⟨jj, rfl, (sl_base hN45 rfl s45_0), (sl_base hN45 rfl s45_1), (sl_base hN45 rfl s45_8), (sl_base hN45 rfl s45_9), (sl_base hN45 rfl s45_10), (sl_base hN45 rfl s45_11).trans (congrArg (Value.int .i64) (by omega)), (by omega), rfl, hb, (Nat.le_refl _), hO44⟩ ?_
         rintro _ a60 w60 hN60 hd60 ⟨j3, rfl, s60_0, s60_1, s60_8, s60_9, s60_10, s60_11, hr6, hv3, hb, zl_w60, hO44⟩
         have z_w60 := hb.size
         refine seq_any fun K61 hK61 => ?_
         refine seq_any fun K62 hK62 => ?_
         refine reg_still mixed (by kernel_rfl) ?_
         intro w64 E63
         have z_w64 := E63.size
         have hO44 := hO44.keep0 E63
         have hb := grow_step0 hb E63
         refine st_step rfl (fun _ h9 => op_move (ev_base hN60 rfl s60_10) h9) ?_
         refine st_step rfl (fun _ h9 => op_move (ev_base hN60 rfl s60_11) h9) ?_
         by_cases g117 : ((i3 : Nat) : Int) ≤ ((j3 : Nat) : Int)
         · -- 117T
          refine st_step rfl (fun _ h9 => op_cmp (b := true) (ev_hit hN60 rfl) (ev_hit hN60 rfl) (b_leq (decide_eq_true g117)) h9) ?_
          refine st_step rfl (fun _ h9 => op_move (ev_hit hN60 rfl) h9) ?_
          refine st_g_true (j := 3) (dj := 118) (b := true) rfl rfl rfl (ev_hit hN60 rfl) ?_
          refine st_step rfl (fun _ h9 => op_move (ev_base hN60 rfl s60_0) h9) ?_
          refine st_g_true (j := 3) (dj := 118) (b := true) rfl rfl rfl (ev_hit hN60 rfl) ?_
          refine st_step rfl (fun _ h9 => op_move (ev_base hN60 rfl s60_11) h9) ?_
          refine st_g_true (j := 3) (dj := 118) (b := true) rfl rfl rfl (ev_hit hN60 rfl) ?_
          refine st_index_rd slt45 (ev_hit hN60 rfl) hO44.rdw (ev_hit hN60 rfl) (by omega) (by omega) ?_
          intro b65 o66 h0b65 h1b65 hc67
          refine st_g_true (j := 3) (dj := 118) (b := true) rfl rfl rfl (ev_hit hN60 rfl) ?_
          refine st_step rfl (fun _ h9 => op_load1 (v := (Value.int .u16 (dk[j3]!.toNat : Int))) one46 (ev_hit hN60 rfl) (by have := hc67 0 (Value.int .u16 (dk[j3]!.toNat : Int)) (by decide) (el_arr (i := j3) (by omega) (by first | omega | (simp only [Array.size_setIfInBounds, swp_sz, siftDown_size]; omega))); simpa using this) h9) ?_
          refine st_g_true (j := 3) (dj := 118) (b := true) rfl rfl rfl (ev_hit hN60 rfl) ?_
          refine st_step rfl (fun _ h9 => op_move (ev_base hN60 rfl s60_0) h9) ?_
          refine st_g_true (j := 3) (dj := 118) (b := true) rfl rfl rfl (ev_hit hN60 rfl) ?_
          refine st_step rfl (fun _ h9 => op_move (ev_base hN60 rfl s60_1) h9) ?_
          refine st_g_true (j := 3) (dj := 118) (b := true) rfl rfl rfl (ev_hit hN60 rfl) ?_
          refine st_index_rd slt45 (ev_hit hN60 rfl) hO44.rdw (ev_hit hN60 rfl) (by omega) (by omega) ?_
          intro b68 o69 h0b68 h1b68 hc70
          refine st_g_true (j := 3) (dj := 118) (b := true) rfl rfl rfl (ev_hit hN60 rfl) ?_
          refine st_step rfl (fun _ h9 => op_load1 (v := (Value.int .u16 (dk[a]!.toNat : Int))) one46 (ev_hit hN60 rfl) (by have := hc70 0 (Value.int .u16 (dk[a]!.toNat : Int)) (by decide) (el_arr (i := a) (by omega) (by first | omega | (simp only [Array.size_setIfInBounds, swp_sz, siftDown_size]; omega))); simpa using this) h9) ?_
          refine st_g_true (j := 3) (dj := 118) (b := true) rfl rfl rfl (ev_hit hN60 rfl) ?_
          refine st_fn (vs := [(Value.int .u16 (dk[j3]!.toNat : Int)), (Value.int .u16 (dk[a]!.toNat : Int))]) ok159 (⟨(ev_hit hN60 rfl), ⟨(ev_hit hN60 rfl), trivial⟩⟩) (Less16_ret dk[j3]! dk[a]! _) ?_
          refine st_g_true (j := 3) (dj := 118) (b := true) rfl rfl rfl (ev_hit hN60 rfl) ?_
          refine st_step rfl (fun _ h9 => op_not (ev_hit hN60 rfl) h9) ?_
          refine st_step rfl (fun _ h9 => op_pick_t (ev_hit hN60 rfl) (ev_hit hN60 rfl) h9) ?_
          refine st_nil ?_
          refine hK62 _ _ ?_
          refine wp_cond_split (ev_hit hN60 rfl) (fun c129 => ?_) (fun c129 => ?_)
          · -- 129T
           refine wp_skip ?_
           refine hK61 _ _ ?_
           refine wp_block ?_
           refine one_reg ?_
           refine op_move (ev_base hN60 rfl s60_11) ?_
           refine op_sub (ev_hit hN60 rfl) rfl (sub64 (by omega)) ?_
           refine op_assign (ev_hit hN60 rfl) ?_
           refine reg_nil ?_
           refine blk_normal ?_
           -- round 65F 117T 129T
           exact loop_next _ hN60 hd60 ⟨(j3 - 1), rfl, (sl_base hN60 rfl s60_0), (sl_base hN60 rfl s60_1), (sl_base hN60 rfl s60_8), (sl_base hN60 rfl s60_9), (sl_base hN60 rfl s60_10), (sl_hit hN60 rfl).trans (congrArg (Value.int .i64) (by omega)), (by omega), (hv3.trans (scanDown_go (by omega) (by omega) c129)), hb, (by omega), hO44⟩ (by omega)
          · -- 129F
           refine wp_exit (then_exit (then_exit (blk_hit ?_)))
           refine hK59 _ _ ?_
           exact hJ58 _ _ _ hN60 hd60 ⟨j3, (sl_base hN60 rfl s60_0), (sl_base hN60 rfl s60_1), (sl_base hN60 rfl s60_8), (sl_base hN60 rfl s60_9), (sl_base hN60 rfl s60_10), (sl_base hN60 rfl s60_11), (by omega), (hv3.trans (scanDown_stop (.inr c129))), (fun hh => by have h9 := hx4 (by omega); rw [hh] at h9; rw [h9] at c129; simp at c129), hb, (by omega), hO44⟩
         · -- 117F
          refine st_step rfl (fun _ h9 => op_cmp (b := false) (ev_hit hN60 rfl) (ev_hit hN60 rfl) (b_leq (decide_eq_false g117)) h9) ?_
          refine st_step rfl (fun _ h9 => op_move (ev_hit hN60 rfl) h9) ?_
          refine st_g_false (j := 3) (dj := 118) (b := true) rfl rfl rfl (ev_hit hN60 rfl) rfl rfl ?_
          refine st_g_false (j := 3) (dj := 118) (b := true) rfl rfl rfl (ev_hit hN60 rfl) rfl rfl ?_
          refine st_g_false (j := 3) (dj := 118) (b := true) rfl rfl rfl (ev_hit hN60 rfl) rfl rfl ?_
          refine st_g_false (j := 3) (dj := 118) (b := true) rfl rfl rfl (ev_hit hN60 rfl) rfl rfl ?_
          refine st_g_false (j := 3) (dj := 118) (b := true) rfl rfl rfl (ev_hit hN60 rfl) rfl rfl ?_
          refine st_g_false (j := 3) (dj := 118) (b := true) rfl rfl rfl (ev_hit hN60 rfl) rfl rfl ?_
          refine st_g_false (j := 3) (dj := 118) (b := true) rfl rfl rfl (ev_hit hN60 rfl) rfl rfl ?_
          refine st_g_false (j := 3) (dj := 118) (b := true) rfl rfl rfl (ev_hit hN60 rfl) rfl rfl ?_
          refine st_g_false (j := 3) (dj := 118) (b := true) rfl rfl rfl (ev_hit hN60 rfl) rfl rfl ?_
          refine st_g_false (j := 3) (dj := 118) (b := true) rfl rfl rfl (ev_hit hN60 rfl) rfl rfl ?_
          refine st_step rfl (fun _ h9 => op_pick_f (ev_hit hN60 rfl) rfl h9) ?_
          refine st_nil ?_
          refine hK62 _ _ ?_
          refine wp_cond_false (ev_hit hN60 rfl) ?_
          refine wp_exit (then_exit (then_exit (blk_hit ?_)))
          refine hK59 _ _ ?_
          exact hJ58 _ _ _ hN60 hd60 ⟨j3, (sl_base hN60 rfl s60_0), (sl_base hN60 rfl s60_1), (sl_base hN60 rfl s60_8), (sl_base hN60 rfl s60_9), (sl_base hN60 rfl s60_10), (sl_base hN60 rfl s60_11), (by omega), (hv3.trans (scanDown_stop (.inl (by omega)))), (by omega), hb, (by omega), hO44⟩
        ·
         rintro a58 w58 hN58 hd58 ⟨j3, s58_0, s58_1, s58_8, s58_9, s58_10, s58_11, hr6, hv4, hne4, hb, zl_w58, hO44⟩
         have z_w58 := hb.size
         refine seq_any fun K71 hK71 => ?_
         refine seq_any fun K72 hK72 => ?_
         refine one_reg ?_
         refine op_move (ev_base hN58 rfl s58_10) ?_
         refine op_move (ev_base hN58 rfl s58_11) ?_
         refine op_gtr (ev_hit hN58 rfl) (ev_hit hN58 rfl) (fun c134 => ?_) (fun c134 => ?_)
         · -- 134T
          refine reg_nil ?_
          refine hK72 _ _ ?_
          refine wp_cond_true (ev_hit hN58 rfl) ?_
          refine wp_exit (then_exit (blk_miss (by decide) (then_exit (blk_hit ?_))))
          refine hK42 _ _ ?_
          refine seq_any fun K73 hK73 => ?_
          refine reg_mid (e := 46) (sz := 1) (base := base) (n := n) (v := v) (Φ := phiL [(fun uz _ => uz = v), (fun uz _ => uz = (Value.int .i64 ((j3 : Nat) : Int))), (fun uz _ => uz = v), (fun uz _ => uz = (Value.int .i64 ((a : Nat) : Int))), (fun uz _ => uz = v), (fun uz _ => uz = (Value.int .i64 ((a : Nat) : Int))), (fun uz _ => ∃ bz oz, uz = ptr bz oz ∧ AtV v a bz oz), (fun uz _ => uz = (Value.int .u16 (dk[a]!.toNat : Int))), (fun uz _ => uz = v), (fun uz _ => uz = (Value.int .i64 ((j3 : Nat) : Int))), (fun uz _ => ∃ bz oz, uz = ptr bz oz ∧ AtV v j3 bz oz), (fun uz _ => uz = (Value.int .u16 (dk[j3]!.toNat : Int))), (fun uz _ => ∃ bz oz, uz = ptr bz oz ∧ AtV v j3 bz oz), (fun _ _ => True), (fun uz _ => ∃ bz oz, uz = ptr bz oz ∧ AtV v a bz oz), (fun _ _ => True)]) [13, 15] [(dk.toList.map u16v), ((dk.setIfInBounds j3 dk[a]!).toList.map u16v), (((dk.setIfInBounds j3 dk[a]!).setIfInBounds a dk[j3]!).toList.map u16v)] mixed (by kernel_rfl) (by kernel_rfl) (by kernel_rfl) (by kernel_rfl) hN58 hO44 (StL.get (StL.eq (StL.eq (StL.eq (StL.eq (StL.eq (StL.eq (StL.at (StL.eq (StL.eq (StL.eq (StL.at (StL.eq (StL.at (StL.cons (fun _ _ _ _ h => h) (StL.at (StL.cons (fun _ _ _ _ h => h) (StL.nil _)))))))))))))))))) (ObRs.get (ObRs.cons ?_ (ObRs.cons ?_ (ObRs.cons ?_ (ObRs.cons ?_ (ObRs.cons ?_ (ObRs.cons ?_ (ObRs.cons ?_ (ObRs.cons ?_ (ObRs.cons ?_ (ObRs.cons ?_ (ObRs.cons ?_ (ObRs.cons ?_ (ObRs.cons ?_ (ObRs.pass rfl (ObRs.cons ?_ (ObRs.pass rfl (ObRs.nil)))))))))))))))))) (ObWs.get (ObWs.cons ?_ (ObWs.cons ?_ (ObWs.nil)))) ?_
          ·
           intro aA wA cA hNA hRA hckA hOA hbsA hdpA
           have qA_0 := (hbsA 0 rfl).trans (sl_base hN58 rfl s58_0)
           clear hbsA hdpA
           refine op_move (ev_base hNA rfl qA_0) ?_
           exact obR_end rfl rfl (grown_refl _ _)
          ·
           intro aA wA cA hNA hRA hckA hOA hbsA hdpA
           have qA_11 := (hbsA 11 rfl).trans (sl_base hN58 rfl s58_11)
           clear hbsA hdpA
           refine op_move (ev_base hNA rfl qA_11) ?_
           exact obR_end rfl rfl (grown_refl _ _)
          ·
           intro aA wA cA hNA hRA hckA hOA hbsA hdpA
           have qA_0 := (hbsA 0 rfl).trans (sl_base hN58 rfl s58_0)
           clear hbsA hdpA
           refine op_move (ev_base hNA rfl qA_0) ?_
           exact obR_end rfl rfl (grown_refl _ _)
          ·
           intro aA wA cA hNA hRA hckA hOA hbsA hdpA
           have qA_1 := (hbsA 1 rfl).trans (sl_base hN58 rfl s58_1)
           clear hbsA hdpA
           refine op_move (ev_base hNA rfl qA_1) ?_
           exact obR_end rfl rfl (grown_refl _ _)
          ·
           intro aA wA cA hNA hRA hckA hOA hbsA hdpA
           have qA_0 := (hbsA 0 rfl).trans (sl_base hN58 rfl s58_0)
           clear hbsA hdpA
           refine op_move (ev_base hNA rfl qA_0) ?_
           exact obR_end rfl rfl (grown_refl _ _)
          ·
           intro aA wA cA hNA hRA hckA hOA hbsA hdpA
           have qA_1 := (hbsA 1 rfl).trans (sl_base hN58 rfl s58_1)
           clear hbsA hdpA
           refine op_move (ev_base hNA rfl qA_1) ?_
           exact obR_end rfl rfl (grown_refl _ _)
          ·
           intro aA wA cA hNA hRA hckA hOA hbsA hdpA
           have qA_157 : Sl aA 157 v := hdpA 4 _ 157 (by kernel_rfl) rfl rfl
           have qA_158 : Sl aA 158 (Value.int .i64 ((a : Nat) : Int)) := hdpA 5 _ 158 (by kernel_rfl) rfl rfl
           clear hbsA hdpA
           refine op_index_own (i := a) slt45 (ev_base hNA rfl qA_157) hOA (ev_base hNA rfl qA_158) (by omega) (by omega) ?_
           intro b_ o_ _ hA_
           exact obR_end rfl ⟨b_, o_, rfl, by simpa using hA_⟩ (grown_refl _ _)
          ·
           intro aA wA cA hNA hRA hckA hOA hbsA hdpA
           obtain ⟨bA_159, oA_159, qA_159, hAA_159⟩ := hdpA 6 _ 159 (by kernel_rfl) rfl rfl
           clear hbsA hdpA
           obtain rfl : cA = 0 := Nat.le_zero.1 (hckA 0 13 rfl (by kernel_rfl))
           have hOA : Own wA base 46 1 v n (dk.toList.map u16v) := hOA
           refine op_load1 (v := (Value.int .u16 (dk[a]!.toNat : Int))) one46 (ev_base hNA rfl qA_159) (by have := hOA.cellAt hAA_159 0 _ (el_at (i := a) (by first | omega | (simp only [Array.size_setIfInBounds, swp_sz, siftDown_size]; omega))); simpa using this) ?_
           exact obR_end rfl rfl (grown_refl _ _)
          ·
           intro aA wA cA hNA hRA hckA hOA hbsA hdpA
           have qA_0 := (hbsA 0 rfl).trans (sl_base hN58 rfl s58_0)
           clear hbsA hdpA
           refine op_move (ev_base hNA rfl qA_0) ?_
           exact obR_end rfl rfl (grown_refl _ _)
          ·
           intro aA wA cA hNA hRA hckA hOA hbsA hdpA
           have qA_11 := (hbsA 11 rfl).trans (sl_base hN58 rfl s58_11)
           clear hbsA hdpA
           refine op_move (ev_base hNA rfl qA_11) ?_
           exact obR_end rfl rfl (grown_refl _ _)
          ·
           intro aA wA cA hNA hRA hckA hOA hbsA hdpA
           have qA_161 : Sl aA 161 v := hdpA 8 _ 161 (by kernel_rfl) rfl rfl
           have qA_162 : Sl aA 162 (Value.int .i64 ((j3 : Nat) : Int)) := hdpA 9 _ 162 (by kernel_rfl) rfl rfl
           clear hbsA hdpA
           refine op_index_own (i := j3) slt45 (ev_base hNA rfl qA_161) hOA (ev_base hNA rfl qA_162) (by omega) (by omega) ?_
           intro b_ o_ _ hA_
           exact obR_end rfl ⟨b_, o_, rfl, by simpa using hA_⟩ (grown_refl _ _)
          ·
           intro aA wA cA hNA hRA hckA hOA hbsA hdpA
           obtain ⟨bA_163, oA_163, qA_163, hAA_163⟩ := hdpA 10 _ 163 (by kernel_rfl) rfl rfl
           clear hbsA hdpA
           obtain rfl : cA = 0 := Nat.le_zero.1 (hckA 0 13 rfl (by kernel_rfl))
           have hOA : Own wA base 46 1 v n (dk.toList.map u16v) := hOA
           refine op_load1 (v := (Value.int .u16 (dk[j3]!.toNat : Int))) one46 (ev_base hNA rfl qA_163) (by have := hOA.cellAt hAA_163 0 _ (el_at (i := j3) (by first | omega | (simp only [Array.size_setIfInBounds, swp_sz, siftDown_size]; omega))); simpa using this) ?_
           exact obR_end rfl rfl (grown_refl _ _)
          ·
           intro aA wA cA hNA hRA hckA hOA hbsA hdpA
           have qA_153 : Sl aA 153 v := hdpA 0 _ 153 (by kernel_rfl) rfl rfl
           have qA_154 : Sl aA 154 (Value.int .i64 ((j3 : Nat) : Int)) := hdpA 1 _ 154 (by kernel_rfl) rfl rfl
           clear hbsA hdpA
           refine op_index_own (i := j3) slt45 (ev_base hNA rfl qA_153) hOA (ev_base hNA rfl qA_154) (by omega) (by omega) ?_
           intro b_ o_ _ hA_
           exact obR_end rfl ⟨b_, o_, rfl, by simpa using hA_⟩ (grown_refl _ _)
          ·
           intro aA wA cA hNA hRA hckA hOA hbsA hdpA
           have qA_155 : Sl aA 155 v := hdpA 2 _ 155 (by kernel_rfl) rfl rfl
           have qA_156 : Sl aA 156 (Value.int .i64 ((a : Nat) : Int)) := hdpA 3 _ 156 (by kernel_rfl) rfl rfl
           clear hbsA hdpA
           refine op_index_own (i := a) slt45 (ev_base hNA rfl qA_155) hOA (ev_base hNA rfl qA_156) (by omega) (by omega) ?_
           intro b_ o_ _ hA_
           exact obR_end rfl ⟨b_, o_, rfl, by simpa using hA_⟩ (grown_refl _ _)
          ·
           intro o_ ho_; obtain rfl := Option.some.inj ho_; intro aA wA hNA hRA hbsA hdpA hOA
           obtain ⟨bA_165, oA_165, qA_165, hAA_165⟩ := hdpA 12 _ 165 (by kernel_rfl) rfl rfl
           have qA_160 : Sl aA 160 (Value.int .u16 (dk[a]!.toNat : Int)) := hdpA 7 _ 160 (by kernel_rfl) rfl rfl
           clear hbsA hdpA
           have hOA : Own wA base 46 1 v n (dk.toList.map u16v) := hOA
           refine op_store_own (vs := [(Value.int .u16 (dk[a]!.toNat : Int))]) size46 (ev_base hNA rfl qA_165) (ev_base hNA rfl qA_160) rfl rfl rfl hOA hAA_165 (by have := hOA.1; simp at this ⊢; omega) ?_
           intro w_ hO_ E_
           exact obW_end rfl (hO_.cast rfl (set_arr (by first | omega | (simp only [Array.size_setIfInBounds, swp_sz, siftDown_size]; omega)))) E_
          ·
           intro o_ ho_; obtain rfl := Option.some.inj ho_; intro aA wA hNA hRA hbsA hdpA hOA
           obtain ⟨bA_166, oA_166, qA_166, hAA_166⟩ := hdpA 14 _ 166 (by kernel_rfl) rfl rfl
           have qA_164 : Sl aA 164 (Value.int .u16 (dk[j3]!.toNat : Int)) := hdpA 11 _ 164 (by kernel_rfl) rfl rfl
           clear hbsA hdpA
           have hOA : Own wA base 46 1 v n ((dk.setIfInBounds j3 dk[a]!).toList.map u16v) := hOA
           refine op_store_own (vs := [(Value.int .u16 (dk[j3]!.toNat : Int))]) size46 (ev_base hNA rfl qA_166) (ev_base hNA rfl qA_164) rfl rfl rfl hOA hAA_166 (by have := hOA.1; simp at this ⊢; omega) ?_
           intro w_ hO_ E_
           exact obW_end rfl (hO_.cast rfl (set_arr (by first | omega | (simp only [Array.size_setIfInBounds, swp_sz, siftDown_size]; omega)))) E_
          ·
           intro a74 w74 hN74 hd74 hbs74 hph74 hO74 E74
           have hd74 := hd74.trans hd58
           have s74_8 := (hbs74 8 rfl).trans (sl_base hN58 rfl s58_8)
           have s74_9 := (hbs74 9 rfl).trans (sl_base hN58 rfl s58_9)
           have s74_11 := (hbs74 11 rfl).trans (sl_base hN58 rfl s58_11)
           clear hbs74 hph74
           have hO74 : Own w74 base 46 1 v n (((dk.setIfInBounds j3 dk[a]!).setIfInBounds a dk[j3]!).toList.map u16v) := hO74
           have z_w74 := E74.size
           have hb := grow_stepX hb E74 rfl
           refine hK73 _ _ ?_
           refine seq_any fun K75 hK75 => ?_
           refine one_reg ?_
           refine op_move (ev_base hN74 rfl s74_11) ?_
           refine op_assign (ev_hit hN74 rfl) ?_
           refine op_assign rfl ?_
           refine reg_nil ?_
           refine hK75 _ _ ?_
           refine wp_ret ?_
           refine ret2 rfl hd74 (ev_hit hN74 rfl) (ev_hit hN74 rfl) ⟨_, rfl, ?_⟩
           -- path 65F 134T
           have hp := hs.trans (pl_stop hu4 hv4 (by omega))
           have hq := pt_go hd1 hu2 hv2 (by omega)
           rw [hp] at hq
           exact ⟨hb, by rw [hq]; rfl, hO74.cast rfl (by rw [hq]; rfl)⟩
         · -- 134F
          refine reg_nil ?_
          refine hK72 _ _ ?_
          refine wp_cond_false (ev_hit hN58 rfl) ?_
          refine wp_skip ?_
          refine hK71 _ _ ?_
          refine seq_any fun K76 hK76 => ?_
          refine reg_mid (e := 46) (sz := 1) (base := base) (n := n) (v := v) (Φ := phiL [(fun uz _ => uz = v), (fun uz _ => uz = (Value.int .i64 ((i3 : Nat) : Int))), (fun uz _ => uz = v), (fun uz _ => uz = (Value.int .i64 ((j3 : Nat) : Int))), (fun uz _ => uz = v), (fun uz _ => uz = (Value.int .i64 ((j3 : Nat) : Int))), (fun uz _ => ∃ bz oz, uz = ptr bz oz ∧ AtV v j3 bz oz), (fun uz _ => uz = (Value.int .u16 (dk[j3]!.toNat : Int))), (fun uz _ => uz = v), (fun uz _ => uz = (Value.int .i64 ((i3 : Nat) : Int))), (fun uz _ => ∃ bz oz, uz = ptr bz oz ∧ AtV v i3 bz oz), (fun uz _ => uz = (Value.int .u16 (dk[i3]!.toNat : Int))), (fun uz _ => ∃ bz oz, uz = ptr bz oz ∧ AtV v i3 bz oz), (fun _ _ => True), (fun uz _ => ∃ bz oz, uz = ptr bz oz ∧ AtV v j3 bz oz), (fun _ _ => True)]) [13, 15] [(dk.toList.map u16v), ((dk.setIfInBounds i3 dk[j3]!).toList.map u16v), (((dk.setIfInBounds i3 dk[j3]!).setIfInBounds j3 dk[i3]!).toList.map u16v)] mixed (by kernel_rfl) (by kernel_rfl) (by kernel_rfl) (by kernel_rfl) hN58 hO44 (StL.get (StL.eq (StL.eq (StL.eq (StL.eq (StL.eq (StL.eq (StL.at (StL.eq (StL.eq (StL.eq (StL.at (StL.eq (StL.at (StL.cons (fun _ _ _ _ h => h) (StL.at (StL.cons (fun _ _ _ _ h => h) (StL.nil _)))))))))))))))))) (ObRs.get (ObRs.cons ?_ (ObRs.cons ?_ (ObRs.cons ?_ (ObRs.cons ?_ (ObRs.cons ?_ (ObRs.cons ?_ (ObRs.cons ?_ (ObRs.cons ?_ (ObRs.cons ?_ (ObRs.cons ?_ (ObRs.cons ?_ (ObRs.cons ?_ (ObRs.cons ?_ (ObRs.pass rfl (ObRs.cons ?_ (ObRs.pass rfl (ObRs.nil)))))))))))))))))) (ObWs.get (ObWs.cons ?_ (ObWs.cons ?_ (ObWs.nil)))) ?_
          ·
           intro aA wA cA hNA hRA hckA hOA hbsA hdpA
           have qA_0 := (hbsA 0 rfl).trans (sl_base hN58 rfl s58_0)
           clear hbsA hdpA
           refine op_move (ev_base hNA rfl qA_0) ?_
           exact obR_end rfl rfl (grown_refl _ _)
          ·
           intro aA wA cA hNA hRA hckA hOA hbsA hdpA
           have qA_10 := (hbsA 10 rfl).trans (sl_base hN58 rfl s58_10)
           clear hbsA hdpA
           refine op_move (ev_base hNA rfl qA_10) ?_
           exact obR_end rfl rfl (grown_refl _ _)
          ·
           intro aA wA cA hNA hRA hckA hOA hbsA hdpA
           have qA_0 := (hbsA 0 rfl).trans (sl_base hN58 rfl s58_0)
           clear hbsA hdpA
           refine op_move (ev_base hNA rfl qA_0) ?_
           exact obR_end rfl rfl (grown_refl _ _)
          ·
           intro aA wA cA hNA hRA hckA hOA hbsA hdpA
           have qA_11 := (hbsA 11 rfl).trans (sl_base hN58 rfl s58_11)
           clear hbsA hdpA
           refine op_move (ev_base hNA rfl qA_11) ?_
           exact obR_end rfl rfl (grown_refl _ _)
          ·
           intro aA wA cA hNA hRA hckA hOA hbsA hdpA
           have qA_0 := (hbsA 0 rfl).trans (sl_base hN58 rfl s58_0)
           clear hbsA hdpA
           refine op_move (ev_base hNA rfl qA_0) ?_
           exact obR_end rfl rfl (grown_refl _ _)
          ·
           intro aA wA cA hNA hRA hckA hOA hbsA hdpA
           have qA_11 := (hbsA 11 rfl).trans (sl_base hN58 rfl s58_11)
           clear hbsA hdpA
           refine op_move (ev_base hNA rfl qA_11) ?_
           exact obR_end rfl rfl (grown_refl _ _)
          ·
           intro aA wA cA hNA hRA hckA hOA hbsA hdpA
           have qA_139 : Sl aA 139 v := hdpA 4 _ 139 (by kernel_rfl) rfl rfl
           have qA_140 : Sl aA 140 (Value.int .i64 ((j3 : Nat) : Int)) := hdpA 5 _ 140 (by kernel_rfl) rfl rfl
           clear hbsA hdpA
           refine op_index_own (i := j3) slt45 (ev_base hNA rfl qA_139) hOA (ev_base hNA rfl qA_140) (by omega) (by omega) ?_
           intro b_ o_ _ hA_
           exact obR_end rfl ⟨b_, o_, rfl, by simpa using hA_⟩ (grown_refl _ _)
          ·
           intro aA wA cA hNA hRA hckA hOA hbsA hdpA
           obtain ⟨bA_141, oA_141, qA_141, hAA_141⟩ := hdpA 6 _ 141 (by kernel_rfl) rfl rfl
           clear hbsA hdpA
           obtain rfl : cA = 0 := Nat.le_zero.1 (hckA 0 13 rfl (by kernel_rfl))
           have hOA : Own wA base 46 1 v n (dk.toList.map u16v) := hOA
           refine op_load1 (v := (Value.int .u16 (dk[j3]!.toNat : Int))) one46 (ev_base hNA rfl qA_141) (by have := hOA.cellAt hAA_141 0 _ (el_at (i := j3) (by first | omega | (simp only [Array.size_setIfInBounds, swp_sz, siftDown_size]; omega))); simpa using this) ?_
           exact obR_end rfl rfl (grown_refl _ _)
          ·
           intro aA wA cA hNA hRA hckA hOA hbsA hdpA
           have qA_0 := (hbsA 0 rfl).trans (sl_base hN58 rfl s58_0)
           clear hbsA hdpA
           refine op_move (ev_base hNA rfl qA_0) ?_
           exact obR_end rfl rfl (grown_refl _ _)
          ·
           intro aA wA cA hNA hRA hckA hOA hbsA hdpA
           have qA_10 := (hbsA 10 rfl).trans (sl_base hN58 rfl s58_10)
           clear hbsA hdpA
           refine op_move (ev_base hNA rfl qA_10) ?_
           exact obR_end rfl rfl (grown_refl _ _)
          ·
           intro aA wA cA hNA hRA hckA hOA hbsA hdpA
           have qA_143 : Sl aA 143 v := hdpA 8 _ 143 (by kernel_rfl) rfl rfl
           have qA_144 : Sl aA 144 (Value.int .i64 ((i3 : Nat) : Int)) := hdpA 9 _ 144 (by kernel_rfl) rfl rfl
           clear hbsA hdpA
           refine op_index_own (i := i3) slt45 (ev_base hNA rfl qA_143) hOA (ev_base hNA rfl qA_144) (by omega) (by omega) ?_
           intro b_ o_ _ hA_
           exact obR_end rfl ⟨b_, o_, rfl, by simpa using hA_⟩ (grown_refl _ _)
          ·
           intro aA wA cA hNA hRA hckA hOA hbsA hdpA
           obtain ⟨bA_145, oA_145, qA_145, hAA_145⟩ := hdpA 10 _ 145 (by kernel_rfl) rfl rfl
           clear hbsA hdpA
           obtain rfl : cA = 0 := Nat.le_zero.1 (hckA 0 13 rfl (by kernel_rfl))
           have hOA : Own wA base 46 1 v n (dk.toList.map u16v) := hOA
           refine op_load1 (v := (Value.int .u16 (dk[i3]!.toNat : Int))) one46 (ev_base hNA rfl qA_145) (by have := hOA.cellAt hAA_145 0 _ (el_at (i := i3) (by first | omega | (simp only [Array.size_setIfInBounds, swp_sz, siftDown_size]; omega))); simpa using this) ?_
           exact obR_end rfl rfl (grown_refl _ _)
          ·
           intro aA wA cA hNA hRA hckA hOA hbsA hdpA
           have qA_135 : Sl aA 135 v := hdpA 0 _ 135 (by kernel_rfl) rfl rfl
           have qA_136 : Sl aA 136 (Value.int .i64 ((i3 : Nat) : Int)) := hdpA 1 _ 136 (by kernel_rfl) rfl rfl
           clear hbsA hdpA
           refine op_index_own (i := i3) slt45 (ev_base hNA rfl qA_135) hOA (ev_base hNA rfl qA_136) (by omega) (by omega) ?_
           intro b_ o_ _ hA_
           exact obR_end rfl ⟨b_, o_, rfl, by simpa using hA_⟩ (grown_refl _ _)
          ·
           intro aA wA cA hNA hRA hckA hOA hbsA hdpA
           have qA_137 : Sl aA 137 v := hdpA 2 _ 137 (by kernel_rfl) rfl rfl
           have qA_138 : Sl aA 138 (Value.int .i64 ((j3 : Nat) : Int)) := hdpA 3 _ 138 (by kernel_rfl) rfl rfl
           clear hbsA hdpA
           refine op_index_own (i := j3) slt45 (ev_base hNA rfl qA_137) hOA (ev_base hNA rfl qA_138) (by omega) (by omega) ?_
           intro b_ o_ _ hA_
           exact obR_end rfl ⟨b_, o_, rfl, by simpa using hA_⟩ (grown_refl _ _)
          ·
           intro o_ ho_; obtain rfl := Option.some.inj ho_; intro aA wA hNA hRA hbsA hdpA hOA
           obtain ⟨bA_147, oA_147, qA_147, hAA_147⟩ := hdpA 12 _ 147 (by kernel_rfl) rfl rfl
           have qA_142 : Sl aA 142 (Value.int .u16 (dk[j3]!.toNat : Int)) := hdpA 7 _ 142 (by kernel_rfl) rfl rfl
           clear hbsA hdpA
           have hOA : Own wA base 46 1 v n (dk.toList.map u16v) := hOA
           refine op_store_own (vs := [(Value.int .u16 (dk[j3]!.toNat : Int))]) size46 (ev_base hNA rfl qA_147) (ev_base hNA rfl qA_142) rfl rfl rfl hOA hAA_147 (by have := hOA.1; simp at this ⊢; omega) ?_
           intro w_ hO_ E_
           exact obW_end rfl (hO_.cast rfl (set_arr (by first | omega | (simp only [Array.size_setIfInBounds, swp_sz, siftDown_size]; omega)))) E_
          ·
           intro o_ ho_; obtain rfl := Option.some.inj ho_; intro aA wA hNA hRA hbsA hdpA hOA
           obtain ⟨bA_148, oA_148, qA_148, hAA_148⟩ := hdpA 14 _ 148 (by kernel_rfl) rfl rfl
           have qA_146 : Sl aA 146 (Value.int .u16 (dk[i3]!.toNat : Int)) := hdpA 11 _ 146 (by kernel_rfl) rfl rfl
           clear hbsA hdpA
           have hOA : Own wA base 46 1 v n ((dk.setIfInBounds i3 dk[j3]!).toList.map u16v) := hOA
           refine op_store_own (vs := [(Value.int .u16 (dk[i3]!.toNat : Int))]) size46 (ev_base hNA rfl qA_148) (ev_base hNA rfl qA_146) rfl rfl rfl hOA hAA_148 (by have := hOA.1; simp at this ⊢; omega) ?_
           intro w_ hO_ E_
           exact obW_end rfl (hO_.cast rfl (set_arr (by first | omega | (simp only [Array.size_setIfInBounds, swp_sz, siftDown_size]; omega)))) E_
          ·
           intro a77 w77 hN77 hd77 hbs77 hph77 hO77 E77
           have hd77 := hd77.trans hd58
           have s77_0 := (hbs77 0 rfl).trans (sl_base hN58 rfl s58_0)
           have s77_1 := (hbs77 1 rfl).trans (sl_base hN58 rfl s58_1)
           have s77_8 := (hbs77 8 rfl).trans (sl_base hN58 rfl s58_8)
           have s77_9 := (hbs77 9 rfl).trans (sl_base hN58 rfl s58_9)
           have s77_10 := (hbs77 10 rfl).trans (sl_base hN58 rfl s58_10)
           have s77_11 := (hbs77 11 rfl).trans (sl_base hN58 rfl s58_11)
           clear hbs77 hph77
           have hO77 : Own w77 base 46 1 v n (((dk.setIfInBounds i3 dk[j3]!).setIfInBounds j3 dk[i3]!).toList.map u16v) := hO77
           have z_w77 := E77.size
           have hb := grow_stepX hb E77 rfl
           refine hK76 _ _ ?_
           refine seq_any fun K78 hK78 => ?_
           refine one_reg ?_
           refine op_move (ev_base hN77 rfl s77_10) ?_
           refine op_add (ev_hit hN77 rfl) rfl (add64 (by omega)) ?_
           refine op_assign (ev_hit hN77 rfl) ?_
           refine reg_nil ?_
           refine hK78 _ _ ?_
           refine one_reg ?_
           refine op_move (ev_base hN77 rfl s77_11) ?_
           refine op_sub (ev_hit hN77 rfl) rfl (sub64 (by omega)) ?_
           refine op_assign (ev_hit hN77 rfl) ?_
           refine reg_nil ?_
           refine blk_normal ?_
           -- round 65F 134F
           exact loop_next _ hN77 hd77 ⟨(i3 + 1), (j3 - 1), _, rfl, (sl_base hN77 rfl s77_0), (sl_base hN77 rfl s77_1), (sl_base hN77 rfl s77_8), (sl_base hN77 rfl s77_9), (sl_hit hN77 rfl).trans (congrArg (Value.int .i64) (by omega)), (sl_hit hN77 rfl).trans (congrArg (Value.int .i64) (by omega)), (by first | assumption | (simp only [Array.size_setIfInBounds, swp_sz, siftDown_size]; assumption)), (by omega), (hs.trans (pl_go hu4 hv4 (by omega))), hb, (by omega), hO77⟩ (by omega)

end Go.Proofs.Ytmhdbphpmgjpcaa

/- Walks, written by a program: what each function of the translation hands back. -/
namespace Go.Proofs.Ytmhdbphpmgjpcaa
open Go.Gx Go.RowKit
attribute [local irreducible] wpList wpStill Code.wp Calls
open Go.Sort (insertionSort insOuter insInner swp siftDown heapSort heapBuild heapPop scanUp scanDown partition partLoop partitionEqual partEqLoop scanSorted partialIns bitsLen partialInsertionSort shiftDown shiftUp SortedIn reverseRange reverseLoop fixDown fixUp)
set_option maxHeartbeats 2000000 in
theorem partialW_ret (d : Ar) (v : Value) (n base : Nat) (a b : Nat) (w : World) (hd : d.size = n) (hn : n ≤ 4000000000000000000) (O : Own w base 46 1 v n (d.toList.map u16v)) (hab : a < b) (hbn : b ≤ n) : Ret Try.prog 158 #[v, (Value.int .i64 ((a : Nat) : Int)), (Value.int .i64 ((b : Nat) : Int))] w (fun v' w' => w.grownBy w' v.ownBlock ∧ v' = .bool (partialInsertionSort ltT d a b).2 ∧ Own w' base 46 1 v n ((partialInsertionSort ltT d a b).1.toList.map u16v)) := by
 have hb := grown_refl w v.ownBlock
 refine enter (N := 133) Try.func158 rfl rfl (by simp) fun a0 hN hd hA => ?_
 have s0 : a0.tmps.getD 0 undef = v := hA 0 (by simp)
 have s1 : a0.tmps.getD 1 undef = (Value.int .i64 ((a : Nat) : Int)) := hA 1 (by simp)
 have s2 : a0.tmps.getD 2 undef = (Value.int .i64 ((b : Nat) : Int)) := hA 2 (by simp)
 clear hA
 refine seq_any fun K1 hK1 => ?_
 refine one_reg ?_
 refine op_assign rfl ?_
 refine reg_nil ?_
 refine hK1 _ _ ?_
 refine seq_any fun K2 hK2 => ?_
 refine one_reg ?_
 refine op_move (ev_base hN rfl s1) ?_
 refine op_add (ev_hit hN rfl) rfl (add64 (by omega)) ?_
 refine op_assign (ev_hit hN rfl) ?_
 refine reg_nil ?_
 refine hK2 _ _ ?_
 refine seq_any fun K3 hK3 => ?_
 refine seq_any fun K4 hK4 => ?_
 refine one_reg ?_
 refine op_assign rfl ?_
 refine reg_nil ?_
 refine hK4 _ _ ?_
 refine wp_block ?_
 refine loop_m (fun mz_ az_ w' => ∃ (s ii : Nat) (dk : Ar), mz_ = (5 - s) ∧ (az_.tmps.getD 0 undef = v) ∧ (az_.tmps.getD 1 undef = (Value.int .i64 ((a : Nat) : Int))) ∧ (az_.tmps.getD 2 undef = (Value.int .i64 ((b : Nat) : Int))) ∧ (az_.tmps.getD 8 undef = (Value.int .i64 ((s : Nat) : Int))) ∧ (az_.tmps.getD 7 undef = (Value.int .i64 ((ii : Nat) : Int))) ∧ (dk.size = n) ∧ (s ≤ 5 ∧ a + 1 ≤ ii ∧ ii ≤ b) ∧ (partialIns ltT a b 5 (a + 1) d = partialIns ltT a b (5 - s) ii dk) ∧ (w.grownBy w' v.ownBlock) ∧ (w.heap.size ≤ w'.heap.size) ∧ (Own w' base 46 1 v n (dk.toList.map u16v))) _ hN hd ⟨0, (a + 1), _, rfl, (sl_base hN rfl s0), (sl_base hN rfl s1), (sl_base hN rfl s2), (sl_hit hN rfl).trans (congrArg (Value.int .i64) (by omega)), (sl_hit hN rfl).trans (congrArg (Value.int .i64) (by omega)), (by first | assumption | (simp only [Array.size_setIfInBounds, swp_sz, siftDown_size]; assumption)), (by omega), rfl, hb, (Nat.le_refl _), O⟩ ?_
 rintro _ a5 w5 hN5 hd5 ⟨s, ii, dk, rfl, s5_0, s5_1, s5_2, s5_8, s5_7, hdk, hr1, hs, hb, zl_w5, hO6⟩
 have z_w5 := hb.size
 refine seq_any fun K7 hK7 => ?_
 refine seq_any fun K8 hK8 => ?_
 refine one_reg ?_
 refine op_move (ev_base hN5 rfl s5_8) ?_
 refine op_lss (ev_hit hN5 rfl) rfl (fun c14 => ?_) (fun c14 => ?_)
 · -- 14T
  refine reg_nil ?_
  refine hK8 _ _ ?_
  refine wp_cond_true (ev_hit hN5 rfl) ?_
  refine wp_skip ?_
  refine hK7 _ _ ?_
  refine seq_any fun K9 hK9 => ?_
  refine wp_block ?_
  refine seq_join1 (N := 133) (fun az_ w' => ∃ (i2 : Nat), (az_.tmps.getD 0 undef = v) ∧ (az_.tmps.getD 1 undef = (Value.int .i64 ((a : Nat) : Int))) ∧ (az_.tmps.getD 2 undef = (Value.int .i64 ((b : Nat) : Int))) ∧ (az_.tmps.getD 8 undef = (Value.int .i64 ((s : Nat) : Int))) ∧ (az_.tmps.getD 7 undef = (Value.int .i64 ((i2 : Nat) : Int))) ∧ (ii ≤ i2 ∧ i2 ≤ b) ∧ (scanSorted ltT dk b ii = i2) ∧ (w.grownBy w' v.ownBlock) ∧ (w5.heap.size ≤ w'.heap.size) ∧ (Own w' base 46 1 v n (dk.toList.map u16v))) (fun hJ10 => ?_) ?_
  ·
   refine seq_any fun K11 hK11 => ?_
   refine wp_block ?_
   refine loop_m (fun mz_ az_ w' => ∃ (i2 : Nat), mz_ = (b + 1 - i2) ∧ (az_.tmps.getD 0 undef = v) ∧ (az_.tmps.getD 1 undef = (Value.int .i64 ((a : Nat) : Int))) ∧ (az_.tmps.getD 2 undef = (Value.int .i64 ((b : Nat) : Int))) ∧ (az_.tmps.getD 8 undef = (Value.int .i64 ((s : Nat) : Int))) ∧ (az_.tmps.getD 7 undef = (Value.int .i64 ((i2 : Nat) : Int))) ∧ (ii ≤ i2 ∧ i2 ≤ b) ∧ (scanSorted ltT dk b ii = scanSorted ltT dk b i2) ∧ (w.grownBy w' v.ownBlock) ∧ (w5.heap.size ≤ w'.heap.size) ∧ (Own w' base 46 1 v n (dk.toList.map u16v))) _ hN5 hd5 ⟨ii, rfl, (sl_base hN5 rfl s5_0), (sl_base hN5 rfl s5_1), (sl_base hN5 rfl s5_2), (sl_base hN5 rfl s5_8), (sl_base hN5 rfl s5_7).trans (congrArg (Value.int .i64) (by omega)), (by omega), rfl, hb, (Nat.le_refl _), hO6⟩ ?_
   rintro _ a12 w12 hN12 hd12 ⟨i2, rfl, s12_0, s12_1, s12_2, s12_8, s12_7, hr2, hq1, hb, zl_w12, hO6⟩
   have z_w12 := hb.size
   refine seq_any fun K13 hK13 => ?_
   refine seq_any fun K14 hK14 => ?_
   refine reg_still mixed (by kernel_rfl) ?_
   intro w16 E15
   have z_w16 := E15.size
   have hO6 := hO6.keep0 E15
   have hb := grow_step0 hb E15
   refine st_step rfl (fun _ h9 => op_move (ev_base hN12 rfl s12_7) h9) ?_
   refine st_step rfl (fun _ h9 => op_move (ev_base hN12 rfl s12_2) h9) ?_
   by_cases g19 : ((i2 : Nat) : Int) < ((b : Nat) : Int)
   · -- 19T
    refine st_step rfl (fun _ h9 => op_cmp (b := true) (ev_hit hN12 rfl) (ev_hit hN12 rfl) (b_lss (decide_eq_true g19)) h9) ?_
    refine st_step rfl (fun _ h9 => op_move (ev_hit hN12 rfl) h9) ?_
    refine st_g_true (j := 3) (dj := 20) (b := true) rfl rfl rfl (ev_hit hN12 rfl) ?_
    refine st_step rfl (fun _ h9 => op_move (ev_base hN12 rfl s12_0) h9) ?_
    refine st_g_true (j := 3) (dj := 20) (b := true) rfl rfl rfl (ev_hit hN12 rfl) ?_
    refine st_step rfl (fun _ h9 => op_move (ev_base hN12 rfl s12_7) h9) ?_
    refine st_g_true (j := 3) (dj := 20) (b := true) rfl rfl rfl (ev_hit hN12 rfl) ?_
    refine st_index_rd slt45 (ev_hit hN12 rfl) hO6.rdw (ev_hit hN12 rfl) (by omega) (by omega) ?_
    intro b17 o18 h0b17 h1b17 hc19
    refine st_g_true (j := 3) (dj := 20) (b := true) rfl rfl rfl (ev_hit hN12 rfl) ?_
    refine st_step rfl (fun _ h9 => op_load1 (v := (Value.int .u16 (dk[i2]!.toNat : Int))) one46 (ev_hit hN12 rfl) (by have := hc19 0 (Value.int .u16 (dk[i2]!.toNat : Int)) (by decide) (el_arr (i := i2) (by omega) (by first | omega | (simp only [Array.size_setIfInBounds, swp_sz, siftDown_size]; omega))); simpa using this) h9) ?_
    refine st_g_true (j := 3) (dj := 20) (b := true) rfl rfl rfl (ev_hit hN12 rfl) ?_
    refine st_step rfl (fun _ h9 => op_move (ev_base hN12 rfl s12_0) h9) ?_
    refine st_g_true (j := 3) (dj := 20) (b := true) rfl rfl rfl (ev_hit hN12 rfl) ?_
    refine st_step rfl (fun _ h9 => op_move (ev_base hN12 rfl s12_7) h9) ?_
    refine st_g_true (j := 3) (dj := 20) (b := true) rfl rfl rfl (ev_hit hN12 rfl) ?_
    refine st_step rfl (fun _ h9 => op_sub (ev_hit hN12 rfl) rfl (sub64 (by omega)) h9) ?_
    refine st_g_true (j := 3) (dj := 20) (b := true) rfl rfl rfl (ev_hit hN12 rfl) ?_
    refine st_index_rd slt45 (ev_hit hN12 rfl) hO6.rdw (ev_hit hN12 rfl) (by omega) (by omega) ?_
    intro b20 o21 h0b20 h1b20 hc22
    refine st_g_true (j := 3) (dj := 20) (b := true) rfl rfl rfl (ev_hit hN12 rfl) ?_
    refine st_step rfl (fun _ h9 => op_load1 (v := (Value.int .u16 (dk[(i2 - 1)]!.toNat : Int))) one46 (ev_hit hN12 rfl) (by have := hc22 0 (Value.int .u16 (dk[(i2 - 1)]!.toNat : Int)) (by decide) (el_arr (i := (i2 - 1)) (by omega) (by first | omega | (simp only [Array.size_setIfInBounds, swp_sz, siftDown_size]; omega))); simpa using this) h9) ?_
    refine st_g_true (j := 3) (dj := 20) (b := true) rfl rfl rfl (ev_hit hN12 rfl) ?_
    refine st_fn (vs := [(Value.int .u16 (dk[i2]!.toNat : Int)), (Value.int .u16 (dk[(i2 - 1)]!.toNat : Int))]) ok159 (⟨(ev_hit hN12 rfl), ⟨(ev_hit hN12 rfl), trivial⟩⟩) (Less16_ret dk[i2]! dk[(i2 - 1)]! _) ?_
    refine st_g_true (j := 3) (dj := 20) (b := true) rfl rfl rfl (ev_hit hN12 rfl) ?_
    refine st_step rfl (fun _ h9 => op_not (ev_hit hN12 rfl) h9) ?_
    refine st_step rfl (fun _ h9 => op_pick_t (ev_hit hN12 rfl) (ev_hit hN12 rfl) h9) ?_
    refine st_nil ?_
    refine hK14 _ _ ?_
    refine wp_cond_split (ev_hit hN12 rfl) (fun c32 => ?_) (fun c32 => ?_)
    · -- 32T
     refine wp_skip ?_
     refine hK13 _ _ ?_
     refine wp_block ?_
     refine one_reg ?_
     refine op_move (ev_base hN12 rfl s12_7) ?_
     refine op_add (ev_hit hN12 rfl) rfl (add64 (by omega)) ?_
     refine op_assign (ev_hit hN12 rfl) ?_
     refine reg_nil ?_
     refine blk_normal ?_
     -- round 14T 19T 32T
     exact loop_next _ hN12 hd12 ⟨(i2 + 1), rfl, (sl_base hN12 rfl s12_0), (sl_base hN12 rfl s12_1), (sl_base hN12 rfl s12_2), (sl_base hN12 rfl s12_8), (sl_hit hN12 rfl).trans (congrArg (Value.int .i64) (by omega)), (by omega), (hq1.trans (scanSorted_go (by omega) (not_t c32))), hb, (by omega), hO6⟩ (by omega)
    · -- 32F
     refine wp_exit (then_exit (then_exit (blk_hit ?_)))
     refine hK11 _ _ ?_
     exact hJ10 _ _ _ hN12 hd12 ⟨i2, (sl_base hN12 rfl s12_0), (sl_base hN12 rfl s12_1), (sl_base hN12 rfl s12_2), (sl_base hN12 rfl s12_8), (sl_base hN12 rfl s12_7), (by omega), (hq1.trans (scanSorted_stop (.inr (not_f c32)))), hb, (by omega), hO6⟩
   · -- 19F
    refine st_step rfl (fun _ h9 => op_cmp (b := false) (ev_hit hN12 rfl) (ev_hit hN12 rfl) (b_lss (decide_eq_false g19)) h9) ?_
    refine st_step rfl (fun _ h9 => op_move (ev_hit hN12 rfl) h9) ?_
    refine st_g_false (j := 3) (dj := 20) (b := true) rfl rfl rfl (ev_hit hN12 rfl) rfl rfl ?_
    refine st_g_false (j := 3) (dj := 20) (b := true) rfl rfl rfl (ev_hit hN12 rfl) rfl rfl ?_
    refine st_g_false (j := 3) (dj := 20) (b := true) rfl rfl rfl (ev_hit hN12 rfl) rfl rfl ?_
    refine st_g_false (j := 3) (dj := 20) (b := true) rfl rfl rfl (ev_hit hN12 rfl) rfl rfl ?_
    refine st_g_false (j := 3) (dj := 20) (b := true) rfl rfl rfl (ev_hit hN12 rfl) rfl rfl ?_
    refine st_g_false (j := 3) (dj := 20) (b := true) rfl rfl rfl (ev_hit hN12 rfl) rfl rfl ?_
    refine st_g_false (j := 3) (dj := 20) (b := true) rfl rfl rfl (ev_hit hN12 rfl) rfl rfl ?_
    refine st_g_false (j := 3) (dj := 20) (b := true) rfl rfl rfl (ev_hit hN12 rfl) rfl rfl ?_
    refine st_g_false (j := 3) (dj := 20) (b := true) rfl rfl rfl (ev_hit hN12 rfl) rfl rfl ?_
    refine st_g_false (j := 3) (dj := 20) (b := true) rfl rfl rfl (ev_hit hN12 rfl) rfl rfl ?_
    refine st_g_false (j := 3) (dj := 20) (b := true) rfl rfl rfl (ev_hit hN12 rfl) rfl rfl ?_
    refine st_step rfl (fun _ h9 => op_pick_f (ev_hit hN12 rfl) rfl h9) ?_
    refine st_nil ?_
    refine hK14 _ _ ?_
    refine wp_cond_false (ev_hit hN12 rfl) ?_
    refine wp_exit (then_exit (then_exit (blk_hit ?_)))
    refine hK11 _ _ ?_
    exact hJ10 _ _ _ hN12 hd12 ⟨i2, (sl_base hN12 rfl s12_0), (sl_base hN12 rfl s12_1), (sl_base hN12 rfl s12_2), (sl_base hN12 rfl s12_8), (sl_base hN12 rfl s12_7), (by omega), (hq1.trans (scanSorted_stop (.inl (by omega)))), hb, (by omega), hO6⟩
  ·
   rintro a10 w10 hN10 hd10 ⟨i2, s10_0, s10_1, s10_2, s10_8, s10_7, hr2, hq2, hb, zl_w10, hO6⟩
   have z_w10 := hb.size
   refine seq_any fun K23 hK23 => ?_
   refine seq_any fun K24 hK24 => ?_
   refine one_reg ?_
   refine op_move (ev_base hN10 rfl s10_7) ?_
   refine op_move (ev_base hN10 rfl s10_2) ?_
   refine op_eql (ev_hit hN10 rfl) (ev_hit hN10 rfl) (fun c37 => ?_) (fun c37 => ?_)
   · -- 37T
    refine reg_nil ?_
    refine hK24 _ _ ?_
    refine wp_cond_true (ev_hit hN10 rfl) ?_
    refine seq_any fun K25 hK25 => ?_
    refine one_reg ?_
    refine op_assign rfl ?_
    refine reg_nil ?_
    refine hK25 _ _ ?_
    refine wp_ret (then_ret (blk_ret (then_ret (then_ret (blk_ret (then_ret ( ?_)))))))
    refine ret1 rfl hd10 (ev_hit hN10 rfl) ⟨_, rfl, ?_⟩
    -- path 14T 37T
    have hq : partialInsertionSort ltT d a b = (dk, true) := hs.trans (pi_true (by omega) hq2 (by omega))
    exact ⟨hb, by rw [hq]; rfl, hO6.cast rfl (by rw [hq])⟩
   · -- 37F
    refine reg_nil ?_
    refine hK24 _ _ ?_
    refine wp_cond_false (ev_hit hN10 rfl) ?_
    refine wp_skip ?_
    refine hK23 _ _ ?_
    refine seq_any fun K26 hK26 => ?_
    refine seq_any fun K27 hK27 => ?_
    refine one_reg ?_
    refine op_move (ev_base hN10 rfl s10_2) ?_
    refine op_move (ev_base hN10 rfl s10_1) ?_
    refine op_sub (ev_hit hN10 rfl) (ev_hit hN10 rfl) (sub64 (by omega)) ?_
    refine op_lss (ev_hit hN10 rfl) rfl (fun c41 => ?_) (fun c41 => ?_)
    · -- 41T
     refine reg_nil ?_
     refine hK27 _ _ ?_
     refine wp_cond_true (ev_hit hN10 rfl) ?_
     refine seq_any fun K28 hK28 => ?_
     refine one_reg ?_
     refine op_assign rfl ?_
     refine reg_nil ?_
     refine hK28 _ _ ?_
     refine wp_ret (then_ret (blk_ret (then_ret (then_ret (blk_ret (then_ret ( ?_)))))))
     refine ret1 rfl hd10 (ev_hit hN10 rfl) ⟨_, rfl, ?_⟩
     -- path 14T 37F 41T
     have hq : partialInsertionSort ltT d a b = (dk, false) := hs.trans (pi_short (by omega) hq2 (by omega) (by omega))
     exact ⟨hb, by rw [hq]; rfl, hO6.cast rfl (by rw [hq])⟩
    · -- 41F
     refine reg_nil ?_
     refine hK27 _ _ ?_
     refine wp_cond_false (ev_hit hN10 rfl) ?_
     refine wp_skip ?_
     refine hK26 _ _ ?_
     refine seq_any fun K29 hK29 => ?_
     refine reg_mid (e := 46) (sz := 1) (base := base) (n := n) (v := v) (Φ := phiL [(fun uz _ => uz = v), (fun uz _ => uz = (Value.int .i64 ((i2 : Nat) : Int))), (fun uz _ => uz = v), (fun uz _ => uz = (Value.int .i64 ((i2 : Nat) : Int))), (fun uz _ => uz = (Value.int .i64 (((i2 : Nat) : Int) - 1))), (fun uz _ => uz = v), (fun uz _ => uz = (Value.int .i64 ((i2 : Nat) : Int))), (fun uz _ => uz = (Value.int .i64 (((i2 : Nat) : Int) - 1))), (fun uz _ => ∃ bz oz, uz = ptr bz oz ∧ AtV v (i2 - 1) bz oz), (fun uz _ => uz = (Value.int .u16 (dk[(i2 - 1)]!.toNat : Int))), (fun uz _ => uz = v), (fun uz _ => uz = (Value.int .i64 ((i2 : Nat) : Int))), (fun uz _ => ∃ bz oz, uz = ptr bz oz ∧ AtV v i2 bz oz), (fun uz _ => uz = (Value.int .u16 (dk[i2]!.toNat : Int))), (fun uz _ => ∃ bz oz, uz = ptr bz oz ∧ AtV v i2 bz oz), (fun _ _ => True), (fun uz _ => ∃ bz oz, uz = ptr bz oz ∧ AtV v (i2 - 1) bz oz), (fun _ _ => True)]) [15, 17] [(dk.toList.map u16v), ((dk.setIfInBounds i2 dk[(i2 - 1)]!).toList.map u16v), (((dk.setIfInBounds i2 dk[(i2 - 1)]!).setIfInBounds (i2 - 1) dk[i2]!).toList.map u16v)] mixed (by kernel_rfl) (by kernel_rfl) (by kernel_rfl) (by kernel_rfl) hN10 hO6 (StL.get (StL.eq (StL.eq (StL.eq (StL.eq (StL.eq (StL.eq (StL.eq (StL.eq (StL.at (StL.eq (StL.eq (StL.eq (StL.at (StL.eq (StL.at (StL.cons (fun _ _ _ _ h => h) (StL.at (StL.cons (fun _ _ _ _ h => h) (StL.nil _)))))))))))))))))))) (ObRs.get (ObRs.cons ?_ (ObRs.cons ?_ (ObRs.cons ?_ (ObRs.cons ?_ (ObRs.cons ?_ (ObRs.cons ?_ (ObRs.cons ?_ (ObRs.cons ?_ (ObRs.cons ?_ (ObRs.cons ?_ (ObRs.cons ?_ (ObRs.cons ?_ (ObRs.cons ?_ (ObRs.cons ?_ (ObRs.cons ?_ (ObRs.pass rfl (ObRs.cons ?_ (ObRs.pass rfl (ObRs.nil)))))))))))))))))))) (ObWs.get (ObWs.cons ?_ (ObWs.cons ?_ (ObWs.nil)))) ?_
     ·
      intro aA wA cA hNA hRA hckA hOA hbsA hdpA
      have qA_0 := (hbsA 0 rfl).trans (sl_base hN10 rfl s10_0)
      clear hbsA hdpA
      refine op_move (ev_base hNA rfl qA_0) ?_
      exact obR_end rfl rfl (grown_refl _ _)
     ·
      intro aA wA cA hNA hRA hckA hOA hbsA hdpA
      have qA_7 := (hbsA 7 rfl).trans (sl_base hN10 rfl s10_7)
      clear hbsA hdpA
      refine op_move (ev_base hNA rfl qA_7) ?_
      exact obR_end rfl rfl (grown_refl _ _)
     ·
      intro aA wA cA hNA hRA hckA hOA hbsA hdpA
      have qA_0 := (hbsA 0 rfl).trans (sl_base hN10 rfl s10_0)
      clear hbsA hdpA
      refine op_move (ev_base hNA rfl qA_0) ?_
      exact obR_end rfl rfl (grown_refl _ _)
     ·
      intro aA wA cA hNA hRA hckA hOA hbsA hdpA
      have qA_7 := (hbsA 7 rfl).trans (sl_base hN10 rfl s10_7)
      clear hbsA hdpA
      refine op_move (ev_base hNA rfl qA_7) ?_
      exact obR_end rfl rfl (grown_refl _ _)
     ·
      intro aA wA cA hNA hRA hckA hOA hbsA hdpA
      have qA_45 : Sl aA 45 (Value.int .i64 ((i2 : Nat) : Int)) := hdpA 3 _ 45 (by kernel_rfl) rfl rfl
      clear hbsA hdpA
      refine op_sub (ev_base hNA rfl qA_45) rfl (sub64 (by omega)) ?_
      exact obR_end rfl rfl (grown_refl _ _)
     ·
      intro aA wA cA hNA hRA hckA hOA hbsA hdpA
      have qA_0 := (hbsA 0 rfl).trans (sl_base hN10 rfl s10_0)
      clear hbsA hdpA
      refine op_move (ev_base hNA rfl qA_0) ?_
      exact obR_end rfl rfl (grown_refl _ _)
     ·
      intro aA wA cA hNA hRA hckA hOA hbsA hdpA
      have qA_7 := (hbsA 7 rfl).trans (sl_base hN10 rfl s10_7)
      clear hbsA hdpA
      refine op_move (ev_base hNA rfl qA_7) ?_
      exact obR_end rfl rfl (grown_refl _ _)
     ·
      intro aA wA cA hNA hRA hckA hOA hbsA hdpA
      have qA_48 : Sl aA 48 (Value.int .i64 ((i2 : Nat) : Int)) := hdpA 6 _ 48 (by kernel_rfl) rfl rfl
      clear hbsA hdpA
      refine op_sub (ev_base hNA rfl qA_48) rfl (sub64 (by omega)) ?_
      exact obR_end rfl rfl (grown_refl _ _)
     ·
      intro aA wA cA hNA hRA hckA hOA hbsA hdpA
      have qA_47 : Sl aA 47 v := hdpA 5 _ 47 (by kernel_rfl) rfl rfl
      have qA_49 : Sl aA 49 (Value.int .i64 (((i2 : Nat) : Int) - 1)) := hdpA 7 _ 49 (by kernel_rfl) rfl rfl
      clear hbsA hdpA
      refine op_index_own (i := (i2 - 1)) slt45 (ev_base hNA rfl qA_47) hOA (ev_base hNA rfl qA_49) (by omega) (by omega) ?_
      intro b_ o_ _ hA_
      exact obR_end rfl ⟨b_, o_, rfl, by simpa using hA_⟩ (grown_refl _ _)
     ·
      intro aA wA cA hNA hRA hckA hOA hbsA hdpA
      obtain ⟨bA_50, oA_50, qA_50, hAA_50⟩ := hdpA 8 _ 50 (by kernel_rfl) rfl rfl
      clear hbsA hdpA
      obtain rfl : cA = 0 := Nat.le_zero.1 (hckA 0 15 rfl (by kernel_rfl))
      have hOA : Own wA base 46 1 v n (dk.toList.map u16v) := hOA
      refine op_load1 (v := (Value.int .u16 (dk[(i2 - 1)]!.toNat : Int))) one46 (ev_base hNA rfl qA_50) (by have := hOA.cellAt hAA_50 0 _ (el_at (i := (i2 - 1)) (by first | omega | (simp only [Array.size_setIfInBounds, swp_sz, siftDown_size]; omega))); simpa using this) ?_
      exact obR_end rfl rfl (grown_refl _ _)
     ·
      intro aA wA cA hNA hRA hckA hOA hbsA hdpA
      have qA_0 := (hbsA 0 rfl).trans (sl_base hN10 rfl s10_0)
      clear hbsA hdpA
      refine op_move (ev_base hNA rfl qA_0) ?_
      exact obR_end rfl rfl (grown_refl _ _)
     ·
      intro aA wA cA hNA hRA hckA hOA hbsA hdpA
      have qA_7 := (hbsA 7 rfl).trans (sl_base hN10 rfl s10_7)
      clear hbsA hdpA
      refine op_move (ev_base hNA rfl qA_7) ?_
      exact obR_end rfl rfl (grown_refl _ _)
     ·
      intro aA wA cA hNA hRA hckA hOA hbsA hdpA
      have qA_52 : Sl aA 52 v := hdpA 10 _ 52 (by kernel_rfl) rfl rfl
      have qA_53 : Sl aA 53 (Value.int .i64 ((i2 : Nat) : Int)) := hdpA 11 _ 53 (by kernel_rfl) rfl rfl
      clear hbsA hdpA
      refine op_index_own (i := i2) slt45 (ev_base hNA rfl qA_52) hOA (ev_base hNA rfl qA_53) (by omega) (by omega) ?_
      intro b_ o_ _ hA_
      exact obR_end rfl ⟨b_, o_, rfl, by simpa using hA_⟩ (grown_refl _ _)
     ·
      intro aA wA cA hNA hRA hckA hOA hbsA hdpA
      obtain ⟨bA_54, oA_54, qA_54, hAA_54⟩ := hdpA 12 _ 54 (by kernel_rfl) rfl rfl
      clear hbsA hdpA
      obtain rfl : cA = 0 := Nat.le_zero.1 (hckA 0 15 rfl (by kernel_rfl))
      have hOA : Own wA base 46 1 v n (dk.toList.map u16v) := hOA
      refine op_load1 (v := (Value.int .u16 (dk[i2]!.toNat : Int))) one46 (ev_base hNA rfl qA_54) (by have := hOA.cellAt hAA_54 0 _ (el_at (i := i2) (by first | omega | (simp only [Array.size_setIfInBounds, swp_sz, siftDown_size]; omega))); simpa using this) ?_
      exact obR_end rfl rfl (grown_refl _ _)
     ·
      intro aA wA cA hNA hRA hckA hOA hbsA hdpA
      have qA_42 : Sl aA 42 v := hdpA 0 _ 42 (by kernel_rfl) rfl rfl
      have qA_43 : Sl aA 43 (Value.int .i64 ((i2 : Nat) : Int)) := hdpA 1 _ 43 (by kernel_rfl) rfl rfl
      clear hbsA hdpA
      refine op_index_own (i := i2) slt45 (ev_base hNA rfl qA_42) hOA (ev_base hNA rfl qA_43) (by omega) (by omega) ?_
      intro b_ o_ _ hA_
      exact obR_end rfl ⟨b_, o_, rfl, by simpa using hA_⟩ (grown_refl _ _)
     ·
      intro aA wA cA hNA hRA hckA hOA hbsA hdpA
      have qA_44 : Sl aA 44 v := hdpA 2 _ 44 (by kernel_rfl) rfl rfl
      have qA_46 : Sl aA 46 (Value.int .i64 (((i2 : Nat) : Int) - 1)) := hdpA 4 _ 46 (by kernel_rfl) rfl rfl
      clear hbsA hdpA
      refine op_index_own (i := (i2 - 1)) slt45 (ev_base hNA rfl qA_44) hOA (ev_base hNA rfl qA_46) (by omega) (by omega) ?_
      intro b_ o_ _ hA_
      exact obR_end rfl ⟨b_, o_, rfl, by simpa using hA_⟩ (grown_refl _ _)
     ·
      intro o_ ho_; obtain rfl := Option.some.inj ho_; intro aA wA hNA hRA hbsA hdpA hOA
      obtain ⟨bA_56, oA_56, qA_56, hAA_56⟩ := hdpA 14 _ 56 (by kernel_rfl) rfl rfl
      have qA_51 : Sl aA 51 (Value.int .u16 (dk[(i2 - 1)]!.toNat : Int)) := hdpA 9 _ 51 (by kernel_rfl) rfl rfl
      clear hbsA hdpA
      have hOA : Own wA base 46 1 v n (dk.toList.map u16v) := hOA
      refine op_store_own (vs := [(Value.int .u16 (dk[(i2 - 1)]!.toNat : Int))]) size46 (ev_base hNA rfl qA_56) (ev_base hNA rfl qA_51) rfl rfl rfl hOA hAA_56 (by have := hOA.1; simp at this ⊢; omega) ?_
      intro w_ hO_ E_
      exact obW_end rfl (hO_.cast rfl (set_arr (by first | omega | (simp only [Array.size_setIfInBounds, swp_sz, siftDown_size]; omega)))) E_
     ·
      intro o_ ho_; obtain rfl := Option.some.inj ho_; intro aA wA hNA hRA hbsA hdpA hOA
      obtain ⟨bA_57, oA_57, qA_57, hAA_57⟩ := hdpA 16 _ 57 (by kernel_rfl) rfl rfl
      have qA_55 : Sl aA 55 (Value.int .u16 (dk[i2]!.toNat : Int)) := hdpA 13 _ 55 (by kernel_rfl) rfl rfl
      clear hbsA hdpA
      have hOA : Own wA base 46 1 v n ((dk.setIfInBounds i2 dk[(i2 - 1)]!).toList.map u16v) := hOA
      refine op_store_own (vs := [(Value.int .u16 (dk[i2]!.toNat : Int))]) size46 (ev_base hNA rfl qA_57) (ev_base hNA rfl qA_55) rfl rfl rfl hOA hAA_57 (by have := hOA.1; simp at this ⊢; omega) ?_
      intro w_ hO_ E_
      exact obW_end rfl (hO_.cast rfl (set_arr (by first | omega | (simp only [Array.size_setIfInBounds, swp_sz, siftDown_size]; omega)))) E_
     ·
      intro a30 w30 hN30 hd30 hbs30 hph30 hO30 E30
      have hd30 := hd30.trans hd10
      have s30_0 := (hbs30 0 rfl).trans (sl_base hN10 rfl s10_0)
      have s30_1 := (hbs30 1 rfl).trans (sl_base hN10 rfl s10_1)
      have s30_2 := (hbs30 2 rfl).trans (sl_base hN10 rfl s10_2)
      have s30_7 := (hbs30 7 rfl).trans (sl_base hN10 rfl s10_7)
      have s30_8 := (hbs30 8 rfl).trans (sl_base hN10 rfl s10_8)
      clear hbs30 hph30
      have hO30 : Own w30 base 46 1 v n (((dk.setIfInBounds i2 dk[(i2 - 1)]!).setIfInBounds (i2 - 1) dk[i2]!).toList.map u16v) := hO30
      have z_w30 := E30.size
      have hb := grow_stepX hb E30 rfl
      refine hK29 _ _ ?_
      refine seq_join1 (N := 133) (fun az_ w' => ∃ (d3 : Ar), (az_.tmps.getD 0 undef = v) ∧ (az_.tmps.getD 1 undef = (Value.int .i64 ((a : Nat) : Int))) ∧ (az_.tmps.getD 2 undef = (Value.int .i64 ((b : Nat) : Int))) ∧ (az_.tmps.getD 7 undef = (Value.int .i64 ((i2 : Nat) : Int))) ∧ (az_.tmps.getD 8 undef = (Value.int .i64 ((s : Nat) : Int))) ∧ (d3 = fixDown ltT a i2 (swp dk i2 (i2 - 1))) ∧ (d3.size = n) ∧ (w.grownBy w' v.ownBlock) ∧ (w30.heap.size ≤ w'.heap.size) ∧ (Own w' base 46 1 v n (d3.toList.map u16v))) (fun hJ31 => ?_) ?_
      ·
       refine seq_any fun K33 hK33 => ?_
       refine seq_any fun K34 hK34 => ?_
       refine one_reg ?_
       refine op_move (ev_base hN30 rfl s30_7) ?_
       refine op_move (ev_base hN30 rfl s30_1) ?_
       refine op_sub (ev_hit hN30 rfl) (ev_hit hN30 rfl) (sub64 (by omega)) ?_
       refine op_geq (ev_hit hN30 rfl) rfl (fun c61 => ?_) (fun c61 => ?_)
       · -- 61T
        refine reg_nil ?_
        refine hK34 _ _ ?_
        refine wp_cond_true (ev_hit hN30 rfl) ?_
        refine seq_any fun K35 hK35 => ?_
        refine one_reg ?_
        refine op_move (ev_base hN30 rfl s30_7) ?_
        refine op_sub (r := ((i2 - 1 : Nat) : Int)) (ev_hit hN30 rfl) rfl (by rw [IntKind.wrap_i64]; omega) ?_
        refine op_assign (ev_hit hN30 rfl) ?_
        refine reg_nil ?_
        refine hK35 _ _ ?_
        refine wp_block ?_
        refine loop_m (fun mz_ az_ w' => ∃ (j3 : Nat) (d2 : Ar), mz_ = (j3 + 1) ∧ (az_.tmps.getD 0 undef = v) ∧ (az_.tmps.getD 1 undef = (Value.int .i64 ((a : Nat) : Int))) ∧ (az_.tmps.getD 2 undef = (Value.int .i64 ((b : Nat) : Int))) ∧ (az_.tmps.getD 7 undef = (Value.int .i64 ((i2 : Nat) : Int))) ∧ (az_.tmps.getD 8 undef = (Value.int .i64 ((s : Nat) : Int))) ∧ (az_.tmps.getD 9 undef = (Value.int .i64 ((j3 : Nat) : Int))) ∧ (d2.size = n) ∧ (j3 ≤ i2 - 1) ∧ (shiftDown ltT (i2 - 1) (swp dk i2 (i2 - 1)) = shiftDown ltT j3 d2) ∧ (w.grownBy w' v.ownBlock) ∧ (w30.heap.size ≤ w'.heap.size) ∧ (Own w' base 46 1 v n (d2.toList.map u16v))) _ hN30 hd30 ⟨(i2 - 1), _, rfl, (sl_base hN30 rfl s30_0), (sl_base hN30 rfl s30_1), (sl_base hN30 rfl s30_2), (sl_base hN30 rfl s30_7), (sl_base hN30 rfl s30_8), (sl_hit hN30 rfl).trans (congrArg (Value.int .i64) (by omega)), (by first | assumption | (simp only [Array.size_setIfInBounds, swp_sz, siftDown_size]; assumption)), (by omega), rfl, hb, (Nat.le_refl _), hO30⟩ ?_
        rintro _ a36 w36 hN36 hd36 ⟨j3, d2, rfl, s36_0, s36_1, s36_2, s36_7, s36_8, s36_9, hd2, hr3, hdn, hb, zl_w36, hO37⟩
        have z_w36 := hb.size
        refine seq_any fun K38 hK38 => ?_
        refine seq_any fun K39 hK39 => ?_
        refine one_reg ?_
        refine op_move (ev_base hN36 rfl s36_9) ?_
        refine op_geq (ev_hit hN36 rfl) rfl (fun c65 => ?_) (fun c65 => ?_)
        · -- 65T
         refine reg_nil ?_
         refine hK39 _ _ ?_
         refine wp_cond_true (ev_hit hN36 rfl) ?_
         refine wp_skip ?_
         refine hK38 _ _ ?_
         refine seq_any fun K40 hK40 => ?_
         refine wp_block ?_
         refine seq_any fun K41 hK41 => ?_
         refine seq_any fun K42 hK42 => ?_
         refine reg_still mixed (by kernel_rfl) ?_
         intro w44 E43
         have z_w44 := E43.size
         have hO37 := hO37.keep0 E43
         have hb := grow_step0 hb E43
         refine st_step rfl (fun _ h9 => op_move (ev_base hN36 rfl s36_0) h9) ?_
         refine st_step rfl (fun _ h9 => op_move (ev_base hN36 rfl s36_9) h9) ?_
         refine st_index_rd slt45 (ev_hit hN36 rfl) hO37.rdw (ev_hit hN36 rfl) (by omega) (by omega) ?_
         intro b45 o46 h0b45 h1b45 hc47
         refine st_step rfl (fun _ h9 => op_load1 (v := (Value.int .u16 (d2[j3]!.toNat : Int))) one46 (ev_hit hN36 rfl) (by have := hc47 0 (Value.int .u16 (d2[j3]!.toNat : Int)) (by decide) (el_arr (i := j3) (by omega) (by first | omega | (simp only [Array.size_setIfInBounds, swp_sz, siftDown_size]; omega))); simpa using this) h9) ?_
         refine st_step rfl (fun _ h9 => op_move (ev_base hN36 rfl s36_0) h9) ?_
         refine st_step rfl (fun _ h9 => op_move (ev_base hN36 rfl s36_9) h9) ?_
         refine st_step rfl (fun _ h9 => op_sub (ev_hit hN36 rfl) rfl (sub64 (by omega)) h9) ?_
         refine st_index_rd slt45 (ev_hit hN36 rfl) hO37.rdw (ev_hit hN36 rfl) (by omega) (by omega) ?_
         intro b48 o49 h0b48 h1b48 hc50
         refine st_step rfl (fun _ h9 => op_load1 (v := (Value.int .u16 (d2[(j3 - 1)]!.toNat : Int))) one46 (ev_hit hN36 rfl) (by have := hc50 0 (Value.int .u16 (d2[(j3 - 1)]!.toNat : Int)) (by decide) (el_arr (i := (j3 - 1)) (by omega) (by first | omega | (simp only [Array.size_setIfInBounds, swp_sz, siftDown_size]; omega))); simpa using this) h9) ?_
         refine st_fn (vs := [(Value.int .u16 (d2[j3]!.toNat : Int)), (Value.int .u16 (d2[(j3 - 1)]!.toNat : Int))]) ok159 (⟨(ev_hit hN36 rfl), ⟨(ev_hit hN36 rfl), trivial⟩⟩) (Less16_ret d2[j3]! d2[(j3 - 1)]! _) ?_
         refine st_step rfl (fun _ h9 => op_not (ev_hit hN36 rfl) h9) ?_
         refine st_nil ?_
         refine hK42 _ _ ?_
         refine wp_cond_split (ev_hit hN36 rfl) (fun c78 => ?_) (fun c78 => ?_)
         · -- 78T
          refine wp_exit (then_exit (blk_miss (by decide) (then_exit (then_exit (blk_hit ?_)))))
          refine hK33 _ _ ?_
          exact hJ31 _ _ _ hN36 hd36 ⟨_, (sl_base hN36 rfl s36_0), (sl_base hN36 rfl s36_1), (sl_base hN36 rfl s36_2), (sl_base hN36 rfl s36_7), (sl_base hN36 rfl s36_8), ((fixDown_t (by omega)).trans (hdn.trans (shiftDown_stop (.inr (not_t c78))))).symm, (by first | assumption | (simp only [Array.size_setIfInBounds, swp_sz, siftDown_size]; assumption)), hb, (by omega), hO37⟩
         · -- 78F
          refine wp_skip ?_
          refine hK41 _ _ ?_
          refine reg_mid (e := 46) (sz := 1) (base := base) (n := n) (v := v) (Φ := phiL [(fun uz _ => uz = v), (fun uz _ => uz = (Value.int .i64 ((j3 : Nat) : Int))), (fun uz _ => uz = v), (fun uz _ => uz = (Value.int .i64 ((j3 : Nat) : Int))), (fun uz _ => uz = (Value.int .i64 (((j3 : Nat) : Int) - 1))), (fun uz _ => uz = v), (fun uz _ => uz = (Value.int .i64 ((j3 : Nat) : Int))), (fun uz _ => uz = (Value.int .i64 (((j3 : Nat) : Int) - 1))), (fun uz _ => ∃ bz oz, uz = ptr bz oz ∧ AtV v (j3 - 1) bz oz), (fun uz _ => uz = (Value.int .u16 (d2[(j3 - 1)]!.toNat : Int))), (fun uz _ => uz = v), (fun uz _ => uz = (Value.int .i64 ((j3 : Nat) : Int))), (fun uz _ => ∃ bz oz, uz = ptr bz oz ∧ AtV v j3 bz oz), (fun uz _ => uz = (Value.int .u16 (d2[j3]!.toNat : Int))), (fun uz _ => ∃ bz oz, uz = ptr bz oz ∧ AtV v j3 bz oz), (fun _ _ => True), (fun uz _ => ∃ bz oz, uz = ptr bz oz ∧ AtV v (j3 - 1) bz oz), (fun _ _ => True)]) [15, 17] [(d2.toList.map u16v), ((d2.setIfInBounds j3 d2[(j3 - 1)]!).toList.map u16v), (((d2.setIfInBounds j3 d2[(j3 - 1)]!).setIfInBounds (j3 - 1) d2[j3]!).toList.map u16v)] mixed (by kernel_rfl) (by kernel_rfl) (by kernel_rfl) (by kernel_rfl) hN36 hO37 (StL.get (StL.eq (StL.eq (StL.eq (StL.eq (StL.eq (StL.eq (StL.eq (StL.eq (StL.at (StL.eq (StL.eq (StL.eq (StL.at (StL.eq (StL.at (StL.cons (fun _ _ _ _ h => h) (StL.at (StL.cons (fun _ _ _ _ h => h) (StL.nil _)))))))))))))))))))) (ObRs.get (ObRs.cons ?_ (ObRs.cons ?_ (ObRs.cons ?_ (ObRs.cons ?_ (ObRs.cons ?_ (ObRs.cons ?_ (ObRs.cons ?_ (ObRs.cons ?_ (ObRs.cons ?_ (ObRs.cons ?_ (ObRs.cons ?_ (ObRs.cons ?_ (ObRs.cons ?_ (ObRs.cons ?_ (ObRs.cons ?_ (ObRs.pass rfl (ObRs.cons ?_ (ObRs.pass rfl (ObRs.nil)))))))))))))))))))) (ObWs.get (ObWs.cons ?_ (ObWs.cons ?_ (ObWs.nil)))) ?_
          ·
           intro aA wA cA hNA hRA hckA hOA hbsA hdpA
           have qA_0 := (hbsA 0 rfl).trans (sl_base hN36 rfl s36_0)
           clear hbsA hdpA
           refine op_move (ev_base hNA rfl qA_0) ?_
           exact obR_end rfl rfl (grown_refl _ _)
          ·
           intro aA wA cA hNA hRA hckA hOA hbsA hdpA
           have qA_9 := (hbsA 9 rfl).trans (sl_base hN36 rfl s36_9)
           clear hbsA hdpA
           refine op_move (ev_base hNA rfl qA_9) ?_
           exact obR_end rfl rfl (grown_refl _ _)
          ·
           intro aA wA cA hNA hRA hckA hOA hbsA hdpA
           have qA_0 := (hbsA 0 rfl).trans (sl_base hN36 rfl s36_0)
           clear hbsA hdpA
           refine op_move (ev_base hNA rfl qA_0) ?_
           exact obR_end rfl rfl (grown_refl _ _)
          ·
           intro aA wA cA hNA hRA hckA hOA hbsA hdpA
           have qA_9 := (hbsA 9 rfl).trans (sl_base hN36 rfl s36_9)
           clear hbsA hdpA
           refine op_move (ev_base hNA rfl qA_9) ?_
           exact obR_end rfl rfl (grown_refl _ _)
          ·
           intro aA wA cA hNA hRA hckA hOA hbsA hdpA
           have qA_82 : Sl aA 82 (Value.int .i64 ((j3 : Nat) : Int)) := hdpA 3 _ 82 (by kernel_rfl) rfl rfl
           clear hbsA hdpA
           refine op_sub (ev_base hNA rfl qA_82) rfl (sub64 (by omega)) ?_
           exact obR_end rfl rfl (grown_refl _ _)
          ·
           intro aA wA cA hNA hRA hckA hOA hbsA hdpA
           have qA_0 := (hbsA 0 rfl).trans (sl_base hN36 rfl s36_0)
           clear hbsA hdpA
           refine op_move (ev_base hNA rfl qA_0) ?_
           exact obR_end rfl rfl (grown_refl _ _)
          ·
           intro aA wA cA hNA hRA hckA hOA hbsA hdpA
           have qA_9 := (hbsA 9 rfl).trans (sl_base hN36 rfl s36_9)
           clear hbsA hdpA
           refine op_move (ev_base hNA rfl qA_9) ?_
           exact obR_end rfl rfl (grown_refl _ _)
          ·
           intro aA wA cA hNA hRA hckA hOA hbsA hdpA
           have qA_85 : Sl aA 85 (Value.int .i64 ((j3 : Nat) : Int)) := hdpA 6 _ 85 (by kernel_rfl) rfl rfl
           clear hbsA hdpA
           refine op_sub (ev_base hNA rfl qA_85) rfl (sub64 (by omega)) ?_
           exact obR_end rfl rfl (grown_refl _ _)
          ·
           intro aA wA cA hNA hRA hckA hOA hbsA hdpA
           have qA_84 : Sl aA 84 v := hdpA 5 _ 84 (by kernel_rfl) rfl rfl
           have qA_86 : Sl aA 86 (Value.int .i64 (((j3 : Nat) : Int) - 1)) := hdpA 7 _ 86 (by kernel_rfl) rfl rfl
           clear hbsA hdpA
           refine op_index_own (i := (j3 - 1)) slt45 (ev_base hNA rfl qA_84) hOA (ev_base hNA rfl qA_86) (by omega) (by omega) ?_
           intro b_ o_ _ hA_
           exact obR_end rfl ⟨b_, o_, rfl, by simpa using hA_⟩ (grown_refl _ _)
          ·
           intro aA wA cA hNA hRA hckA hOA hbsA hdpA
           obtain ⟨bA_87, oA_87, qA_87, hAA_87⟩ := hdpA 8 _ 87 (by kernel_rfl) rfl rfl
           clear hbsA hdpA
           obtain rfl : cA = 0 := Nat.le_zero.1 (hckA 0 15 rfl (by kernel_rfl))
           have hOA : Own wA base 46 1 v n (d2.toList.map u16v) := hOA
           refine op_load1 (v := (Value.int .u16 (d2[(j3 - 1)]!.toNat : Int))) one46 (ev_base hNA rfl qA_87) (by have := hOA.cellAt hAA_87 0 _ (el_at (i := (j3 - 1)) (by first | omega | (simp only [Array.size_setIfInBounds, swp_sz, siftDown_size]; omega))); simpa using this) ?_
           exact obR_end rfl rfl (grown_refl _ _)
          ·
           intro aA wA cA hNA hRA hckA hOA hbsA hdpA
           have qA_0 := (hbsA 0 rfl).trans (sl_base hN36 rfl s36_0)
           clear hbsA hdpA
           refine op_move (ev_base hNA rfl qA_0) ?_
           exact obR_end rfl rfl (grown_refl _ _)
          ·
           intro aA wA cA hNA hRA hckA hOA hbsA hdpA
           have qA_9 := (hbsA 9 rfl).trans (sl_base hN36 rfl s36_9)
           clear hbsA hdpA
           refine op_move (ev_base hNA rfl qA_9) ?_
           exact obR_end rfl rfl (grown_refl _ _)
          ·
           intro aA wA cA hNA hRA hckA hOA hbsA hdpA
           have qA_89 : Sl aA 89 v := hdpA 10 _ 89 (by kernel_rfl) rfl rfl
           have qA_90 : Sl aA 90 (Value.int .i64 ((j3 : Nat) : Int)) := hdpA 11 _ 90 (by kernel_rfl) rfl rfl
           clear hbsA hdpA
           refine op_index_own (i := j3) slt45 (ev_base hNA rfl qA_89) hOA (ev_base hNA rfl qA_90) (by omega) (by omega) ?_
           intro b_ o_ _ hA_
           exact obR_end rfl ⟨b_, o_, rfl, by simpa using hA_⟩ (grown_refl _ _)
          ·
           intro aA wA cA hNA hRA hckA hOA hbsA hdpA
           obtain ⟨bA_91, oA_91, qA_91, hAA_91⟩ := hdpA 12 _ 91 (by kernel_rfl) rfl rfl
           clear hbsA hdpA
           obtain rfl : cA = 0 := Nat.le_zero.1 (hckA 0 15 rfl (by kernel_rfl))
           have hOA : Own wA base 46 1 v n (d2.toList.map u16v) := hOA
           refine op_load1 (v := (Value.int .u16 (d2[j3]!.toNat : Int))) one46 (ev_base hNA rfl qA_91) (by have := hOA.cellAt hAA_91 0 _ (el_at (i := j3) (by first | omega | (simp only [Array.size_setIfInBounds, swp_sz, siftDown_size]; omega))); simpa using this) ?_
           exact obR_end rfl rfl (grown_refl _ _)
          ·
           intro aA wA cA hNA hRA hckA hOA hbsA hdpA
           have qA_79 : Sl aA 79 v := hdpA 0 _ 79 (by kernel_rfl) rfl rfl
           have qA_80 : Sl aA 80 (Value.int .i64 ((j3 : Nat) : Int)) := hdpA 1 _ 80 (by kernel_rfl) rfl rfl
           clear hbsA hdpA
           refine op_index_own (i := j3) slt45 (ev_base hNA rfl qA_79) hOA (ev_base hNA rfl qA_80) (by omega) (by omega) ?_
           intro b_ o_ _ hA_
           exact obR_end rfl ⟨b_, o_, rfl, by simpa using hA_⟩ (grown_refl _ _)
          ·
           intro aA wA cA hNA hRA hckA hOA hbsA hdpA
           have qA_81 : Sl aA 81 v := hdpA 2 _ 81 (by kernel_rfl) rfl rfl
           have qA_83 : Sl aA 83 (Value.int .i64 (((j3 : Nat) : Int) - 1)) := hdpA 4 _ 83 (by kernel_rfl) rfl rfl
           clear hbsA hdpA
           refine op_index_own (i := (j3 - 1)) slt45 (ev_base hNA rfl qA_81) hOA (ev_base hNA rfl qA_83) (by omega) (by omega) ?_
           intro b_ o_ _ hA_
           exact obR_end rfl ⟨b_, o_, rfl, by simpa using hA_⟩ (grown_refl _ _)
          ·
           intro o_ ho_; obtain rfl := Option.some.inj ho_; intro aA wA hNA hRA hbsA hdpA hOA
           obtain ⟨bA_93, oA_93, qA_93, hAA_93⟩ := hdpA 14 _ 93 (by kernel_rfl) rfl rfl
           have qA_88 : Sl aA 88 (Value.int .u16 (d2[(j3 - 1)]!.toNat : Int)) := hdpA 9 _ 88 (by kernel_rfl) rfl rfl
           clear hbsA hdpA
           have hOA : Own wA base 46 1 v n (d2.toList.map u16v) := hOA
           refine op_store_own (vs := [(Value.int .u16 (d2[(j3 - 1)]!.toNat : Int))]) size46 (ev_base hNA rfl qA_93) (ev_base hNA rfl qA_88) rfl rfl rfl hOA hAA_93 (by have := hOA.1; simp at this ⊢; omega) ?_
           intro w_ hO_ E_
           exact obW_end rfl (hO_.cast rfl (set_arr (by first | omega | (simp only [Array.size_setIfInBounds, swp_sz, siftDown_size]; omega)))) E_
          ·
           intro o_ ho_; obtain rfl := Option.some.inj ho_; intro aA wA hNA hRA hbsA hdpA hOA
           obtain ⟨bA_94, oA_94, qA_94, hAA_94⟩ := hdpA 16 _ 94 (by kernel_rfl) rfl rfl
           have qA_92 : Sl aA 92 (Value.int .u16 (d2[j3]!.toNat : Int)) := hdpA 13 _ 92 (by kernel_rfl) rfl rfl
           clear hbsA hdpA
           have hOA : Own wA base 46 1 v n ((d2.setIfInBounds j3 d2[(j3 - 1)]!).toList.map u16v) := hOA
           refine op_store_own (vs := [(Value.int .u16 (d2[j3]!.toNat : Int))]) size46 (ev_base hNA rfl qA_94) (ev_base hNA rfl qA_92) rfl rfl rfl hOA hAA_94 (by have := hOA.1; simp at this ⊢; omega) ?_
           intro w_ hO_ E_
           exact obW_end rfl (hO_.cast rfl (set_arr (by first | omega | (simp only [Array.size_setIfInBounds, swp_sz, siftDown_size]; omega)))) E_
          ·
           intro a51 w51 hN51 hd51 hbs51 hph51 hO51 E51
           have hd51 := hd51.trans hd36
           have s51_0 := (hbs51 0 rfl).trans (sl_base hN36 rfl s36_0)
           have s51_1 := (hbs51 1 rfl).trans (sl_base hN36 rfl s36_1)
           have s51_2 := (hbs51 2 rfl).trans (sl_base hN36 rfl s36_2)
           have s51_7 := (hbs51 7 rfl).trans (sl_base hN36 rfl s36_7)
           have s51_8 := (hbs51 8 rfl).trans (sl_base hN36 rfl s36_8)
           have s51_9 := (hbs51 9 rfl).trans (sl_base hN36 rfl s36_9)
           clear hbs51 hph51
           have hO51 : Own w51 base 46 1 v n (((d2.setIfInBounds j3 d2[(j3 - 1)]!).setIfInBounds (j3 - 1) d2[j3]!).toList.map u16v) := hO51
           have z_w51 := E51.size
           have hb := grow_stepX hb E51 rfl
           refine hK40 _ _ ?_
           refine one_reg ?_
           refine op_move (ev_base hN51 rfl s51_9) ?_
           refine op_sub (ev_hit hN51 rfl) rfl (sub64 (by omega)) ?_
           refine op_assign (ev_hit hN51 rfl) ?_
           refine reg_nil ?_
           -- round 14T 37F 41F 61T 65T 78F
           exact loop_next _ hN51 hd51 ⟨(j3 - 1), _, rfl, (sl_base hN51 rfl s51_0), (sl_base hN51 rfl s51_1), (sl_base hN51 rfl s51_2), (sl_base hN51 rfl s51_7), (sl_base hN51 rfl s51_8), (sl_hit hN51 rfl).trans (congrArg (Value.int .i64) (by omega)), (by first | assumption | (simp only [Array.size_setIfInBounds, swp_sz, siftDown_size]; assumption)), (by omega), (hdn.trans (shiftDown_go (by omega) (not_f c78))), hb, (by omega), hO51⟩ (by omega)
        · -- 65F
         refine reg_nil ?_
         refine hK39 _ _ ?_
         refine wp_cond_false (ev_hit hN36 rfl) ?_
         refine wp_exit (then_exit (then_exit (blk_hit ?_)))
         refine hK33 _ _ ?_
         exact hJ31 _ _ _ hN36 hd36 ⟨_, (sl_base hN36 rfl s36_0), (sl_base hN36 rfl s36_1), (sl_base hN36 rfl s36_2), (sl_base hN36 rfl s36_7), (sl_base hN36 rfl s36_8), ((fixDown_t (by omega)).trans (hdn.trans (shiftDown_stop (.inl (by omega))))).symm, (by first | assumption | (simp only [Array.size_setIfInBounds, swp_sz, siftDown_size]; assumption)), hb, (by omega), hO37⟩
       · -- 61F
        refine reg_nil ?_
        refine hK34 _ _ ?_
        refine wp_cond_false (ev_hit hN30 rfl) ?_
        refine wp_skip ?_
        refine hK33 _ _ ?_
        exact hJ31 _ _ _ hN30 hd30 ⟨_, (sl_base hN30 rfl s30_0), (sl_base hN30 rfl s30_1), (sl_base hN30 rfl s30_2), (sl_base hN30 rfl s30_7), (sl_base hN30 rfl s30_8), (fixDown_f (by omega)).symm, (by first | assumption | (simp only [Array.size_setIfInBounds, swp_sz, siftDown_size]; assumption)), hb, (by omega), hO30⟩
      ·
       rintro a31 w31 hN31 hd31 ⟨d3, s31_0, s31_1, s31_2, s31_7, s31_8, hdd, hz3, hb, zl_w31, hO32⟩
       have z_w31 := hb.size
       refine seq_any fun K52 hK52 => ?_
       refine one_reg ?_
       refine op_move (ev_base hN31 rfl s31_2) ?_
       refine op_move (ev_base hN31 rfl s31_7) ?_
       refine op_sub (ev_hit hN31 rfl) (ev_hit hN31 rfl) (sub64 (by omega)) ?_
       refine op_geq (ev_hit hN31 rfl) rfl (fun c98 => ?_) (fun c98 => ?_)
       · -- 98T
        refine reg_nil ?_
        refine hK52 _ _ ?_
        refine wp_cond_true (ev_hit hN31 rfl) ?_
        refine seq_any fun K53 hK53 => ?_
        refine one_reg ?_
        refine op_move (ev_base hN31 rfl s31_7) ?_
        refine op_add (ev_hit hN31 rfl) rfl (add64 (by omega)) ?_
        refine op_assign (ev_hit hN31 rfl) ?_
        refine reg_nil ?_
        refine hK53 _ _ ?_
        refine wp_block ?_
        refine loop_m (fun mz_ az_ w' => ∃ (j4 : Nat) (d4 : Ar), mz_ = (b + 1 - j4) ∧ (az_.tmps.getD 0 undef = v) ∧ (az_.tmps.getD 1 undef = (Value.int .i64 ((a : Nat) : Int))) ∧ (az_.tmps.getD 2 undef = (Value.int .i64 ((b : Nat) : Int))) ∧ (az_.tmps.getD 7 undef = (Value.int .i64 ((i2 : Nat) : Int))) ∧ (az_.tmps.getD 8 undef = (Value.int .i64 ((s : Nat) : Int))) ∧ (az_.tmps.getD 10 undef = (Value.int .i64 ((j4 : Nat) : Int))) ∧ (d4.size = n) ∧ (i2 + 1 ≤ j4 ∧ j4 ≤ b) ∧ (shiftUp ltT b (i2 + 1) d3 = shiftUp ltT b j4 d4) ∧ (w.grownBy w' v.ownBlock) ∧ (w31.heap.size ≤ w'.heap.size) ∧ (Own w' base 46 1 v n (d4.toList.map u16v))) _ hN31 hd31 ⟨(i2 + 1), _, rfl, (sl_base hN31 rfl s31_0), (sl_base hN31 rfl s31_1), (sl_base hN31 rfl s31_2), (sl_base hN31 rfl s31_7), (sl_base hN31 rfl s31_8), (sl_hit hN31 rfl).trans (congrArg (Value.int .i64) (by omega)), (by first | assumption | (simp only [Array.size_setIfInBounds, swp_sz, siftDown_size]; assumption)), (by omega), rfl, hb, (Nat.le_refl _), hO32⟩ ?_
        rintro _ a54 w54 hN54 hd54 ⟨j4, d4, rfl, s54_0, s54_1, s54_2, s54_7, s54_8, s54_10, hd4, hr4, hup, hb, zl_w54, hO55⟩
        have z_w54 := hb.size
        refine seq_any fun K56 hK56 => ?_
        refine seq_any fun K57 hK57 => ?_
        refine one_reg ?_
        refine op_move (ev_base hN54 rfl s54_10) ?_
        refine op_move (ev_base hN54 rfl s54_2) ?_
        refine op_lss (ev_hit hN54 rfl) (ev_hit hN54 rfl) (fun c103 => ?_) (fun c103 => ?_)
        · -- 103T
         refine reg_nil ?_
         refine hK57 _ _ ?_
         refine wp_cond_true (ev_hit hN54 rfl) ?_
         refine wp_skip ?_
         refine hK56 _ _ ?_
         refine seq_any fun K58 hK58 => ?_
         refine wp_block ?_
         refine seq_any fun K59 hK59 => ?_
         refine seq_any fun K60 hK60 => ?_
         refine reg_still mixed (by kernel_rfl) ?_
         intro w62 E61
         have z_w62 := E61.size
         have hO55 := hO55.keep0 E61
         have hb := grow_step0 hb E61
         refine st_step rfl (fun _ h9 => op_move (ev_base hN54 rfl s54_0) h9) ?_
         refine st_step rfl (fun _ h9 => op_move (ev_base hN54 rfl s54_10) h9) ?_
         refine st_index_rd slt45 (ev_hit hN54 rfl) hO55.rdw (ev_hit hN54 rfl) (by omega) (by omega) ?_
         intro b63 o64 h0b63 h1b63 hc65
         refine st_step rfl (fun _ h9 => op_load1 (v := (Value.int .u16 (d4[j4]!.toNat : Int))) one46 (ev_hit hN54 rfl) (by have := hc65 0 (Value.int .u16 (d4[j4]!.toNat : Int)) (by decide) (el_arr (i := j4) (by omega) (by first | omega | (simp only [Array.size_setIfInBounds, swp_sz, siftDown_size]; omega))); simpa using this) h9) ?_
         refine st_step rfl (fun _ h9 => op_move (ev_base hN54 rfl s54_0) h9) ?_
         refine st_step rfl (fun _ h9 => op_move (ev_base hN54 rfl s54_10) h9) ?_
         refine st_step rfl (fun _ h9 => op_sub (ev_hit hN54 rfl) rfl (sub64 (by omega)) h9) ?_
         refine st_index_rd slt45 (ev_hit hN54 rfl) hO55.rdw (ev_hit hN54 rfl) (by omega) (by omega) ?_
         intro b66 o67 h0b66 h1b66 hc68
         refine st_step rfl (fun _ h9 => op_load1 (v := (Value.int .u16 (d4[(j4 - 1)]!.toNat : Int))) one46 (ev_hit hN54 rfl) (by have := hc68 0 (Value.int .u16 (d4[(j4 - 1)]!.toNat : Int)) (by decide) (el_arr (i := (j4 - 1)) (by omega) (by first | omega | (simp only [Array.size_setIfInBounds, swp_sz, siftDown_size]; omega))); simpa using this) h9) ?_
         refine st_fn (vs := [(Value.int .u16 (d4[j4]!.toNat : Int)), (Value.int .u16 (d4[(j4 - 1)]!.toNat : Int))]) ok159 (⟨(ev_hit hN54 rfl), ⟨(ev_hit hN54 rfl), trivial⟩⟩) (Less16_ret d4[j4]! d4[(j4 - 1)]! _) ?_
         refine st_step rfl (fun _ h9 => op_not (ev_hit hN54 rfl) h9) ?_
         refine st_nil ?_
         refine hK60 _ _ ?_
         refine wp_cond_split (ev_hit hN54 rfl) (fun c116 => ?_) (fun c116 => ?_)
         · -- 116T
          refine wp_exit (then_exit (blk_miss (by decide) (then_exit (then_exit (blk_hit ?_)))))
          refine hK9 _ _ ?_
          refine one_reg ?_
          refine op_move (ev_base hN54 rfl s54_8) ?_
          refine op_add (ev_hit hN54 rfl) rfl (add64 (by omega)) ?_
          refine op_assign (ev_hit hN54 rfl) ?_
          refine reg_nil ?_
          -- round 14T 37F 41F 98T 103T 116T
          exact loop_next _ hN54 hd54 ⟨(s + 1), i2, _, rfl, (sl_base hN54 rfl s54_0), (sl_base hN54 rfl s54_1), (sl_base hN54 rfl s54_2), (sl_hit hN54 rfl).trans (congrArg (Value.int .i64) (by omega)), (sl_base hN54 rfl s54_7).trans (congrArg (Value.int .i64) (by omega)), (by first | assumption | (simp only [Array.size_setIfInBounds, swp_sz, siftDown_size]; assumption)), (by omega), (hs.trans (pi_go (by omega) hq2 (by omega) (by omega) hdd ((fixUp_t (by omega)).trans (hup.trans (shiftUp_stop (.inr (not_t c116))))).symm)), hb, (by omega), hO55⟩ (by omega)
         · -- 116F
          refine wp_skip ?_
          refine hK59 _ _ ?_
          refine reg_mid (e := 46) (sz := 1) (base := base) (n := n) (v := v) (Φ := phiL [(fun uz _ => uz = v), (fun uz _ => uz = (Value.int .i64 ((j4 : Nat) : Int))), (fun uz _ => uz = v), (fun uz _ => uz = (Value.int .i64 ((j4 : Nat) : Int))), (fun uz _ => uz = (Value.int .i64 (((j4 : Nat) : Int) - 1))), (fun uz _ => uz = v), (fun uz _ => uz = (Value.int .i64 ((j4 : Nat) : Int))), (fun uz _ => uz = (Value.int .i64 (((j4 : Nat) : Int) - 1))), (fun uz _ => ∃ bz oz, uz = ptr bz oz ∧ AtV v (j4 - 1) bz oz), (fun uz _ => uz = (Value.int .u16 (d4[(j4 - 1)]!.toNat : Int))), (fun uz _ => uz = v), (fun uz _ => uz = (Value.int .i64 ((j4 : Nat) : Int))), (fun uz _ => ∃ bz oz, uz = ptr bz oz ∧ AtV v j4 bz oz), (fun uz _ => uz = (Value.int .u16 (d4[j4]!.toNat : Int))), (fun uz _ => ∃ bz oz, uz = ptr bz oz ∧ AtV v j4 bz oz), (fun _ _ => True), (fun uz _ => ∃ bz oz, uz = ptr bz oz ∧ AtV v (j4 - 1) bz oz), (fun _ _ => True)]) [15, 17] [(d4.toList.map u16v), ((d4.setIfInBounds j4 d4[(j4 - 1)]!).toList.map u16v), (((d4.setIfInBounds j4 d4[(j4 - 1)]!).setIfInBounds (j4 - 1) d4[j4]!).toList.map u16v)] mixed (by kernel_rfl) (by kernel_rfl) (by kernel_rfl) (by kernel_rfl) hN54 hO55 (StL.get (StL.eq (StL.eq (StL.eq (StL.eq (StL.eq (StL.eq (StL.eq (StL.eq (StL.at (StL.eq (StL.eq (StL.eq (StL.at (StL.eq (StL.at (StL.cons (fun _ _ _ _ h => h) (StL.at (StL.cons (fun _ _ _ _ h => h) (StL.nil _)))))))))))))))))))) (ObRs.get (ObRs.cons ?_ (ObRs.cons ?_ (ObRs.cons ?_ (ObRs.cons ?_ (ObRs.cons ?_ (ObRs.cons ?_ (ObRs.cons ?_ (ObRs.cons ?_ (ObRs.cons ?_ (ObRs.cons ?_ (ObRs.cons ?_ (ObRs.cons ?_ (ObRs.cons ?_ (ObRs.cons ?_ (ObRs.cons ?_ (ObRs.pass rfl (ObRs.cons ?_ (ObRs.pass rfl (ObRs.nil)))))))))))))))))))) (ObWs.get (ObWs.cons ?_ (ObWs.cons ?_ (ObWs.nil)))) ?_
          ·
           intro aA wA cA hNA hRA hckA hOA hbsA hdpA
           have qA_0 := (hbsA 0 rfl).trans (sl_base hN54 rfl s54_0)
           clear hbsA hdpA
           refine op_move (ev_base hNA rfl qA_0) ?_
           exact obR_end rfl rfl (grown_refl _ _)
          ·
           intro aA wA cA hNA hRA hckA hOA hbsA hdpA
           have qA_10 := (hbsA 10 rfl).trans (sl_base hN54 rfl s54_10)
           clear hbsA hdpA
           refine op_move (ev_base hNA rfl qA_10) ?_
           exact obR_end rfl rfl (grown_refl _ _)
          ·
           intro aA wA cA hNA hRA hckA hOA hbsA hdpA
           have qA_0 := (hbsA 0 rfl).trans (sl_base hN54 rfl s54_0)
           clear hbsA hdpA
           refine op_move (ev_base hNA rfl qA_0) ?_
           exact obR_end rfl rfl (grown_refl _ _)
          ·
           intro aA wA cA hNA hRA hckA hOA hbsA hdpA
           have qA_10 := (hbsA 10 rfl).trans (sl_base hN54 rfl s54_10)
           clear hbsA hdpA
           refine op_move (ev_base hNA rfl qA_10) ?_
           exact obR_end rfl rfl (grown_refl _ _)
          ·
           intro aA wA cA hNA hRA hckA hOA hbsA hdpA
           have qA_120 : Sl aA 120 (Value.int .i64 ((j4 : Nat) : Int)) := hdpA 3 _ 120 (by kernel_rfl) rfl rfl
           clear hbsA hdpA
           refine op_sub (ev_base hNA rfl qA_120) rfl (sub64 (by omega)) ?_
           exact obR_end rfl rfl (grown_refl _ _)
          ·
           intro aA wA cA hNA hRA hckA hOA hbsA hdpA
           have qA_0 := (hbsA 0 rfl).trans (sl_base hN54 rfl s54_0)
           clear hbsA hdpA
           refine op_move (ev_base hNA rfl qA_0) ?_
           exact obR_end rfl rfl (grown_refl _ _)
          ·
           intro aA wA cA hNA hRA hckA hOA hbsA hdpA
           have qA_10 := (hbsA 10 rfl).trans (sl_base hN54 rfl s54_10)
           clear hbsA hdpA
           refine op_move (ev_base hNA rfl qA_10) ?_
           exact obR_end rfl rfl (grown_refl _ _)
          ·
           intro aA wA cA hNA hRA hckA hOA hbsA hdpA
           have qA_123 : Sl aA 123 (Value.int .i64 ((j4 : Nat) : Int)) := hdpA 6 _ 123 (by kernel_rfl) rfl rfl
           clear hbsA hdpA
           refine op_sub (ev_base hNA rfl qA_123) rfl (sub64 (by omega)) ?_
           exact obR_end rfl rfl (grown_refl _ _)
          ·
           intro aA wA cA hNA hRA hckA hOA hbsA hdpA
           have qA_122 : Sl aA 122 v := hdpA 5 _ 122 (by kernel_rfl) rfl rfl
           have qA_124 : Sl aA 124 (Value.int .i64 (((j4 : Nat) : Int) - 1)) := hdpA 7 _ 124 (by kernel_rfl) rfl rfl
           clear hbsA hdpA
           refine op_index_own (i := (j4 - 1)) slt45 (ev_base hNA rfl qA_122) hOA (ev_base hNA rfl qA_124) (by omega) (by omega) ?_
           intro b_ o_ _ hA_
           exact obR_end rfl ⟨b_, o_, rfl, by simpa using hA_⟩ (grown_refl _ _)
          ·
           intro aA wA cA hNA hRA hckA hOA hbsA hdpA
           obtain ⟨bA_125, oA_125, qA_125, hAA_125⟩ := hdpA 8 _ 125 (by kernel_rfl) rfl rfl
           clear hbsA hdpA
           obtain rfl : cA = 0 := Nat.le_zero.1 (hckA 0 15 rfl (by kernel_rfl))
           have hOA : Own wA base 46 1 v n (d4.toList.map u16v) := hOA
           refine op_load1 (v := (Value.int .u16 (d4[(j4 - 1)]!.toNat : Int))) one46 (ev_base hNA rfl qA_125) (by have := hOA.cellAt hAA_125 0 _ (el_at (i := (j4 - 1)) (by first | omega | (simp only [Array.size_setIfInBounds, swp_sz, siftDown_size]; omega))); simpa using this) ?_
           exact obR_end rfl rfl (grown_refl _ _)
          ·
           intro aA wA cA hNA hRA hckA hOA hbsA hdpA
           have qA_0 := (hbsA 0 rfl).trans (sl_base hN54 rfl s54_0)
           clear hbsA hdpA
           refine op_move (ev_base hNA rfl qA_0) ?_
           exact obR_end rfl rfl (grown_refl _ _)
          ·
           intro aA wA cA hNA hRA hckA hOA hbsA hdpA
           have qA_10 := (hbsA 10 rfl).trans (sl_base hN54 rfl s54_10)
           clear hbsA hdpA
           refine op_move (ev_base hNA rfl qA_10) ?_
           exact obR_end rfl rfl (grown_refl _ _)
          ·
           intro aA wA cA hNA hRA hckA hOA hbsA hdpA
           have qA_127 : Sl aA 127 v := hdpA 10 _ 127 (by kernel_rfl) rfl rfl
           have qA_128 : Sl aA 128 (Value.int .i64 ((j4 : Nat) : Int)) := hdpA 11 _ 128 (by kernel_rfl) rfl rfl
           clear hbsA hdpA
           refine op_index_own (i := j4) slt45 (ev_base hNA rfl qA_127) hOA (ev_base hNA rfl qA_128) (by omega) (by omega) ?_
           intro b_ o_ _ hA_
           exact obR_end rfl ⟨b_, o_, rfl, by simpa using hA_⟩ (grown_refl _ _)
          ·
           intro aA wA cA hNA hRA hckA hOA hbsA hdpA
           obtain ⟨bA_129, oA_129, qA_129, hAA_129⟩ := hdpA 12 _ 129 (by kernel_rfl) rfl rfl
           clear hbsA hdpA
           obtain rfl : cA = 0 := Nat.le_zero.1 (hckA 0 15 rfl (by kernel_rfl))
           have hOA : Own wA base 46 1 v n (d4.toList.map u16v) := hOA
           refine op_load1 (v := (Value.int .u16 (d4[j4]!.toNat : Int))) one46 (ev_base hNA rfl qA_129) (by have := hOA.cellAt hAA_129 0 _ (el_at (i := j4) (by first | omega | (simp only [Array.size_setIfInBounds, swp_sz, siftDown_size]; omega))); simpa using this) ?_
           exact obR_end rfl rfl (grown_refl _ _)
          ·
           intro aA wA cA hNA hRA hckA hOA hbsA hdpA
           have qA_117 : Sl aA 117 v := hdpA 0 _ 117 (by kernel_rfl) rfl rfl
           have qA_118 : Sl aA 118 (Value.int .i64 ((j4 : Nat) : Int)) := hdpA 1 _ 118 (by kernel_rfl) rfl rfl
           clear hbsA hdpA
           refine op_index_own (i := j4) slt45 (ev_base hNA rfl qA_117) hOA (ev_base hNA rfl qA_118) (by omega) (by omega) ?_
           intro b_ o_ _ hA_
           exact obR_end rfl ⟨b_, o_, rfl, by simpa using hA_⟩ (grown_refl _ _)
          ·
           intro aA wA cA hNA hRA hckA hOA hbsA hdpA
           have qA_119 : Sl aA 119 v := hdpA 2 _ 119 (by kernel_rfl) rfl rfl
           have qA_121 : Sl aA 121 (Value.int .i64 (((j4 : Nat) : Int) - 1)) := hdpA 4 _ 121 (by kernel_rfl) rfl rfl
           clear hbsA hdpA
           refine op_index_own (i := (j4 - 1)) slt45 (ev_base hNA rfl qA_119) hOA (ev_base hNA rfl qA_121) (by omega) (by omega) ?_
           intro b_ o_ _ hA_
           exact obR_end rfl ⟨b_, o_, rfl, by simpa using hA_⟩ (grown_refl _ _)
          ·
           intro o_ ho_; obtain rfl := Option.some.inj ho_; intro aA wA hNA hRA hbsA hdpA hOA
           obtain ⟨bA_131, oA_131, qA_131, hAA_131⟩ := hdpA 14 _ 131 (by kernel_rfl) rfl rfl
           have qA_126 : Sl aA 126 (Value.int .u16 (d4[(j4 - 1)]!.toNat : Int)) := hdpA 9 _ 126 (by kernel_rfl) rfl rfl
           clear hbsA hdpA
           have hOA : Own wA base 46 1 v n (d4.toList.map u16v) := hOA
           refine op_store_own (vs := [(Value.int .u16 (d4[(j4 - 1)]!.toNat : Int))]) size46 (ev_base hNA rfl qA_131) (ev_base hNA rfl qA_126) rfl rfl rfl hOA hAA_131 (by have := hOA.1; simp at this ⊢; omega) ?_
           intro w_ hO_ E_
           exact obW_end rfl (hO_.cast rfl (set_arr (by first | omega | (simp only [Array.size_setIfInBounds, swp_sz, siftDown_size]; omega)))) E_
          ·
           intro o_ ho_; obtain rfl := Option.some.inj ho_; intro aA wA hNA hRA hbsA hdpA hOA
           obtain ⟨bA_132, oA_132, qA_132, hAA_132⟩ := hdpA 16 _ 132 (by kernel_rfl) rfl rfl
           have qA_130 : Sl aA 130 (Value.int .u16 (d4[j4]!.toNat : Int)) := hdpA 13 _ 130 (by kernel_rfl) rfl rfl
           clear hbsA hdpA
           have hOA : Own wA base 46 1 v n ((d4.setIfInBounds j4 d4[(j4 - 1)]!).toList.map u16v) := hOA
           refine op_store_own (vs := [(Value.int .u16 (d4[j4]!.toNat : Int))]) size46 (ev_base hNA rfl qA_132) (ev_base hNA rfl qA_130) rfl rfl rfl hOA hAA_132 (by have := hOA.1; simp at this ⊢; omega) ?_
           intro w_ hO_ E_
           exact obW_end rfl (hO_.cast rfl (set_arr (by first | omega | (simp only [Array.size_setIfInBounds, swp_sz, siftDown_size]; omega)))) E_
          ·
           intro a69 w69 hN69 hd69 hbs69 hph69 hO69 E69
           have hd69 := hd69.trans hd54
           have s69_0 := (hbs69 0 rfl).trans (sl_base hN54 rfl s54_0)
           have s69_1 := (hbs69 1 rfl).trans (sl_base hN54 rfl s54_1)
           have s69_2 := (hbs69 2 rfl).trans (sl_base hN54 rfl s54_2)
           have s69_7 := (hbs69 7 rfl).trans (sl_base hN54 rfl s54_7)
           have s69_8 := (hbs69 8 rfl).trans (sl_base hN54 rfl s54_8)
           have s69_10 := (hbs69 10 rfl).trans (sl_base hN54 rfl s54_10)
           clear hbs69 hph69
           have hO69 : Own w69 base 46 1 v n (((d4.setIfInBounds j4 d4[(j4 - 1)]!).setIfInBounds (j4 - 1) d4[j4]!).toList.map u16v) := hO69
           have z_w69 := E69.size
           have hb := grow_stepX hb E69 rfl
           refine hK58 _ _ ?_
           refine one_reg ?_
           refine op_move (ev_base hN69 rfl s69_10) ?_
           refine op_add (ev_hit hN69 rfl) rfl (add64 (by omega)) ?_
           refine op_assign (ev_hit hN69 rfl) ?_
           refine reg_nil ?_
           -- round 14T 37F 41F 98T 103T 116F
           exact loop_next _ hN69 hd69 ⟨(j4 + 1), _, rfl, (sl_base hN69 rfl s69_0), (sl_base hN69 rfl s69_1), (sl_base hN69 rfl s69_2), (sl_base hN69 rfl s69_7), (sl_base hN69 rfl s69_8), (sl_hit hN69 rfl).trans (congrArg (Value.int .i64) (by omega)), (by first | assumption | (simp only [Array.size_setIfInBounds, swp_sz, siftDown_size]; assumption)), (by omega), (hup.trans (shiftUp_go (by omega) (not_f c116))), hb, (by omega), hO69⟩ (by omega)
        · -- 103F
         refine reg_nil ?_
         refine hK57 _ _ ?_
         refine wp_cond_false (ev_hit hN54 rfl) ?_
         refine wp_exit (then_exit (then_exit (blk_hit ?_)))
         refine hK9 _ _ ?_
         refine one_reg ?_
         refine op_move (ev_base hN54 rfl s54_8) ?_
         refine op_add (ev_hit hN54 rfl) rfl (add64 (by omega)) ?_
         refine op_assign (ev_hit hN54 rfl) ?_
         refine reg_nil ?_
         -- round 14T 37F 41F 98T 103F
         exact loop_next _ hN54 hd54 ⟨(s + 1), i2, _, rfl, (sl_base hN54 rfl s54_0), (sl_base hN54 rfl s54_1), (sl_base hN54 rfl s54_2), (sl_hit hN54 rfl).trans (congrArg (Value.int .i64) (by omega)), (sl_base hN54 rfl s54_7).trans (congrArg (Value.int .i64) (by omega)), (by first | assumption | (simp only [Array.size_setIfInBounds, swp_sz, siftDown_size]; assumption)), (by omega), (hs.trans (pi_go (by omega) hq2 (by omega) (by omega) hdd ((fixUp_t (by omega)).trans (hup.trans (shiftUp_stop (.inl (by omega))))).symm)), hb, (by omega), hO55⟩ (by omega)
       · -- 98F
        refine reg_nil ?_
        refine hK52 _ _ ?_
        refine wp_cond_false (ev_hit hN31 rfl) ?_
        refine wp_skip ?_
        refine hK9 _ _ ?_
        refine one_reg ?_
        refine op_move (ev_base hN31 rfl s31_8) ?_
        refine op_add (ev_hit hN31 rfl) rfl (add64 (by omega)) ?_
        refine op_assign (ev_hit hN31 rfl) ?_
        refine reg_nil ?_
        -- round 14T 37F 41F 98F
        exact loop_next _ hN31 hd31 ⟨(s + 1), i2, _, rfl, (sl_base hN31 rfl s31_0), (sl_base hN31 rfl s31_1), (sl_base hN31 rfl s31_2), (sl_hit hN31 rfl).trans (congrArg (Value.int .i64) (by omega)), (sl_base hN31 rfl s31_7).trans (congrArg (Value.int .i64) (by omega)), (by first | assumption | (simp only [Array.size_setIfInBounds, swp_sz, siftDown_size]; assumption)), (by omega), (hs.trans (pi_go (by omega) hq2 (by omega) (by omega) hdd (fixUp_f (by omega)).symm)), hb, (by omega), hO32⟩ (by omega)
 · -- 14F
  refine reg_nil ?_
  refine hK8 _ _ ?_
  refine wp_cond_false (ev_hit hN5 rfl) ?_
  refine wp_exit (then_exit (then_exit (blk_hit ?_)))
  refine hK3 _ _ ?_
  refine seq_any fun K70 hK70 => ?_
  refine one_reg ?_
  refine op_assign rfl ?_
  refine reg_nil ?_
  refine hK70 _ _ ?_
  refine wp_ret ?_
  refine ret1 rfl hd5 (ev_hit hN5 rfl) ⟨_, rfl, ?_⟩
  -- path 14F
  have hq : partialInsertionSort ltT d a b = (dk, false) := hs.trans (by rw [show 5 - s = 0 by omega]; rfl)
  exact ⟨hb, by rw [hq]; rfl, hO6.cast rfl (by rw [hq])⟩

end Go.Proofs.Ytmhdbphpmgjpcaa

/- Walks, written by a program: what each function of the translation hands back. -/
namespace Go.Proofs.Ytmhdbphpmgjpcaa
open Go.Gx Go.RowKit
attribute [local irreducible] wpList wpStill Code.wp Calls
open Go.Sort (insertionSort insOuter insInner swp siftDown heapSort heapBuild heapPop scanUp scanDown partition partLoop partitionEqual partEqLoop scanSorted partialIns bitsLen partialInsertionSort shiftDown shiftUp SortedIn reverseRange reverseLoop fixDown fixUp)
set_option maxHeartbeats 2000000 in
theorem bpW_ret (d : Ar) (v : Value) (n base : Nat) (a b : Nat) (w : World) (hd : d.size = n) (hn : n ≤ 4000000000000000000) (O : Own w base 46 1 v n (d.toList.map u16v)) (hab : a ≤ b) (hbn : b ≤ n) : Ret Try.prog 155 #[v, (Value.int .i64 ((a : Nat) : Int)), (Value.int .i64 ((b : Nat) : Int))] w (fun v' w' => w.grownBy w' v.ownBlock ∧ v' = .tuple #[] ∧ ∃ d', PI a b d d' ∧ Own w' base 46 1 v n (d'.toList.map u16v)) := by
 have hb := grown_refl w v.ownBlock
 refine enter (N := 65) Try.func155 rfl rfl (by simp) fun a0 hN hd hA => ?_
 have s0 : a0.tmps.getD 0 undef = v := hA 0 (by simp)
 have s1 : a0.tmps.getD 1 undef = (Value.int .i64 ((a : Nat) : Int)) := hA 1 (by simp)
 have s2 : a0.tmps.getD 2 undef = (Value.int .i64 ((b : Nat) : Int)) := hA 2 (by simp)
 clear hA
 refine seq_any fun K1 hK1 => ?_
 refine one_reg ?_
 refine op_move (ev_base hN rfl s2) ?_
 refine op_move (ev_base hN rfl s1) ?_
 refine op_sub (r := (((b - a) : Nat) : Int)) (ev_hit hN rfl) (ev_hit hN rfl) (by rw [IntKind.wrap_i64]; omega) ?_
 refine op_assign (ev_hit hN rfl) ?_
 refine reg_nil ?_
 refine hK1 _ _ ?_
 refine seq_any fun K2 hK2 => ?_
 refine one_reg ?_
 refine op_move (ev_hit hN rfl) ?_
 refine op_geq (ev_hit hN rfl) rfl (fun c15 => ?_) (fun c15 => ?_)
 · -- 15T
  refine reg_nil ?_
  refine hK2 _ _ ?_
  refine wp_cond_true (ev_hit hN rfl) ?_
  refine seq_any fun K3 hK3 => ?_
  refine one_reg ?_
  refine op_move (ev_hit hN rfl) ?_
  refine op_conv (r := (((b - a) : Nat) : Int)) (ev_hit hN rfl) us3 Try.underlying244 (wrap_u64 (by omega)) ?_
  refine op_alloc (cs := [(Value.int .u64 0)]) zero244 rfl ?_
  intro w4 b5 lo_b5 hi_b5 hB7 E6
  have z_w4 := E6.size
  have O := O.keep0 E6
  have hb := grow_step0 hb E6
  have hB7_old := hB7
  refine op_store (vs := [(Value.int .u64 (((b - a) : Nat) : Int))]) (cs' := [(Value.int .u64 (((b - a) : Nat) : Int))]) size244 (ev_hit hN rfl) (ev_hit hN rfl) rfl rfl rfl hB7 (Nat.le_of_ble_eq_true rfl) rfl ?_
  intro w10 hB7 E11
  have z_w10 := E11.size
  have O := O.keepX hB7_old E11 (by decide)
  have hb := grow_step1 hb E11 (by omega)
  refine reg_nil ?_
  refine hK3 _ _ ?_
  refine seq_any fun K12 hK12 => ?_
  refine one_reg ?_
  refine op_move (ev_hit hN rfl) ?_
  refine op_fn (vs := [(Value.int .i64 (((b - a) : Nat) : Int))]) ok174 ⟨(ev_hit hN rfl), trivial⟩ (npW_ret (b - a) _ (by omega)) ?_
  rintro _ w14 ⟨E15, M13, rfl, hM13, hM213⟩
  have E15 := grown_of_below E15
  have z_w14 := E15.size
  have O := O.keep0 E15
  have hB7 := hB7.keep0 E15
  have hb := grow_step0 hb E15
  refine op_assign (ev_hit hN rfl) ?_
  refine reg_nil ?_
  refine hK12 _ _ ?_
  refine seq_any fun K16 hK16 => ?_
  refine one_reg ?_
  refine op_move (ev_base hN rfl s1) ?_
  refine op_move (ev_hit hN rfl) ?_
  refine op_quo (r := ((((b - a) / 4) : Nat) : Int)) (ev_hit hN rfl) rfl (by decide) (by rw [IntKind.wrap_i64, Int.tdiv_eq_ediv_of_nonneg (by omega)]; omega) ?_
  refine op_mul (r := ((((b - a) / 4 * 2) : Nat) : Int)) (ev_hit hN rfl) rfl (by rw [IntKind.wrap_i64]; omega) ?_
  refine op_add (ev_hit hN rfl) (ev_hit hN rfl) (add64 (by omega)) ?_
  refine op_sub (r := (((a + ((b - a) / 4 * 2) - 1) : Nat) : Int)) (ev_hit hN rfl) rfl (by rw [IntKind.wrap_i64]; omega) ?_
  refine op_assign (ev_hit hN rfl) ?_
  refine reg_nil ?_
  refine hK16 _ _ ?_
  refine wp_block ?_
  refine loop_m (fun mz_ az_ w' => ∃ (ix xs : Nat) (dk : Ar), mz_ = (a + b + 10 - ix) ∧ (az_.tmps.getD 0 undef = v) ∧ (az_.tmps.getD 1 undef = (Value.int .i64 ((a : Nat) : Int))) ∧ (az_.tmps.getD 6 undef = (Value.int .i64 (((b - a) : Nat) : Int))) ∧ (az_.tmps.getD 7 undef = (ptr b5 0)) ∧ (az_.tmps.getD 8 undef = (Value.int .u64 ((M13 : Nat) : Int))) ∧ (az_.tmps.getD 9 undef = (Value.int .i64 ((ix : Nat) : Int))) ∧ (dk.size = n) ∧ (a + ((b - a) / 4 * 2) - 1 ≤ ix ∧ ix ≤ a + ((b - a) / 4 * 2) + 2) ∧ (PI a b d dk) ∧ (w.grownBy w' v.ownBlock) ∧ (w14.heap.size ≤ w'.heap.size) ∧ (Bx w' b5 244 [(Value.int .u64 ((xs : Nat) : Int))]) ∧ (Own w' base 46 1 v n (dk.toList.map u16v))) _ hN hd ⟨(a + ((b - a) / 4 * 2) - 1), (b - a), _, rfl, (sl_base hN rfl s0), (sl_base hN rfl s1), (sl_hit hN rfl), (sl_hit hN rfl), (sl_hit hN rfl), (sl_hit hN rfl).trans (congrArg (Value.int .i64) (by omega)), (by first | assumption | (simp only [Array.size_setIfInBounds, swp_sz, siftDown_size]; assumption)), (by omega), (PI.rfl' _ _ _), hb, (Nat.le_refl _), hB7, O⟩ ?_
  rintro _ a17 w17 hN17 hd17 ⟨ix, xs, dk, rfl, s17_0, s17_1, s17_6, s17_7, s17_8, s17_9, hdk, hr1, hpi, hb, zl_w17, hxs, hO18⟩
  have z_w17 := hb.size
  refine seq_any fun K19 hK19 => ?_
  refine seq_any fun K20 hK20 => ?_
  refine one_reg ?_
  refine op_move (ev_base hN17 rfl s17_9) ?_
  refine op_move (ev_base hN17 rfl s17_1) ?_
  refine op_move (ev_base hN17 rfl s17_6) ?_
  refine op_quo (r := ((((b - a) / 4) : Nat) : Int)) (ev_hit hN17 rfl) rfl (by decide) (by rw [IntKind.wrap_i64, Int.tdiv_eq_ediv_of_nonneg (by omega)]; omega) ?_
  refine op_mul (r := ((((b - a) / 4 * 2) : Nat) : Int)) (ev_hit hN17 rfl) rfl (by rw [IntKind.wrap_i64]; omega) ?_
  refine op_add (ev_hit hN17 rfl) (ev_hit hN17 rfl) (add64 (by omega)) ?_
  refine op_add (ev_hit hN17 rfl) rfl (add64 (by omega)) ?_
  refine op_leq (ev_hit hN17 rfl) (ev_hit hN17 rfl) (fun c33 => ?_) (fun c33 => ?_)
  · -- 33T
   refine reg_nil ?_
   refine hK20 _ _ ?_
   refine wp_cond_true (ev_hit hN17 rfl) ?_
   refine wp_skip ?_
   refine hK19 _ _ ?_
   refine seq_any fun K21 hK21 => ?_
   refine wp_block ?_
   refine seq_any fun K22 hK22 => ?_
   refine one_reg ?_
   refine op_fn (vs := [(ptr b5 0)]) ok175 ⟨(ev_base hN17 rfl s17_7), trivial⟩ (xnextW_ret b5 _ _ hxs) ?_
   rintro _ w24 ⟨E25, rx23, rfl, hr23, hs23⟩
   have hxs_old := hxs
   have z_w24 := E25.size
   have hO18 := hO18.keepX hxs_old E25 (by decide)
   have hb := grow_step1 hb E25 (by omega)
   refine op_move (ev_base hN17 rfl s17_8) ?_
   refine op_sub (r := (((M13 - 1) : Nat) : Int)) (ev_hit hN17 rfl) rfl (by rw [show (M13 : Int) - 1 = ((M13 - 1 : Nat) : Int) by omega]; exact wrap_u64 (by omega)) ?_
   refine op_and (r := (((rx23 &&& (M13 - 1)) : Nat) : Int)) (ev_hit hN17 rfl) (ev_hit hN17 rfl) (and_64 (by omega) (by omega)) ?_
   have hand : (rx23 &&& (M13 - 1)) ≤ M13 - 1 := Nat.and_le_right
   refine op_conv (r := (((rx23 &&& (M13 - 1)) : Nat) : Int)) (ev_hit hN17 rfl) us184 Try.underlying3 (by rw [IntKind.wrap_i64]; omega) ?_
   refine op_assign (ev_hit hN17 rfl) ?_
   refine reg_nil ?_
   refine hK22 _ _ ?_
   refine seq_join1 (N := 65) (fun az_ w' => ∃ (ot : Nat), (az_.tmps.getD 0 undef = v) ∧ (az_.tmps.getD 1 undef = (Value.int .i64 ((a : Nat) : Int))) ∧ (az_.tmps.getD 6 undef = (Value.int .i64 (((b - a) : Nat) : Int))) ∧ (az_.tmps.getD 7 undef = (ptr b5 0)) ∧ (az_.tmps.getD 8 undef = (Value.int .u64 ((M13 : Nat) : Int))) ∧ (az_.tmps.getD 9 undef = (Value.int .i64 ((ix : Nat) : Int))) ∧ (az_.tmps.getD 10 undef = (Value.int .i64 ((ot : Nat) : Int))) ∧ (ot < b - a) ∧ (w.grownBy w' v.ownBlock) ∧ (w24.heap.size ≤ w'.heap.size) ∧ (Own w' base 46 1 v n (dk.toList.map u16v)) ∧ (Bx w' b5 244 [(Value.int .u64 ((rx23 : Nat) : Int))])) (fun hJ26 => ?_) ?_
   ·
    refine seq_any fun K27 hK27 => ?_
    refine seq_any fun K28 hK28 => ?_
    refine one_reg ?_
    refine op_move (ev_hit hN17 rfl) ?_
    refine op_move (ev_base hN17 rfl s17_6) ?_
    refine op_geq (ev_hit hN17 rfl) (ev_hit hN17 rfl) (fun c43 => ?_) (fun c43 => ?_)
    · -- 43T
     refine reg_nil ?_
     refine hK28 _ _ ?_
     refine wp_cond_true (ev_hit hN17 rfl) ?_
     refine one_reg ?_
     refine op_move (ev_hit hN17 rfl) ?_
     refine op_move (ev_base hN17 rfl s17_6) ?_
     refine op_sub (ev_hit hN17 rfl) (ev_hit hN17 rfl) (sub64 (by omega)) ?_
     refine op_assign (ev_hit hN17 rfl) ?_
     refine reg_nil ?_
     refine hK27 _ _ ?_
     exact hJ26 _ _ _ hN17 hd17 ⟨((rx23 &&& (M13 - 1)) - (b - a)), (sl_base hN17 rfl s17_0), (sl_base hN17 rfl s17_1), (sl_base hN17 rfl s17_6), (sl_base hN17 rfl s17_7), (sl_base hN17 rfl s17_8), (sl_base hN17 rfl s17_9), (sl_hit hN17 rfl).trans (congrArg (Value.int .i64) (by omega)), (by omega), hb, (by omega), hO18, hs23⟩
    · -- 43F
     refine reg_nil ?_
     refine hK28 _ _ ?_
     refine wp_cond_false (ev_hit hN17 rfl) ?_
     refine wp_skip ?_
     refine hK27 _ _ ?_
     exact hJ26 _ _ _ hN17 hd17 ⟨(rx23 &&& (M13 - 1)), (sl_base hN17 rfl s17_0), (sl_base hN17 rfl s17_1), (sl_base hN17 rfl s17_6), (sl_base hN17 rfl s17_7), (sl_base hN17 rfl s17_8), (sl_base hN17 rfl s17_9), (sl_hit hN17 rfl).trans (congrArg (Value.int .i64) (by omega)), (by omega), hb, (by omega), hO18, hs23⟩
   ·
    rintro a26 w26 hN26 hd26 ⟨ot, s26_0, s26_1, s26_6, s26_7, s26_8, s26_9, s26_10, hot, hb, zl_w26, hO18, hs23⟩
    have z_w26 := hb.size
    refine reg_mid (e := 46) (sz := 1) (base := base) (n := n) (v := v) (Φ := phiL [(fun uz _ => uz = v), (fun uz _ => uz = (Value.int .i64 ((ix : Nat) : Int))), (fun uz _ => uz = v), (fun uz _ => uz = (Value.int .i64 ((a : Nat) : Int))), (fun uz _ => uz = (Value.int .i64 ((ot : Nat) : Int))), (fun uz _ => uz = (Value.int .i64 (((a : Nat) : Int) + ((ot : Nat) : Int)))), (fun uz _ => uz = v), (fun uz _ => uz = (Value.int .i64 ((a : Nat) : Int))), (fun uz _ => uz = (Value.int .i64 ((ot : Nat) : Int))), (fun uz _ => uz = (Value.int .i64 (((a : Nat) : Int) + ((ot : Nat) : Int)))), (fun uz _ => ∃ bz oz, uz = ptr bz oz ∧ AtV v (a + ot) bz oz), (fun uz _ => uz = (Value.int .u16 (dk[(a + ot)]!.toNat : Int))), (fun uz _ => uz = v), (fun uz _ => uz = (Value.int .i64 ((ix : Nat) : Int))), (fun uz _ => ∃ bz oz, uz = ptr bz oz ∧ AtV v ix bz oz), (fun uz _ => uz = (Value.int .u16 (dk[ix]!.toNat : Int))), (fun uz _ => ∃ bz oz, uz = ptr bz oz ∧ AtV v ix bz oz), (fun _ _ => True), (fun uz _ => ∃ bz oz, uz = ptr bz oz ∧ AtV v (a + ot) bz oz), (fun _ _ => True)]) [17, 19] [(dk.toList.map u16v), ((dk.setIfInBounds ix dk[(a + ot)]!).toList.map u16v), (((dk.setIfInBounds ix dk[(a + ot)]!).setIfInBounds (a + ot) dk[ix]!).toList.map u16v)] mixed (by kernel_rfl) (by kernel_rfl) (by kernel_rfl) (by kernel_rfl) hN26 hO18 (StL.get (StL.eq (StL.eq (StL.eq (StL.eq (StL.eq (StL.eq (StL.eq (StL.eq (StL.eq (StL.eq (StL.at (StL.eq (StL.eq (StL.eq (StL.at (StL.eq (StL.at (StL.cons (fun _ _ _ _ h => h) (StL.at (StL.cons (fun _ _ _ _ h => h) (StL.nil _)))))))))))))))))))))) (ObRs.get (ObRs.cons ?_ (ObRs.cons ?_ (ObRs.cons ?_ (ObRs.cons ?_ (ObRs.cons ?_ (ObRs.cons ?_ (ObRs.cons ?_ (ObRs.cons ?_ (ObRs.cons ?_ (ObRs.cons ?_ (ObRs.cons ?_ (ObRs.cons ?_ (ObRs.cons ?_ (ObRs.cons ?_ (ObRs.cons ?_ (ObRs.cons ?_ (ObRs.cons ?_ (ObRs.pass rfl (ObRs.cons ?_ (ObRs.pass rfl (ObRs.nil)))))))))))))))))))))) (ObWs.get (ObWs.cons ?_ (ObWs.cons ?_ (ObWs.nil)))) ?_
    ·
     intro aA wA cA hNA hRA hckA hOA hbsA hdpA
     have qA_0 := (hbsA 0 rfl).trans (sl_base hN26 rfl s26_0)
     clear hbsA hdpA
     refine op_move (ev_base hNA rfl qA_0) ?_
     exact obR_end rfl rfl (grown_refl _ _)
    ·
     intro aA wA cA hNA hRA hckA hOA hbsA hdpA
     have qA_9 := (hbsA 9 rfl).trans (sl_base hN26 rfl s26_9)
     clear hbsA hdpA
     refine op_move (ev_base hNA rfl qA_9) ?_
     exact obR_end rfl rfl (grown_refl _ _)
    ·
     intro aA wA cA hNA hRA hckA hOA hbsA hdpA
     have qA_0 := (hbsA 0 rfl).trans (sl_base hN26 rfl s26_0)
     clear hbsA hdpA
     refine op_move (ev_base hNA rfl qA_0) ?_
     exact obR_end rfl rfl (grown_refl _ _)
    ·
     intro aA wA cA hNA hRA hckA hOA hbsA hdpA
     have qA_1 := (hbsA 1 rfl).trans (sl_base hN26 rfl s26_1)
     clear hbsA hdpA
     refine op_move (ev_base hNA rfl qA_1) ?_
     exact obR_end rfl rfl (grown_refl _ _)
    ·
     intro aA wA cA hNA hRA hckA hOA hbsA hdpA
     have qA_10 := (hbsA 10 rfl).trans (sl_base hN26 rfl s26_10)
     clear hbsA hdpA
     refine op_move (ev_base hNA rfl qA_10) ?_
     exact obR_end rfl rfl (grown_refl _ _)
    ·
     intro aA wA cA hNA hRA hckA hOA hbsA hdpA
     have qA_50 : Sl aA 50 (Value.int .i64 ((a : Nat) : Int)) := hdpA 3 _ 50 (by kernel_rfl) rfl rfl
     have qA_51 : Sl aA 51 (Value.int .i64 ((ot : Nat) : Int)) := hdpA 4 _ 51 (by kernel_rfl) rfl rfl
     clear hbsA hdpA
     refine op_add (ev_base hNA rfl qA_50) (ev_base hNA rfl qA_51) (add64 (by omega)) ?_
     exact obR_end rfl rfl (grown_refl _ _)
    ·
     intro aA wA cA hNA hRA hckA hOA hbsA hdpA
     have qA_0 := (hbsA 0 rfl).trans (sl_base hN26 rfl s26_0)
     clear hbsA hdpA
     refine op_move (ev_base hNA rfl qA_0) ?_
     exact obR_end rfl rfl (grown_refl _ _)
    ·
     intro aA wA cA hNA hRA hckA hOA hbsA hdpA
     have qA_1 := (hbsA 1 rfl).trans (sl_base hN26 rfl s26_1)
     clear hbsA hdpA
     refine op_move (ev_base hNA rfl qA_1) ?_
     exact obR_end rfl rfl (grown_refl _ _)
    ·
     intro aA wA cA hNA hRA hckA hOA hbsA hdpA
     have qA_10 := (hbsA 10 rfl).trans (sl_base hN26 rfl s26_10)
     clear hbsA hdpA
     refine op_move (ev_base hNA rfl qA_10) ?_
     exact obR_end rfl rfl (grown_refl _ _)
    ·
     intro aA wA cA hNA hRA hckA hOA hbsA hdpA
     have qA_54 : Sl aA 54 (Value.int .i64 ((a : Nat) : Int)) := hdpA 7 _ 54 (by kernel_rfl) rfl rfl
     have qA_55 : Sl aA 55 (Value.int .i64 ((ot : Nat) : Int)) := hdpA 8 _ 55 (by kernel_rfl) rfl rfl
     clear hbsA hdpA
     refine op_add (ev_base hNA rfl qA_54) (ev_base hNA rfl qA_55) (add64 (by omega)) ?_
     exact obR_end rfl rfl (grown_refl _ _)
    ·
     intro aA wA cA hNA hRA hckA hOA hbsA hdpA
     have qA_53 : Sl aA 53 v := hdpA 6 _ 53 (by kernel_rfl) rfl rfl
     have qA_56 : Sl aA 56 (Value.int .i64 (((a : Nat) : Int) + ((ot : Nat) : Int))) := hdpA 9 _ 56 (by kernel_rfl) rfl rfl
     clear hbsA hdpA
     refine op_index_own (i := (a + ot)) slt45 (ev_base hNA rfl qA_53) hOA (ev_base hNA rfl qA_56) (by omega) (by omega) ?_
     intro b_ o_ _ hA_
     exact obR_end rfl ⟨b_, o_, rfl, by simpa using hA_⟩ (grown_refl _ _)
    ·
     intro aA wA cA hNA hRA hckA hOA hbsA hdpA
     obtain ⟨bA_57, oA_57, qA_57, hAA_57⟩ := hdpA 10 _ 57 (by kernel_rfl) rfl rfl
     clear hbsA hdpA
     obtain rfl : cA = 0 := Nat.le_zero.1 (hckA 0 17 rfl (by kernel_rfl))
     have hOA : Own wA base 46 1 v n (dk.toList.map u16v) := hOA
     refine op_load1 (v := (Value.int .u16 (dk[(a + ot)]!.toNat : Int))) one46 (ev_base hNA rfl qA_57) (by have := hOA.cellAt hAA_57 0 _ (el_at (i := (a + ot)) (by first | omega | (simp only [Array.size_setIfInBounds, swp_sz, siftDown_size]; omega))); simpa using this) ?_
     exact obR_end rfl rfl (grown_refl _ _)
    ·
     intro aA wA cA hNA hRA hckA hOA hbsA hdpA
     have qA_0 := (hbsA 0 rfl).trans (sl_base hN26 rfl s26_0)
     clear hbsA hdpA
     refine op_move (ev_base hNA rfl qA_0) ?_
     exact obR_end rfl rfl (grown_refl _ _)
    ·
     intro aA wA cA hNA hRA hckA hOA hbsA hdpA
     have qA_9 := (hbsA 9 rfl).trans (sl_base hN26 rfl s26_9)
     clear hbsA hdpA
     refine op_move (ev_base hNA rfl qA_9) ?_
     exact obR_end rfl rfl (grown_refl _ _)
    ·
     intro aA wA cA hNA hRA hckA hOA hbsA hdpA
     have qA_59 : Sl aA 59 v := hdpA 12 _ 59 (by kernel_rfl) rfl rfl
     have qA_60 : Sl aA 60 (Value.int .i64 ((ix : Nat) : Int)) := hdpA 13 _ 60 (by kernel_rfl) rfl rfl
     clear hbsA hdpA
     refine op_index_own (i := ix) slt45 (ev_base hNA rfl qA_59) hOA (ev_base hNA rfl qA_60) (by omega) (by omega) ?_
     intro b_ o_ _ hA_
     exact obR_end rfl ⟨b_, o_, rfl, by simpa using hA_⟩ (grown_refl _ _)
    ·
     intro aA wA cA hNA hRA hckA hOA hbsA hdpA
     obtain ⟨bA_61, oA_61, qA_61, hAA_61⟩ := hdpA 14 _ 61 (by kernel_rfl) rfl rfl
     clear hbsA hdpA
     obtain rfl : cA = 0 := Nat.le_zero.1 (hckA 0 17 rfl (by kernel_rfl))
     have hOA : Own wA base 46 1 v n (dk.toList.map u16v) := hOA
     refine op_load1 (v := (Value.int .u16 (dk[ix]!.toNat : Int))) one46 (ev_base hNA rfl qA_61) (by have := hOA.cellAt hAA_61 0 _ (el_at (i := ix) (by first | omega | (simp only [Array.size_setIfInBounds, swp_sz, siftDown_size]; omega))); simpa using this) ?_
     exact obR_end rfl rfl (grown_refl _ _)
    ·
     intro aA wA cA hNA hRA hckA hOA hbsA hdpA
     have qA_47 : Sl aA 47 v := hdpA 0 _ 47 (by kernel_rfl) rfl rfl
     have qA_48 : Sl aA 48 (Value.int .i64 ((ix : Nat) : Int)) := hdpA 1 _ 48 (by kernel_rfl) rfl rfl
     clear hbsA hdpA
     refine op_index_own (i := ix) slt45 (ev_base hNA rfl qA_47) hOA (ev_base hNA rfl qA_48) (by omega) (by omega) ?_
     intro b_ o_ _ hA_
     exact obR_end rfl ⟨b_, o_, rfl, by simpa using hA_⟩ (grown_refl _ _)
    ·
     intro aA wA cA hNA hRA hckA hOA hbsA hdpA
     have qA_49 : Sl aA 49 v := hdpA 2 _ 49 (by kernel_rfl) rfl rfl
     have qA_52 : Sl aA 52 (Value.int .i64 (((a : Nat) : Int) + ((ot : Nat) : Int))) := hdpA 5 _ 52 (by kernel_rfl) rfl rfl
     clear hbsA hdpA
     refine op_index_own (i := (a + ot)) slt45 (ev_base hNA rfl qA_49) hOA (ev_base hNA rfl qA_52) (by omega) (by omega) ?_
     intro b_ o_ _ hA_
     exact obR_end rfl ⟨b_, o_, rfl, by simpa using hA_⟩ (grown_refl _ _)
    ·
     intro o_ ho_; obtain rfl := Option.some.inj ho_; intro aA wA hNA hRA hbsA hdpA hOA
     obtain ⟨bA_63, oA_63, qA_63, hAA_63⟩ := hdpA 16 _ 63 (by kernel_rfl) rfl rfl
     have qA_58 : Sl aA 58 (Value.int .u16 (dk[(a + ot)]!.toNat : Int)) := hdpA 11 _ 58 (by kernel_rfl) rfl rfl
     clear hbsA hdpA
     have hOA : Own wA base 46 1 v n (dk.toList.map u16v) := hOA
     refine op_store_own (vs := [(Value.int .u16 (dk[(a + ot)]!.toNat : Int))]) size46 (ev_base hNA rfl qA_63) (ev_base hNA rfl qA_58) rfl rfl rfl hOA hAA_63 (by have := hOA.1; simp at this ⊢; omega) ?_
     intro w_ hO_ E_
     exact obW_end rfl (hO_.cast rfl (set_arr (by first | omega | (simp only [Array.size_setIfInBounds, swp_sz, siftDown_size]; omega)))) E_
    ·
     intro o_ ho_; obtain rfl := Option.some.inj ho_; intro aA wA hNA hRA hbsA hdpA hOA
     obtain ⟨bA_64, oA_64, qA_64, hAA_64⟩ := hdpA 18 _ 64 (by kernel_rfl) rfl rfl
     have qA_62 : Sl aA 62 (Value.int .u16 (dk[ix]!.toNat : Int)) := hdpA 15 _ 62 (by kernel_rfl) rfl rfl
     clear hbsA hdpA
     have hOA : Own wA base 46 1 v n ((dk.setIfInBounds ix dk[(a + ot)]!).toList.map u16v) := hOA
     refine op_store_own (vs := [(Value.int .u16 (dk[ix]!.toNat : Int))]) size46 (ev_base hNA rfl qA_64) (ev_base hNA rfl qA_62) rfl rfl rfl hOA hAA_64 (by have := hOA.1; simp at this ⊢; omega) ?_
     intro w_ hO_ E_
     exact obW_end rfl (hO_.cast rfl (set_arr (by first | omega | (simp only [Array.size_setIfInBounds, swp_sz, siftDown_size]; omega)))) E_
    ·
     intro a29 w29 hN29 hd29 hbs29 hph29 hO29 E29
     have hd29 := hd29.trans hd26
     have s29_0 := (hbs29 0 rfl).trans (sl_base hN26 rfl s26_0)
     have s29_1 := (hbs29 1 rfl).trans (sl_base hN26 rfl s26_1)
     have s29_6 := (hbs29 6 rfl).trans (sl_base hN26 rfl s26_6)
     have s29_7 := (hbs29 7 rfl).trans (sl_base hN26 rfl s26_7)
     have s29_8 := (hbs29 8 rfl).trans (sl_base hN26 rfl s26_8)
     have s29_9 := (hbs29 9 rfl).trans (sl_base hN26 rfl s26_9)
     clear hbs29 hph29
     have hO29 : Own w29 base 46 1 v n (((dk.setIfInBounds ix dk[(a + ot)]!).setIfInBounds (a + ot) dk[ix]!).toList.map u16v) := hO29
     have z_w29 := E29.size
     have hs23 := hs23.keepO hO18 E29 (by decide)
     have hb := grow_stepX hb E29 rfl
     refine hK21 _ _ ?_
     refine one_reg ?_
     refine op_move (ev_base hN29 rfl s29_9) ?_
     refine op_add (ev_hit hN29 rfl) rfl (add64 (by omega)) ?_
     refine op_assign (ev_hit hN29 rfl) ?_
     refine reg_nil ?_
     -- round 15T 33T
     exact loop_next _ hN29 hd29 ⟨(ix + 1), rx23, _, rfl, (sl_base hN29 rfl s29_0), (sl_base hN29 rfl s29_1), (sl_base hN29 rfl s29_6), (sl_base hN29 rfl s29_7), (sl_base hN29 rfl s29_8), (sl_hit hN29 rfl).trans (congrArg (Value.int .i64) (by omega)), (by first | assumption | (simp only [Array.size_setIfInBounds, swp_sz, siftDown_size]; assumption)), (by omega), (hpi.tr (PI.swp (by omega) (by omega) (by omega) (by omega) (by first | omega | (simp only [Array.size_setIfInBounds, swp_sz]; omega)))), hb, (by omega), hs23, hO29⟩ (by omega)
  · -- 33F
   refine reg_nil ?_
   refine hK20 _ _ ?_
   refine wp_cond_false (ev_hit hN17 rfl) ?_
   refine wp_exit (then_exit (then_exit (blk_hit ?_)))
   refine end_ret ?_
   refine ret0 rfl hd17  ⟨_, rfl, ?_⟩
   -- path 15T 33F
   exact ⟨hb, rfl, _, hpi, hO18⟩
 · -- 15F
  refine reg_nil ?_
  refine hK2 _ _ ?_
  refine wp_cond_false (ev_hit hN rfl) ?_
  refine wp_skip ?_
  refine end_ret ?_
  refine ret0 rfl hd  ⟨_, rfl, ?_⟩
  -- path 15F
  exact ⟨hb, rfl, _, PI.rfl' _ _ _, O⟩

end Go.Proofs.Ytmhdbphpmgjpcaa

/- Walks, written by a program: what each function of the translation hands back. -/
namespace Go.Proofs.Ytmhdbphpmgjpcaa
open Go.Gx Go.RowKit
attribute [local irreducible] wpList wpStill Code.wp Calls
open Go.Sort (insertionSort insOuter insInner swp siftDown heapSort heapBuild heapPop scanUp scanDown partition partLoop partitionEqual partEqLoop scanSorted partialIns bitsLen partialInsertionSort shiftDown shiftUp SortedIn reverseRange reverseLoop fixDown fixUp)
def PdqIH (z : Nat) (v : Value) (n base : Nat) : Prop := ∀ (d : Ar) (a b lim : Nat) (w : World), d.size = n → a ≤ b → b ≤ n → lim ≤ 100 → b - a < z → Go.Sort.Below ltT a b d → Own w base 46 1 v n (d.toList.map u16v) → Ret Try.prog 147 #[v, .int .i64 (a : Int), .int .i64 (b : Int), .int .i64 (lim : Int)] w (fun v' w' => w.grownBy w' v.ownBlock ∧ v' = .tuple #[] ∧ ∃ d', PI a b d d' ∧ SortedIn ltT a b d' ∧ Own w' base 46 1 v n (d'.toList.map u16v))

set_option maxHeartbeats 4000000 in
theorem pdqW_step (z : Nat) (v : Value) (n base : Nat) (hn : n ≤ 4000000000000000000) (ih : PdqIH z v n base) (d : Ar) (a b lim : Nat) (w : World) (hd : d.size = n) (hab : a ≤ b) (hbn : b ≤ n) (hlim : lim ≤ 100) (hz : b - a = z) (hB : Go.Sort.Below ltT a b d) (O : Own w base 46 1 v n (d.toList.map u16v)) : Ret Try.prog 147 #[v, (Value.int .i64 ((a : Nat) : Int)), (Value.int .i64 ((b : Nat) : Int)), (Value.int .i64 ((lim : Nat) : Int))] w (fun v' w' => w.grownBy w' v.ownBlock ∧ v' = .tuple #[] ∧ ∃ d', PI a b d d' ∧ SortedIn ltT a b d' ∧ Own w' base 46 1 v n (d'.toList.map u16v)) := by
 have hb := grown_refl w v.ownBlock
 refine enter (N := 134) Try.func147 rfl rfl (by simp) fun a0 hN hd hA => ?_
 have s0 : a0.tmps.getD 0 undef = v := hA 0 (by simp)
 have s1 : a0.tmps.getD 1 undef = (Value.int .i64 ((a : Nat) : Int)) := hA 1 (by simp)
 have s2 : a0.tmps.getD 2 undef = (Value.int .i64 ((b : Nat) : Int)) := hA 2 (by simp)
 have s3 : a0.tmps.getD 3 undef = (Value.int .i64 ((lim : Nat) : Int)) := hA 3 (by simp)
 clear hA
 refine seq_any fun K1 hK1 => ?_
 refine one_reg ?_
 refine op_assign rfl ?_
 refine reg_nil ?_
 refine hK1 _ _ ?_
 refine seq_any fun K2 hK2 => ?_
 refine one_reg ?_
 refine op_assign rfl ?_
 refine reg_nil ?_
 refine hK2 _ _ ?_
 refine wp_block ?_
 refine loop_m (fun mz_ az_ w' => ∃ (x y lm : Nat) (wb wp : Bool) (dk : Ar), mz_ = (y - x) ∧ (az_.tmps.getD 0 undef = v) ∧ (az_.tmps.getD 1 undef = (Value.int .i64 ((x : Nat) : Int))) ∧ (az_.tmps.getD 2 undef = (Value.int .i64 ((y : Nat) : Int))) ∧ (az_.tmps.getD 3 undef = (Value.int .i64 ((lm : Nat) : Int))) ∧ (az_.tmps.getD 8 undef = (Value.bool wb)) ∧ (az_.tmps.getD 9 undef = (Value.bool wp)) ∧ (dk.size = n) ∧ (lm ≤ lim) ∧ (Inv a b x y d dk) ∧ (w.grownBy w' v.ownBlock) ∧ (w.heap.size ≤ w'.heap.size) ∧ (Own w' base 46 1 v n (dk.toList.map u16v))) _ hN hd ⟨a, b, lim, true, true, _, rfl, (sl_base hN rfl s0), (sl_base hN rfl s1).trans (congrArg (Value.int .i64) (by omega)), (sl_base hN rfl s2).trans (congrArg (Value.int .i64) (by omega)), (sl_base hN rfl s3).trans (congrArg (Value.int .i64) (by omega)), (sl_hit hN rfl), (sl_hit hN rfl), (by first | assumption | (simp only [Array.size_setIfInBounds, swp_sz, siftDown_size]; assumption)), Nat.le_refl _, (Inv.start hB hab (by omega)), hb, (Nat.le_refl _), O⟩ ?_
 rintro _ a3 w3 hN3 hd3 ⟨x, y, lm, wb, wp, dk, rfl, s3_0, s3_1, s3_2, s3_3, s3_8, s3_9, hdk, hlm, hinv, hb, zl_w3, hO4⟩
 have z_w3 := hb.size
 refine wp_block ?_
 refine seq_any fun K5 hK5 => ?_
 refine one_reg ?_
 have hrg := hinv.rng
 have hzk := hinv.sz
 refine op_move (ev_base hN3 rfl s3_2) ?_
 refine op_move (ev_base hN3 rfl s3_1) ?_
 refine op_sub (r := (((y - x) : Nat) : Int)) (ev_hit hN3 rfl) (ev_hit hN3 rfl) (by rw [IntKind.wrap_i64]; omega) ?_
 refine op_assign (ev_hit hN3 rfl) ?_
 refine reg_nil ?_
 refine hK5 _ _ ?_
 refine seq_any fun K6 hK6 => ?_
 refine seq_any fun K7 hK7 => ?_
 refine one_reg ?_
 refine op_move (ev_hit hN3 rfl) ?_
 refine op_leq (ev_hit hN3 rfl) rfl (fun c23 => ?_) (fun c23 => ?_)
 · -- 23T
  refine reg_nil ?_
  refine hK7 _ _ ?_
  refine wp_cond_true (ev_hit hN3 rfl) ?_
  refine seq_any fun K8 hK8 => ?_
  refine one_reg ?_
  refine op_move (ev_base hN3 rfl s3_0) ?_
  refine op_move (ev_base hN3 rfl s3_1) ?_
  refine op_move (ev_base hN3 rfl s3_2) ?_
  refine op_fn (vs := [v, (Value.int .i64 ((x : Nat) : Int)), (Value.int .i64 ((y : Nat) : Int))]) ok153 ⟨(ev_hit hN3 rfl), ⟨(ev_hit hN3 rfl), ⟨(ev_hit hN3 rfl), trivial⟩⟩⟩ (insSort_ret dk _ _ _ x y _ (by first | assumption | (simp only [Array.size_setIfInBounds, swp_sz, siftDown_size]; assumption)) (by omega) hO4 (by omega) (by omega)) ?_
  rintro _ w10 ⟨E11, rfl, hO9⟩
  have z_w10 := E11.size
  have hb := grow_stepX hb E11 rfl
  refine reg_nil ?_
  refine hK8 _ _ ?_
  refine wp_ret (then_ret (blk_ret (then_ret (blk_ret ( ?_)))))
  refine ret0 rfl hd3  ⟨_, rfl, ?_⟩
  -- path 23T
  exact ⟨hb, rfl, _, hinv.ins.1, hinv.ins.2, hO9⟩
 · -- 23F
  refine reg_nil ?_
  refine hK7 _ _ ?_
  refine wp_cond_false (ev_hit hN3 rfl) ?_
  refine wp_skip ?_
  refine hK6 _ _ ?_
  refine seq_any fun K12 hK12 => ?_
  refine seq_any fun K13 hK13 => ?_
  refine one_reg ?_
  refine op_move (ev_base hN3 rfl s3_3) ?_
  refine op_eql (ev_hit hN3 rfl) rfl (fun c29 => ?_) (fun c29 => ?_)
  · -- 29T
   refine reg_nil ?_
   refine hK13 _ _ ?_
   refine wp_cond_true (ev_hit hN3 rfl) ?_
   refine seq_any fun K14 hK14 => ?_
   refine one_reg ?_
   refine op_move (ev_base hN3 rfl s3_0) ?_
   refine op_move (ev_base hN3 rfl s3_1) ?_
   refine op_move (ev_base hN3 rfl s3_2) ?_
   refine op_fn (vs := [v, (Value.int .i64 ((x : Nat) : Int)), (Value.int .i64 ((y : Nat) : Int))]) ok154 ⟨(ev_hit hN3 rfl), ⟨(ev_hit hN3 rfl), ⟨(ev_hit hN3 rfl), trivial⟩⟩⟩ (heapW_ret dk _ _ _ x y _ (by first | assumption | (simp only [Array.size_setIfInBounds, swp_sz, siftDown_size]; assumption)) (by omega) hO4 (by omega) (by omega)) ?_
   rintro _ w16 ⟨E17, rfl, hO15⟩
   have z_w16 := E17.size
   have hb := grow_stepX hb E17 rfl
   refine reg_nil ?_
   refine hK14 _ _ ?_
   refine wp_ret (then_ret (blk_ret (then_ret (blk_ret ( ?_)))))
   refine ret0 rfl hd3  ⟨_, rfl, ?_⟩
   -- path 23F 29T
   exact ⟨hb, rfl, _, hinv.heap.1, hinv.heap.2, hO15⟩
  · -- 29F
   refine reg_nil ?_
   refine hK13 _ _ ?_
   refine wp_cond_false (ev_hit hN3 rfl) ?_
   refine wp_skip ?_
   refine hK12 _ _ ?_
   refine seq_join1 (N := 134) (fun az_ w' => ∃ (d1 : Ar) (l1 : Nat), (az_.tmps.getD 0 undef = v) ∧ (az_.tmps.getD 1 undef = (Value.int .i64 ((x : Nat) : Int))) ∧ (az_.tmps.getD 2 undef = (Value.int .i64 ((y : Nat) : Int))) ∧ (az_.tmps.getD 8 undef = (Value.bool wb)) ∧ (az_.tmps.getD 9 undef = (Value.bool wp)) ∧ (az_.tmps.getD 10 undef = (Value.int .i64 (((y - x) : Nat) : Int))) ∧ (az_.tmps.getD 3 undef = (Value.int .i64 ((l1 : Nat) : Int))) ∧ (l1 ≤ lm) ∧ (Inv a b x y d d1) ∧ (d1.size = n) ∧ (w.grownBy w' v.ownBlock) ∧ (w3.heap.size ≤ w'.heap.size) ∧ (Own w' base 46 1 v n (d1.toList.map u16v))) (fun hJ18 => ?_) ?_
   ·
    refine seq_any fun K20 hK20 => ?_
    refine seq_any fun K21 hK21 => ?_
    refine one_reg ?_
    refine op_move (ev_base hN3 rfl s3_8) ?_
    refine op_not (ev_hit hN3 rfl) ?_
    refine reg_nil ?_
    refine hK21 _ _ ?_
    refine wp_cond_split (ev_hit hN3 rfl) (fun c35 => ?_) (fun c35 => ?_)
    · -- 35T
     refine seq_any fun K22 hK22 => ?_
     refine one_reg ?_
     refine op_move (ev_base hN3 rfl s3_0) ?_
     refine op_move (ev_base hN3 rfl s3_1) ?_
     refine op_move (ev_base hN3 rfl s3_2) ?_
     refine op_fn (vs := [v, (Value.int .i64 ((x : Nat) : Int)), (Value.int .i64 ((y : Nat) : Int))]) ok155 ⟨(ev_hit hN3 rfl), ⟨(ev_hit hN3 rfl), ⟨(ev_hit hN3 rfl), trivial⟩⟩⟩ (bpW_ret dk _ _ _ x y _ (by first | assumption | (simp only [Array.size_setIfInBounds, swp_sz, siftDown_size]; assumption)) (by omega) hO4 (by omega) (by omega)) ?_
     rintro _ w24 ⟨E25, rfl, dd23, hpi23, hO23⟩
     have z_w24 := E25.size
     have hb := grow_stepX hb E25 rfl
     have hz23 : dd23.size = n := by first | exact (PI.sz hpi23).trans (by assumption) | (have hq := PI.sz hpi23; simp only [Array.size_setIfInBounds, swp_sz] at hq; omega)
     refine reg_nil ?_
     refine hK22 _ _ ?_
     refine one_reg ?_
     refine op_move (ev_base hN3 rfl s3_3) ?_
     refine op_sub (r := (((lm - 1) : Nat) : Int)) (ev_hit hN3 rfl) rfl (by rw [IntKind.wrap_i64]; omega) ?_
     refine op_assign (ev_hit hN3 rfl) ?_
     refine reg_nil ?_
     refine hK20 _ _ ?_
     exact hJ18 _ _ _ hN3 hd3 ⟨_, (lm - 1), (sl_base hN3 rfl s3_0), (sl_base hN3 rfl s3_1), (sl_base hN3 rfl s3_2), (sl_base hN3 rfl s3_8), (sl_base hN3 rfl s3_9), (sl_hit hN3 rfl), (sl_hit hN3 rfl).trans (congrArg (Value.int .i64) (by omega)), (by omega), (hinv.perm hpi23), (by first | assumption | (simp only [Array.size_setIfInBounds, swp_sz, siftDown_size]; assumption)), hb, (by omega), hO23⟩
    · -- 35F
     refine wp_skip ?_
     refine hK20 _ _ ?_
     exact hJ18 _ _ _ hN3 hd3 ⟨_, lm, (sl_base hN3 rfl s3_0), (sl_base hN3 rfl s3_1), (sl_base hN3 rfl s3_2), (sl_base hN3 rfl s3_8), (sl_base hN3 rfl s3_9), (sl_hit hN3 rfl), (sl_base hN3 rfl s3_3).trans (congrArg (Value.int .i64) (by omega)), (by omega), hinv, (by first | assumption | (simp only [Array.size_setIfInBounds, swp_sz, siftDown_size]; assumption)), hb, (by omega), hO4⟩
   ·
    rintro a18 w18 hN18 hd18 ⟨d1, l1, s18_0, s18_1, s18_2, s18_8, s18_9, s18_10, s18_3, hl1, hi1, hz1, hb, zl_w18, hO19⟩
    have z_w18 := hb.size
    refine seq_any fun K26 hK26 => ?_
    refine one_reg ?_
    refine op_move (ev_base hN18 rfl s18_0) ?_
    refine op_move (ev_base hN18 rfl s18_1) ?_
    refine op_move (ev_base hN18 rfl s18_2) ?_
    refine op_fn (vs := [v, (Value.int .i64 ((x : Nat) : Int)), (Value.int .i64 ((y : Nat) : Int))]) ok156 ⟨(ev_hit hN18 rfl), ⟨(ev_hit hN18 rfl), ⟨(ev_hit hN18 rfl), trivial⟩⟩⟩ (choosePW_ret d1 v _ x y _ (by first | assumption | (simp only [Array.size_setIfInBounds, swp_sz, siftDown_size]; assumption)) (by omega) (hO19.rdw.mono (Nat.zero_le _) (Nat.le_refl _)) (by omega) (by omega)) ?_
    rintro _ w28 ⟨E29, pv27, hn27, rfl, hx27, hy27⟩
    have E29 := grown_of_below E29
    have z_w28 := E29.size
    have hO19 := hO19.keep0 E29
    have hb := grow_step0 hb E29
    refine op_move (ev_hit hN18 rfl) ?_
    refine op_extract (ev_hit hN18 rfl) rfl ?_
    refine op_extract (ev_hit hN18 rfl) rfl ?_
    refine op_assign (ev_hit hN18 rfl) ?_
    refine op_assign (ev_hit hN18 rfl) ?_
    refine reg_nil ?_
    refine hK26 _ _ ?_
    refine seq_join1 (N := 134) (fun az_ w' => ∃ (d2 : Ar) (pv2 : Nat) (hn2 : Int), (az_.tmps.getD 0 undef = v) ∧ (az_.tmps.getD 1 undef = (Value.int .i64 ((x : Nat) : Int))) ∧ (az_.tmps.getD 2 undef = (Value.int .i64 ((y : Nat) : Int))) ∧ (az_.tmps.getD 3 undef = (Value.int .i64 ((l1 : Nat) : Int))) ∧ (az_.tmps.getD 8 undef = (Value.bool wb)) ∧ (az_.tmps.getD 9 undef = (Value.bool wp)) ∧ (az_.tmps.getD 10 undef = (Value.int .i64 (((y - x) : Nat) : Int))) ∧ (az_.tmps.getD 11 undef = (Value.int .i64 ((pv2 : Nat) : Int))) ∧ (az_.tmps.getD 12 undef = (Value.int .i64 hn2)) ∧ (x ≤ pv2 ∧ pv2 < y) ∧ (Inv a b x y d d2) ∧ (d2.size = n) ∧ (w.grownBy w' v.ownBlock) ∧ (w28.heap.size ≤ w'.heap.size) ∧ (Own w' base 46 1 v n (d2.toList.map u16v))) (fun hJ30 => ?_) ?_
    ·
     refine seq_any fun K32 hK32 => ?_
     refine seq_any fun K33 hK33 => ?_
     refine one_reg ?_
     refine op_move (ev_hit hN18 rfl) ?_
     refine op_eql (ev_hit hN18 rfl) rfl (fun c50 => ?_) (fun c50 => ?_)
     · -- 50T
      refine reg_nil ?_
      refine hK33 _ _ ?_
      refine wp_cond_true (ev_hit hN18 rfl) ?_
      refine seq_any fun K34 hK34 => ?_
      refine one_reg ?_
      refine op_move (ev_base hN18 rfl s18_0) ?_
      refine op_move (ev_base hN18 rfl s18_1) ?_
      refine op_move (ev_base hN18 rfl s18_2) ?_
      refine op_fn (vs := [v, (Value.int .i64 ((x : Nat) : Int)), (Value.int .i64 ((y : Nat) : Int))]) ok157 ⟨(ev_hit hN18 rfl), ⟨(ev_hit hN18 rfl), ⟨(ev_hit hN18 rfl), trivial⟩⟩⟩ (revW_ret d1 _ _ _ x y _ (by first | assumption | (simp only [Array.size_setIfInBounds, swp_sz, siftDown_size]; assumption)) (by omega) hO19 (by omega) (by omega)) ?_
      rintro _ w36 ⟨E37, rfl, hO35⟩
      have z_w36 := E37.size
      have hb := grow_stepX hb E37 rfl
      refine reg_nil ?_
      refine hK34 _ _ ?_
      refine seq_any fun K38 hK38 => ?_
      refine one_reg ?_
      refine op_move (ev_base hN18 rfl s18_2) ?_
      refine op_sub (r := (((y - 1) : Nat) : Int)) (ev_hit hN18 rfl) rfl (by rw [IntKind.wrap_i64]; omega) ?_
      refine op_move (ev_hit hN18 rfl) ?_
      refine op_move (ev_base hN18 rfl s18_1) ?_
      refine op_sub (r := (((pv27 - x) : Nat) : Int)) (ev_hit hN18 rfl) (ev_hit hN18 rfl) (by rw [IntKind.wrap_i64]; omega) ?_
      refine op_sub (r := (((y - 1 - (pv27 - x)) : Nat) : Int)) (ev_hit hN18 rfl) (ev_hit hN18 rfl) (by rw [IntKind.wrap_i64]; omega) ?_
      refine op_assign (ev_hit hN18 rfl) ?_
      refine reg_nil ?_
      refine hK38 _ _ ?_
      refine one_reg ?_
      refine op_assign rfl ?_
      refine reg_nil ?_
      refine hK32 _ _ ?_
      exact hJ30 _ _ _ hN18 hd18 ⟨_, (y - 1 - (pv27 - x)), _, (sl_base hN18 rfl s18_0), (sl_base hN18 rfl s18_1), (sl_base hN18 rfl s18_2), (sl_base hN18 rfl s18_3), (sl_base hN18 rfl s18_8), (sl_base hN18 rfl s18_9), (sl_base hN18 rfl s18_10), (sl_hit hN18 rfl).trans (congrArg (Value.int .i64) (by omega)), (sl_hit hN18 rfl), (by omega), hi1.rev, (by rw [Inv.sz (by first | exact hi1.rev | exact hi1)]; assumption), hb, (by omega), hO35⟩
     · -- 50F
      refine reg_nil ?_
      refine hK33 _ _ ?_
      refine wp_cond_false (ev_hit hN18 rfl) ?_
      refine wp_skip ?_
      refine hK32 _ _ ?_
      exact hJ30 _ _ _ hN18 hd18 ⟨_, pv27, _, (sl_base hN18 rfl s18_0), (sl_base hN18 rfl s18_1), (sl_base hN18 rfl s18_2), (sl_base hN18 rfl s18_3), (sl_base hN18 rfl s18_8), (sl_base hN18 rfl s18_9), (sl_base hN18 rfl s18_10), (sl_hit hN18 rfl).trans (congrArg (Value.int .i64) (by omega)), (sl_hit hN18 rfl), (by omega), hi1, (by rw [Inv.sz (by first | exact hi1.rev | exact hi1)]; assumption), hb, (by omega), hO19⟩
    ·
     rintro a30 w30 hN30 hd30 ⟨d2, pv2, hn2, s30_0, s30_1, s30_2, s30_3, s30_8, s30_9, s30_10, s30_11, s30_12, hp2, hi2, hz2, hb, zl_w30, hO31⟩
     have z_w30 := hb.size
     refine seq_join1 (N := 134) (fun az_ w' => ∃ (d3 : Ar), (az_.tmps.getD 0 undef = v) ∧ (az_.tmps.getD 1 undef = (Value.int .i64 ((x : Nat) : Int))) ∧ (az_.tmps.getD 2 undef = (Value.int .i64 ((y : Nat) : Int))) ∧ (az_.tmps.getD 3 undef = (Value.int .i64 ((l1 : Nat) : Int))) ∧ (az_.tmps.getD 8 undef = (Value.bool wb)) ∧ (az_.tmps.getD 9 undef = (Value.bool wp)) ∧ (az_.tmps.getD 10 undef = (Value.int .i64 (((y - x) : Nat) : Int))) ∧ (az_.tmps.getD 11 undef = (Value.int .i64 ((pv2 : Nat) : Int))) ∧ (Inv a b x y d d3) ∧ (d3.size = n) ∧ (w.grownBy w' v.ownBlock) ∧ (w30.heap.size ≤ w'.heap.size) ∧ (Own w' base 46 1 v n (d3.toList.map u16v))) (fun hJ39 => ?_) ?_
     ·
      refine seq_any fun K41 hK41 => ?_
      refine seq_any fun K42 hK42 => ?_
      refine one_reg ?_
      refine op_move (ev_base hN30 rfl s30_8) ?_
      refine op_move (ev_hit hN30 rfl) ?_
      rcases Bool.eq_false_or_eq_true (wb) with g62 | g62
      · -- 62T
       rw [g62]
       refine g_true (j := 1) (dj := 62) (b := true) rfl rfl rfl (ev_hit hN30 rfl) ?_
       refine op_move (ev_base hN30 rfl s30_9) ?_
       refine op_pick_t (ev_hit hN30 rfl) (ev_hit hN30 rfl) ?_
       refine op_move (ev_hit hN30 rfl) ?_
       rcases Bool.eq_false_or_eq_true (wp) with g65 | g65
       · -- 65T
        rw [g65]
        refine g_true (j := 4) (dj := 65) (b := true) rfl rfl rfl (ev_hit hN30 rfl) ?_
        refine op_move (ev_base hN30 rfl s30_12) ?_
        refine g_true (j := 4) (dj := 65) (b := true) rfl rfl rfl (ev_hit hN30 rfl) ?_
        refine op_eql (ev_hit hN30 rfl) rfl (fun c67 => ?_) (fun c67 => ?_)
        · -- 67T
         refine op_pick_t (ev_hit hN30 rfl) (ev_hit hN30 rfl) ?_
         refine reg_nil ?_
         refine hK42 _ _ ?_
         refine wp_cond_true (ev_hit hN30 rfl) ?_
         refine seq_any fun K43 hK43 => ?_
         refine one_reg ?_
         refine op_move (ev_base hN30 rfl s30_0) ?_
         refine op_move (ev_base hN30 rfl s30_1) ?_
         refine op_move (ev_base hN30 rfl s30_2) ?_
         refine op_fn (vs := [v, (Value.int .i64 ((x : Nat) : Int)), (Value.int .i64 ((y : Nat) : Int))]) ok158 ⟨(ev_hit hN30 rfl), ⟨(ev_hit hN30 rfl), ⟨(ev_hit hN30 rfl), trivial⟩⟩⟩ (partialW_ret d2 _ _ _ x y _ (by first | assumption | (simp only [Array.size_setIfInBounds, swp_sz, siftDown_size]; assumption)) (by omega) hO31 (by omega) (by omega)) ?_
         rintro _ w45 ⟨E46, rfl, hO44⟩
         have z_w45 := E46.size
         have hb := grow_stepX hb E46 rfl
         rcases Bool.eq_false_or_eq_true ((partialInsertionSort ltT d2 x y).2) with c72 | c72
         · -- 72T
          rw [c72]
          refine reg_nil ?_
          refine hK43 _ _ ?_
          refine wp_cond_true (ev_hit hN30 rfl) ?_
          refine wp_ret (then_ret (blk_ret (then_ret (blk_ret ( ?_)))))
          refine ret0 rfl hd30  ⟨_, rfl, ?_⟩
          -- path 23F 29F 62T 65T 67T 72T
          exact ⟨hb, rfl, _, ((hi2.pins (by omega)).2 (by first | assumption | simpa using c72)).1, ((hi2.pins (by omega)).2 (by first | assumption | simpa using c72)).2, hO44⟩
         · -- 72F
          rw [c72]
          refine reg_nil ?_
          refine hK43 _ _ ?_
          refine wp_cond_false (ev_hit hN30 rfl) ?_
          refine wp_skip ?_
          refine hK41 _ _ ?_
          exact hJ39 _ _ _ hN30 hd30 ⟨_, (sl_base hN30 rfl s30_0), (sl_base hN30 rfl s30_1), (sl_base hN30 rfl s30_2), (sl_base hN30 rfl s30_3), (sl_base hN30 rfl s30_8), (sl_base hN30 rfl s30_9), (sl_base hN30 rfl s30_10), (sl_base hN30 rfl s30_11), (hi2.pins (by omega)).1, (by rw [Inv.sz (by first | exact (hi2.pins (by omega)).1 | exact hi2)]; assumption), hb, (by omega), hO44⟩
        · -- 67F
         refine op_pick_t (ev_hit hN30 rfl) (ev_hit hN30 rfl) ?_
         refine reg_nil ?_
         refine hK42 _ _ ?_
         refine wp_cond_false (ev_hit hN30 rfl) ?_
         refine wp_skip ?_
         refine hK41 _ _ ?_
         exact hJ39 _ _ _ hN30 hd30 ⟨_, (sl_base hN30 rfl s30_0), (sl_base hN30 rfl s30_1), (sl_base hN30 rfl s30_2), (sl_base hN30 rfl s30_3), (sl_base hN30 rfl s30_8), (sl_base hN30 rfl s30_9), (sl_base hN30 rfl s30_10), (sl_base hN30 rfl s30_11), hi2, (by rw [Inv.sz (by first | exact (hi2.pins (by omega)).1 | exact hi2)]; assumption), hb, (by omega), hO31⟩
       · -- 65F
        rw [g65]
        refine g_false (j := 4) (dj := 65) (b := true) rfl rfl rfl (ev_hit hN30 rfl) rfl rfl ?_
        refine g_false (j := 4) (dj := 65) (b := true) rfl rfl rfl (ev_hit hN30 rfl) rfl rfl ?_
        refine op_pick_f (ev_hit hN30 rfl) rfl ?_
        refine reg_nil ?_
        refine hK42 _ _ ?_
        refine wp_cond_false (ev_hit hN30 rfl) ?_
        refine wp_skip ?_
        refine hK41 _ _ ?_
        exact hJ39 _ _ _ hN30 hd30 ⟨_, (sl_base hN30 rfl s30_0), (sl_base hN30 rfl s30_1), (sl_base hN30 rfl s30_2), (sl_base hN30 rfl s30_3), (sl_base hN30 rfl s30_8), (sl_base hN30 rfl s30_9), (sl_base hN30 rfl s30_10), (sl_base hN30 rfl s30_11), hi2, (by rw [Inv.sz (by first | exact (hi2.pins (by omega)).1 | exact hi2)]; assumption), hb, (by omega), hO31⟩
      · -- 62F
       rw [g62]
       refine g_false (j := 1) (dj := 62) (b := true) rfl rfl rfl (ev_hit hN30 rfl) rfl rfl ?_
       refine op_pick_f (ev_hit hN30 rfl) rfl ?_
       refine op_move (ev_hit hN30 rfl) ?_
       refine g_false (j := 4) (dj := 65) (b := true) rfl rfl rfl (ev_hit hN30 rfl) rfl rfl ?_
       refine g_false (j := 4) (dj := 65) (b := true) rfl rfl rfl (ev_hit hN30 rfl) rfl rfl ?_
       refine op_pick_f (ev_hit hN30 rfl) rfl ?_
       refine reg_nil ?_
       refine hK42 _ _ ?_
       refine wp_cond_false (ev_hit hN30 rfl) ?_
       refine wp_skip ?_
       refine hK41 _ _ ?_
       exact hJ39 _ _ _ hN30 hd30 ⟨_, (sl_base hN30 rfl s30_0), (sl_base hN30 rfl s30_1), (sl_base hN30 rfl s30_2), (sl_base hN30 rfl s30_3), (sl_base hN30 rfl s30_8), (sl_base hN30 rfl s30_9), (sl_base hN30 rfl s30_10), (sl_base hN30 rfl s30_11), hi2, (by rw [Inv.sz (by first | exact (hi2.pins (by omega)).1 | exact hi2)]; assumption), hb, (by omega), hO31⟩
     ·
      rintro a39 w39 hN39 hd39 ⟨d3, s39_0, s39_1, s39_2, s39_3, s39_8, s39_9, s39_10, s39_11, hi3, hz3, hb, zl_w39, hO40⟩
      have z_w39 := hb.size
      refine seq_join1 (N := 134) (fun az_ w' => (az_.tmps.getD 0 undef = v) ∧ (az_.tmps.getD 2 undef = (Value.int .i64 ((y : Nat) : Int))) ∧ (az_.tmps.getD 3 undef = (Value.int .i64 ((l1 : Nat) : Int))) ∧ (az_.tmps.getD 8 undef = (Value.bool wb)) ∧ (az_.tmps.getD 9 undef = (Value.bool wp)) ∧ (az_.tmps.getD 10 undef = (Value.int .i64 (((y - x) : Nat) : Int))) ∧ (az_.tmps.getD 11 undef = (Value.int .i64 ((pv2 : Nat) : Int))) ∧ (az_.tmps.getD 1 undef = (Value.int .i64 ((x : Nat) : Int))) ∧ (w.grownBy w' v.ownBlock) ∧ (w39.heap.size ≤ w'.heap.size) ∧ (Own w' base 46 1 v n (d3.toList.map u16v))) (fun hJ47 => ?_) ?_
      ·
       refine seq_any fun K48 hK48 => ?_
       refine seq_any fun K49 hK49 => ?_
       refine reg_still mixed (by kernel_rfl) ?_
       intro w51 E50
       have z_w51 := E50.size
       have hO40 := hO40.keep0 E50
       have hb := grow_step0 hb E50
       refine st_step rfl (fun _ h9 => op_move (ev_base hN39 rfl s39_1) h9) ?_
       by_cases g74 : 0 < ((x : Nat) : Int)
       · -- 74T
        refine st_step rfl (fun _ h9 => op_cmp (b := true) (ev_hit hN39 rfl) rfl (b_gtr (decide_eq_true g74)) h9) ?_
        refine st_step rfl (fun _ h9 => op_move (ev_hit hN39 rfl) h9) ?_
        refine st_g_true (j := 2) (dj := 75) (b := true) rfl rfl rfl (ev_hit hN39 rfl) ?_
        refine st_step rfl (fun _ h9 => op_move (ev_base hN39 rfl s39_0) h9) ?_
        refine st_g_true (j := 2) (dj := 75) (b := true) rfl rfl rfl (ev_hit hN39 rfl) ?_
        refine st_step rfl (fun _ h9 => op_move (ev_base hN39 rfl s39_1) h9) ?_
        refine st_g_true (j := 2) (dj := 75) (b := true) rfl rfl rfl (ev_hit hN39 rfl) ?_
        refine st_step rfl (fun _ h9 => op_sub (r := (((x - 1) : Nat) : Int)) (ev_hit hN39 rfl) rfl (by rw [IntKind.wrap_i64]; omega) h9) ?_
        refine st_g_true (j := 2) (dj := 75) (b := true) rfl rfl rfl (ev_hit hN39 rfl) ?_
        refine st_index_rd slt45 (ev_hit hN39 rfl) hO40.rdw (ev_hit hN39 rfl) (by omega) (by omega) ?_
        intro b52 o53 h0b52 h1b52 hc54
        refine st_g_true (j := 2) (dj := 75) (b := true) rfl rfl rfl (ev_hit hN39 rfl) ?_
        refine st_step rfl (fun _ h9 => op_load1 (v := (Value.int .u16 (d3[(x - 1)]!.toNat : Int))) one46 (ev_hit hN39 rfl) (by have := hc54 0 (Value.int .u16 (d3[(x - 1)]!.toNat : Int)) (by decide) (el_arr (i := (x - 1)) (by omega) (by first | omega | (simp only [Array.size_setIfInBounds, swp_sz, siftDown_size]; omega))); simpa using this) h9) ?_
        refine st_g_true (j := 2) (dj := 75) (b := true) rfl rfl rfl (ev_hit hN39 rfl) ?_
        refine st_step rfl (fun _ h9 => op_move (ev_base hN39 rfl s39_0) h9) ?_
        refine st_g_true (j := 2) (dj := 75) (b := true) rfl rfl rfl (ev_hit hN39 rfl) ?_
        refine st_step rfl (fun _ h9 => op_move (ev_base hN39 rfl s39_11) h9) ?_
        refine st_g_true (j := 2) (dj := 75) (b := true) rfl rfl rfl (ev_hit hN39 rfl) ?_
        refine st_index_rd slt45 (ev_hit hN39 rfl) hO40.rdw (ev_hit hN39 rfl) (by omega) (by omega) ?_
        intro b55 o56 h0b55 h1b55 hc57
        refine st_g_true (j := 2) (dj := 75) (b := true) rfl rfl rfl (ev_hit hN39 rfl) ?_
        refine st_step rfl (fun _ h9 => op_load1 (v := (Value.int .u16 (d3[pv2]!.toNat : Int))) one46 (ev_hit hN39 rfl) (by have := hc57 0 (Value.int .u16 (d3[pv2]!.toNat : Int)) (by decide) (el_arr (i := pv2) (by omega) (by first | omega | (simp only [Array.size_setIfInBounds, swp_sz, siftDown_size]; omega))); simpa using this) h9) ?_
        refine st_g_true (j := 2) (dj := 75) (b := true) rfl rfl rfl (ev_hit hN39 rfl) ?_
        refine st_fn (vs := [(Value.int .u16 (d3[(x - 1)]!.toNat : Int)), (Value.int .u16 (d3[pv2]!.toNat : Int))]) ok159 (⟨(ev_hit hN39 rfl), ⟨(ev_hit hN39 rfl), trivial⟩⟩) (Less16_ret d3[(x - 1)]! d3[pv2]! _) ?_
        refine st_g_true (j := 2) (dj := 75) (b := true) rfl rfl rfl (ev_hit hN39 rfl) ?_
        refine st_step rfl (fun _ h9 => op_not (ev_hit hN39 rfl) h9) ?_
        refine st_step rfl (fun _ h9 => op_pick_t (ev_hit hN39 rfl) (ev_hit hN39 rfl) h9) ?_
        refine st_nil ?_
        refine hK49 _ _ ?_
        refine wp_cond_split (ev_hit hN39 rfl) (fun c87 => ?_) (fun c87 => ?_)
        · -- 87T
         refine seq_any fun K58 hK58 => ?_
         refine one_reg ?_
         have heq5 := hi3.equal hp2.1 hp2.2 (by omega) (not_t c87)
         refine op_move (ev_base hN39 rfl s39_0) ?_
         refine op_move (ev_base hN39 rfl s39_1) ?_
         refine op_move (ev_base hN39 rfl s39_2) ?_
         refine op_move (ev_base hN39 rfl s39_11) ?_
         refine op_fn (vs := [v, (Value.int .i64 ((x : Nat) : Int)), (Value.int .i64 ((y : Nat) : Int)), (Value.int .i64 ((pv2 : Nat) : Int))]) ok160 ⟨(ev_hit hN39 rfl), ⟨(ev_hit hN39 rfl), ⟨(ev_hit hN39 rfl), ⟨(ev_hit hN39 rfl), trivial⟩⟩⟩⟩ (partEqW_ret d3 _ _ _ x y pv2 _ (by first | assumption | (simp only [Array.size_setIfInBounds, swp_sz, siftDown_size]; assumption)) (by omega) hO40 (by omega) (by omega) (by omega)) ?_
         rintro _ w61 ⟨E62, rfl, hO60⟩
         have z_w61 := E62.size
         have hb := grow_stepX hb E62 rfl
         refine op_assign (ev_hit hN39 rfl) ?_
         refine reg_nil ?_
         refine hK58 _ _ ?_
         refine seq_any fun K63 hK63 => ?_
         refine one_reg ?_
         refine op_move (ev_hit hN39 rfl) ?_
         refine op_assign (ev_hit hN39 rfl) ?_
         refine reg_nil ?_
         refine hK63 _ _ ?_
         refine wp_exit (then_exit (blk_hit ?_))
         -- round 23F 29F 74T 87T
         have hinv5 := heq5.2
         have hz5 : (partitionEqual ltT d3 x y pv2).2.size = n := by rw [Inv.sz hinv5]; assumption
         exact loop_next _ hN39 hd39 ⟨(partitionEqual ltT d3 x y pv2).1, y, l1, wb, wp, _, rfl, (sl_base hN39 rfl s39_0), (sl_hit hN39 rfl).trans (congrArg (Value.int .i64) (by omega)), (sl_base hN39 rfl s39_2).trans (congrArg (Value.int .i64) (by omega)), (sl_base hN39 rfl s39_3).trans (congrArg (Value.int .i64) (by omega)), (sl_base hN39 rfl s39_8), (sl_base hN39 rfl s39_9), (by first | assumption | (simp only [Array.size_setIfInBounds, swp_sz, siftDown_size]; assumption)), (by omega), hinv5, hb, (by omega), hO60⟩ (by omega)
        · -- 87F
         refine wp_skip ?_
         refine hK48 _ _ ?_
         exact hJ47 _ _ _ hN39 hd39 ⟨(sl_base hN39 rfl s39_0), (sl_base hN39 rfl s39_2), (sl_base hN39 rfl s39_3), (sl_base hN39 rfl s39_8), (sl_base hN39 rfl s39_9), (sl_base hN39 rfl s39_10), (sl_base hN39 rfl s39_11), (sl_base hN39 rfl s39_1), hb, (by omega), hO40⟩
       · -- 74F
        refine st_step rfl (fun _ h9 => op_cmp (b := false) (ev_hit hN39 rfl) rfl (b_gtr (decide_eq_false g74)) h9) ?_
        refine st_step rfl (fun _ h9 => op_move (ev_hit hN39 rfl) h9) ?_
        refine st_g_false (j := 2) (dj := 75) (b := true) rfl rfl rfl (ev_hit hN39 rfl) rfl rfl ?_
        refine st_g_false (j := 2) (dj := 75) (b := true) rfl rfl rfl (ev_hit hN39 rfl) rfl rfl ?_
        refine st_g_false (j := 2) (dj := 75) (b := true) rfl rfl rfl (ev_hit hN39 rfl) rfl rfl ?_
        refine st_g_false (j := 2) (dj := 75) (b := true) rfl rfl rfl (ev_hit hN39 rfl) rfl rfl ?_
        refine st_g_false (j := 2) (dj := 75) (b := true) rfl rfl rfl (ev_hit hN39 rfl) rfl rfl ?_
        refine st_g_false (j := 2) (dj := 75) (b := true) rfl rfl rfl (ev_hit hN39 rfl) rfl rfl ?_
        refine st_g_false (j := 2) (dj := 75) (b := true) rfl rfl rfl (ev_hit hN39 rfl) rfl rfl ?_
        refine st_g_false (j := 2) (dj := 75) (b := true) rfl rfl rfl (ev_hit hN39 rfl) rfl rfl ?_
        refine st_g_false (j := 2) (dj := 75) (b := true) rfl rfl rfl (ev_hit hN39 rfl) rfl rfl ?_
        refine st_g_false (j := 2) (dj := 75) (b := true) rfl rfl rfl (ev_hit hN39 rfl) rfl rfl ?_
        refine st_g_false (j := 2) (dj := 75) (b := true) rfl rfl rfl (ev_hit hN39 rfl) rfl rfl ?_
        refine st_step rfl (fun _ h9 => op_pick_f (ev_hit hN39 rfl) rfl h9) ?_
        refine st_nil ?_
        refine hK49 _ _ ?_
        refine wp_cond_false (ev_hit hN39 rfl) ?_
        refine wp_skip ?_
        refine hK48 _ _ ?_
        exact hJ47 _ _ _ hN39 hd39 ⟨(sl_base hN39 rfl s39_0), (sl_base hN39 rfl s39_2), (sl_base hN39 rfl s39_3), (sl_base hN39 rfl s39_8), (sl_base hN39 rfl s39_9), (sl_base hN39 rfl s39_10), (sl_base hN39 rfl s39_11), (sl_base hN39 rfl s39_1), hb, (by omega), hO40⟩
      ·
       rintro a47 w47 hN47 hd47 ⟨s47_0, s47_2, s47_3, s47_8, s47_9, s47_10, s47_11, s47_1, hb, zl_w47, hO40⟩
       have z_w47 := hb.size
       refine seq_any fun K64 hK64 => ?_
       refine one_reg ?_
       have hpt := hi3.part hp2.1 hp2.2
       refine op_move (ev_base hN47 rfl s47_0) ?_
       refine op_move (ev_base hN47 rfl s47_1) ?_
       refine op_move (ev_base hN47 rfl s47_2) ?_
       refine op_move (ev_base hN47 rfl s47_11) ?_
       refine op_fn (vs := [v, (Value.int .i64 ((x : Nat) : Int)), (Value.int .i64 ((y : Nat) : Int)), (Value.int .i64 ((pv2 : Nat) : Int))]) ok161 ⟨(ev_hit hN47 rfl), ⟨(ev_hit hN47 rfl), ⟨(ev_hit hN47 rfl), ⟨(ev_hit hN47 rfl), trivial⟩⟩⟩⟩ (partW_ret d3 _ _ _ x y pv2 _ (by first | assumption | (simp only [Array.size_setIfInBounds, swp_sz, siftDown_size]; assumption)) (by omega) hO40 (by omega) (by omega) (by omega)) ?_
       rintro _ w66 ⟨E67, rfl, hO65⟩
       have z_w66 := E67.size
       have hb := grow_stepX hb E67 rfl
       refine op_move (ev_hit hN47 rfl) ?_
       refine op_extract (ev_hit hN47 rfl) rfl ?_
       refine op_extract (ev_hit hN47 rfl) rfl ?_
       refine op_assign (ev_hit hN47 rfl) ?_
       refine op_assign (ev_hit hN47 rfl) ?_
       refine reg_nil ?_
       refine hK64 _ _ ?_
       refine seq_any fun K68 hK68 => ?_
       refine one_reg ?_
       refine op_move (ev_hit hN47 rfl) ?_
       refine op_assign (ev_hit hN47 rfl) ?_
       refine reg_nil ?_
       refine hK68 _ _ ?_
       refine seq_any fun K69 hK69 => ?_
       refine one_reg ?_
       refine op_move (ev_hit hN47 rfl) ?_
       refine op_move (ev_base hN47 rfl s47_1) ?_
       refine op_sub (r := ((((partition ltT d3 x y pv2).1 - x) : Nat) : Int)) (ev_hit hN47 rfl) (ev_hit hN47 rfl) (by rw [IntKind.wrap_i64]; omega) ?_
       refine op_move (ev_base hN47 rfl s47_2) ?_
       refine op_move (ev_hit hN47 rfl) ?_
       refine op_sub (r := (((y - (partition ltT d3 x y pv2).1) : Nat) : Int)) (ev_hit hN47 rfl) (ev_hit hN47 rfl) (by rw [IntKind.wrap_i64]; omega) ?_
       refine op_assign (ev_hit hN47 rfl) ?_
       refine op_assign (ev_hit hN47 rfl) ?_
       refine reg_nil ?_
       refine hK69 _ _ ?_
       refine seq_any fun K70 hK70 => ?_
       refine one_reg ?_
       refine op_move (ev_base hN47 rfl s47_10) ?_
       refine op_quo (r := ((((y - x) / 8) : Nat) : Int)) (ev_hit hN47 rfl) rfl (by decide) (by rw [IntKind.wrap_i64, Int.tdiv_eq_ediv_of_nonneg (by omega)]; omega) ?_
       refine op_assign (ev_hit hN47 rfl) ?_
       refine reg_nil ?_
       refine hK70 _ _ ?_
       refine seq_any fun K71 hK71 => ?_
       refine one_reg ?_
       refine op_move (ev_hit hN47 rfl) ?_
       refine op_move (ev_hit hN47 rfl) ?_
       refine op_lss (ev_hit hN47 rfl) (ev_hit hN47 rfl) (fun c113 => ?_) (fun c113 => ?_)
       · -- 113T
        refine reg_nil ?_
        refine hK71 _ _ ?_
        refine wp_cond_true (ev_hit hN47 rfl) ?_
        refine seq_any fun K72 hK72 => ?_
        refine one_reg ?_
        refine op_move (ev_hit hN47 rfl) ?_
        refine op_move (ev_hit hN47 rfl) ?_
        refine op_geq (ev_hit hN47 rfl) (ev_hit hN47 rfl) (fun c116 => ?_) (fun c116 => ?_)
        · -- 116T
         refine op_assign (ev_hit hN47 rfl) ?_
         refine reg_nil ?_
         refine hK72 _ _ ?_
         refine seq_any fun K73 hK73 => ?_
         refine one_reg ?_
         have hbl := hpt.2.2.2.1
         have hmz : (partition ltT d3 x y pv2).1 - x < z := by omega
         refine op_move (ev_base hN47 rfl s47_0) ?_
         refine op_move (ev_base hN47 rfl s47_1) ?_
         refine op_move (ev_hit hN47 rfl) ?_
         refine op_move (ev_base hN47 rfl s47_3) ?_
         refine op_fn (vs := [v, (Value.int .i64 ((x : Nat) : Int)), (Value.int .i64 (((partition ltT d3 x y pv2).1 : Nat) : Int)), (Value.int .i64 ((l1 : Nat) : Int))]) ok147 ⟨(ev_hit hN47 rfl), ⟨(ev_hit hN47 rfl), ⟨(ev_hit hN47 rfl), ⟨(ev_hit hN47 rfl), trivial⟩⟩⟩⟩ (ih (partition ltT d3 x y pv2).2.2 x ((partition ltT d3 x y pv2).1) l1 _ (hpt.2.2.1.trans hz3) (by omega) (by omega) (by omega) (by omega) hbl hO65) ?_
         rintro _ w75 ⟨E76, rfl, dd74, hpi74, hso74, hO74⟩
         have z_w75 := E76.size
         have hb := grow_stepX hb E76 rfl
         refine reg_nil ?_
         refine hK73 _ _ ?_
         refine one_reg ?_
         refine op_move (ev_hit hN47 rfl) ?_
         refine op_add (r := ((((partition ltT d3 x y pv2).1 + 1) : Nat) : Int)) (ev_hit hN47 rfl) rfl (by rw [IntKind.wrap_i64]; omega) ?_
         refine op_assign (ev_hit hN47 rfl) ?_
         refine reg_nil ?_
         refine blk_normal ?_
         -- round 23F 29F 113T 116T
         have hinv5 := hpt.2.2.2.2.2.1 _ hpi74 hso74
         have hz5 : dd74.size = n := by rw [Inv.sz hinv5]; assumption
         exact loop_next _ hN47 hd47 ⟨((partition ltT d3 x y pv2).1 + 1), y, l1, true, (partition ltT d3 x y pv2).2.1, _, rfl, (sl_base hN47 rfl s47_0), (sl_hit hN47 rfl).trans (congrArg (Value.int .i64) (by omega)), (sl_base hN47 rfl s47_2).trans (congrArg (Value.int .i64) (by omega)), (sl_base hN47 rfl s47_3).trans (congrArg (Value.int .i64) (by omega)), (sl_hit hN47 rfl), (sl_hit hN47 rfl), (by first | assumption | (simp only [Array.size_setIfInBounds, swp_sz, siftDown_size]; assumption)), (by omega), hinv5, hb, (by omega), hO74⟩ (by omega)
        · -- 116F
         refine op_assign (ev_hit hN47 rfl) ?_
         refine reg_nil ?_
         refine hK72 _ _ ?_
         refine seq_any fun K77 hK77 => ?_
         refine one_reg ?_
         have hbl := hpt.2.2.2.1
         have hmz : (partition ltT d3 x y pv2).1 - x < z := by omega
         refine op_move (ev_base hN47 rfl s47_0) ?_
         refine op_move (ev_base hN47 rfl s47_1) ?_
         refine op_move (ev_hit hN47 rfl) ?_
         refine op_move (ev_base hN47 rfl s47_3) ?_
         refine op_fn (vs := [v, (Value.int .i64 ((x : Nat) : Int)), (Value.int .i64 (((partition ltT d3 x y pv2).1 : Nat) : Int)), (Value.int .i64 ((l1 : Nat) : Int))]) ok147 ⟨(ev_hit hN47 rfl), ⟨(ev_hit hN47 rfl), ⟨(ev_hit hN47 rfl), ⟨(ev_hit hN47 rfl), trivial⟩⟩⟩⟩ (ih (partition ltT d3 x y pv2).2.2 x ((partition ltT d3 x y pv2).1) l1 _ (hpt.2.2.1.trans hz3) (by omega) (by omega) (by omega) (by omega) hbl hO65) ?_
         rintro _ w79 ⟨E80, rfl, dd78, hpi78, hso78, hO78⟩
         have z_w79 := E80.size
         have hb := grow_stepX hb E80 rfl
         refine reg_nil ?_
         refine hK77 _ _ ?_
         refine one_reg ?_
         refine op_move (ev_hit hN47 rfl) ?_
         refine op_add (r := ((((partition ltT d3 x y pv2).1 + 1) : Nat) : Int)) (ev_hit hN47 rfl) rfl (by rw [IntKind.wrap_i64]; omega) ?_
         refine op_assign (ev_hit hN47 rfl) ?_
         refine reg_nil ?_
         refine blk_normal ?_
         -- round 23F 29F 113T 116F
         have hinv5 := hpt.2.2.2.2.2.1 _ hpi78 hso78
         have hz5 : dd78.size = n := by rw [Inv.sz hinv5]; assumption
         exact loop_next _ hN47 hd47 ⟨((partition ltT d3 x y pv2).1 + 1), y, l1, false, (partition ltT d3 x y pv2).2.1, _, rfl, (sl_base hN47 rfl s47_0), (sl_hit hN47 rfl).trans (congrArg (Value.int .i64) (by omega)), (sl_base hN47 rfl s47_2).trans (congrArg (Value.int .i64) (by omega)), (sl_base hN47 rfl s47_3).trans (congrArg (Value.int .i64) (by omega)), (sl_hit hN47 rfl), (sl_hit hN47 rfl), (by first | assumption | (simp only [Array.size_setIfInBounds, swp_sz, siftDown_size]; assumption)), (by omega), hinv5, hb, (by omega), hO78⟩ (by omega)
       · -- 113F
        refine reg_nil ?_
        refine hK71 _ _ ?_
        refine wp_cond_false (ev_hit hN47 rfl) ?_
        refine seq_any fun K81 hK81 => ?_
        refine one_reg ?_
        refine op_move (ev_hit hN47 rfl) ?_
        refine op_move (ev_hit hN47 rfl) ?_
        refine op_geq (ev_hit hN47 rfl) (ev_hit hN47 rfl) (fun c126 => ?_) (fun c126 => ?_)
        · -- 126T
         refine op_assign (ev_hit hN47 rfl) ?_
         refine reg_nil ?_
         refine hK81 _ _ ?_
         refine seq_any fun K82 hK82 => ?_
         refine one_reg ?_
         have hbr := hpt.2.2.2.2.1
         have hmz : y - ((partition ltT d3 x y pv2).1 + 1) < z := by omega
         refine op_move (ev_base hN47 rfl s47_0) ?_
         refine op_move (ev_hit hN47 rfl) ?_
         refine op_add (r := ((((partition ltT d3 x y pv2).1 + 1) : Nat) : Int)) (ev_hit hN47 rfl) rfl (by rw [IntKind.wrap_i64]; omega) ?_
         refine op_move (ev_base hN47 rfl s47_2) ?_
         refine op_move (ev_base hN47 rfl s47_3) ?_
         refine op_fn (vs := [v, (Value.int .i64 ((((partition ltT d3 x y pv2).1 + 1) : Nat) : Int)), (Value.int .i64 ((y : Nat) : Int)), (Value.int .i64 ((l1 : Nat) : Int))]) ok147 ⟨(ev_hit hN47 rfl), ⟨(ev_hit hN47 rfl), ⟨(ev_hit hN47 rfl), ⟨(ev_hit hN47 rfl), trivial⟩⟩⟩⟩ (ih (partition ltT d3 x y pv2).2.2 ((partition ltT d3 x y pv2).1 + 1) y l1 _ (hpt.2.2.1.trans hz3) (by omega) (by omega) (by omega) (by omega) hbr hO65) ?_
         rintro _ w84 ⟨E85, rfl, dd83, hpi83, hso83, hO83⟩
         have z_w84 := E85.size
         have hb := grow_stepX hb E85 rfl
         refine reg_nil ?_
         refine hK82 _ _ ?_
         refine one_reg ?_
         refine op_move (ev_hit hN47 rfl) ?_
         refine op_assign (ev_hit hN47 rfl) ?_
         refine reg_nil ?_
         refine blk_normal ?_
         -- round 23F 29F 113F 126T
         have hinv5 := hpt.2.2.2.2.2.2 _ hpi83 hso83
         have hz5 : dd83.size = n := by rw [Inv.sz hinv5]; assumption
         exact loop_next _ hN47 hd47 ⟨x, (partition ltT d3 x y pv2).1, l1, true, (partition ltT d3 x y pv2).2.1, _, rfl, (sl_base hN47 rfl s47_0), (sl_base hN47 rfl s47_1).trans (congrArg (Value.int .i64) (by omega)), (sl_hit hN47 rfl).trans (congrArg (Value.int .i64) (by omega)), (sl_base hN47 rfl s47_3).trans (congrArg (Value.int .i64) (by omega)), (sl_hit hN47 rfl), (sl_hit hN47 rfl), (by first | assumption | (simp only [Array.size_setIfInBounds, swp_sz, siftDown_size]; assumption)), (by omega), hinv5, hb, (by omega), hO83⟩ (by omega)
        · -- 126F
         refine op_assign (ev_hit hN47 rfl) ?_
         refine reg_nil ?_
         refine hK81 _ _ ?_
         refine seq_any fun K86 hK86 => ?_
         refine one_reg ?_
         have hbr := hpt.2.2.2.2.1
         have hmz : y - ((partition ltT d3 x y pv2).1 + 1) < z := by omega
         refine op_move (ev_base hN47 rfl s47_0) ?_
         refine op_move (ev_hit hN47 rfl) ?_
         refine op_add (r := ((((partition ltT d3 x y pv2).1 + 1) : Nat) : Int)) (ev_hit hN47 rfl) rfl (by rw [IntKind.wrap_i64]; omega) ?_
         refine op_move (ev_base hN47 rfl s47_2) ?_
         refine op_move (ev_base hN47 rfl s47_3) ?_
         refine op_fn (vs := [v, (Value.int .i64 ((((partition ltT d3 x y pv2).1 + 1) : Nat) : Int)), (Value.int .i64 ((y : Nat) : Int)), (Value.int .i64 ((l1 : Nat) : Int))]) ok147 ⟨(ev_hit hN47 rfl), ⟨(ev_hit hN47 rfl), ⟨(ev_hit hN47 rfl), ⟨(ev_hit hN47 rfl), trivial⟩⟩⟩⟩ (ih (partition ltT d3 x y pv2).2.2 ((partition ltT d3 x y pv2).1 + 1) y l1 _ (hpt.2.2.1.trans hz3) (by omega) (by omega) (by omega) (by omega) hbr hO65) ?_
         rintro _ w88 ⟨E89, rfl, dd87, hpi87, hso87, hO87⟩
         have z_w88 := E89.size
         have hb := grow_stepX hb E89 rfl
         refine reg_nil ?_
         refine hK86 _ _ ?_
         refine one_reg ?_
         refine op_move (ev_hit hN47 rfl) ?_
         refine op_assign (ev_hit hN47 rfl) ?_
         refine reg_nil ?_
         refine blk_normal ?_
         -- round 23F 29F 113F 126F
         have hinv5 := hpt.2.2.2.2.2.2 _ hpi87 hso87
         have hz5 : dd87.size = n := by rw [Inv.sz hinv5]; assumption
         exact loop_next _ hN47 hd47 ⟨x, (partition ltT d3 x y pv2).1, l1, false, (partition ltT d3 x y pv2).2.1, _, rfl, (sl_base hN47 rfl s47_0), (sl_base hN47 rfl s47_1).trans (congrArg (Value.int .i64) (by omega)), (sl_hit hN47 rfl).trans (congrArg (Value.int .i64) (by omega)), (sl_base hN47 rfl s47_3).trans (congrArg (Value.int .i64) (by omega)), (sl_hit hN47 rfl), (sl_hit hN47 rfl), (by first | assumption | (simp only [Array.size_setIfInBounds, swp_sz, siftDown_size]; assumption)), (by omega), hinv5, hb, (by omega), hO87⟩ (by omega)

theorem pdqW_ret (d : Ar) (v : Value) (n base a b lim : Nat) (w : World) (hd : d.size = n) (hn : n ≤ 4000000000000000000) (hab : a ≤ b) (hbn : b ≤ n) (hlim : lim ≤ 100) (hB : Go.Sort.Below ltT a b d) (O : Own w base 46 1 v n (d.toList.map u16v)) : Ret Try.prog 147 #[v, .int .i64 (a : Int), .int .i64 (b : Int), .int .i64 (lim : Int)] w (fun v' w' => w.grownBy w' v.ownBlock ∧ v' = .tuple #[] ∧ ∃ d', PI a b d d' ∧ SortedIn ltT a b d' ∧ Own w' base 46 1 v n (d'.toList.map u16v)) := by
  have key : ∀ z, PdqIH z v n base := by
    intro z
    induction z with
    | zero => intro d a b lim w _ _ _ _ h; omega
    | succ z ih =>
      intro d a b lim w hd hab hbn hlim hz hB O
      exact pdqW_step (b - a) v n base hn (fun d a b lim w g1 g2 g3 g4 g5 => ih d a b lim w g1 g2 g3 g4 (by omega)) d a b lim w hd hab hbn hlim rfl hB O
  exact key (b - a + 1) d a b lim w hd hab hbn hlim (by omega) hB O

end Go.Proofs.Ytmhdbphpmgjpcaa

/- Walks, written by a program: what each function of the translation hands back. -/
namespace Go.Proofs.Ytmhdbphpmgjpcaa
open Go.Gx Go.RowKit
attribute [local irreducible] wpList wpStill Code.wp Calls
open Go.Sort (insertionSort insOuter insInner swp siftDown heapSort heapBuild heapPop scanUp scanDown partition partLoop partitionEqual partEqLoop scanSorted partialIns bitsLen partialInsertionSort shiftDown shiftUp SortedIn reverseRange reverseLoop fixDown fixUp)
theorem compW_ret (d : Ar) (v : Value) (n base : Nat) (z0 : Nat) (w : World) (hd : d.size = n) (hn : n ≤ 4000000000000000000) (O : Own w base 46 1 v n (d.toList.map u16v)) : Ret Try.prog 134 #[v] w (fun v' w' => w.grownBy w' v.ownBlock ∧ v'.ownBlock = v.ownBlock ∧ Own w' base 46 1 v' (dd d.toList).length ((dd d.toList).map u16v)) := by
 have hb := grown_refl w v.ownBlock
 refine enter (N := 61) Try.func134 rfl rfl (by simp) fun a0 hN hd hA => ?_
 have s0 : a0.tmps.getD 0 undef = v := hA 0 (by simp)
 clear hA
 refine seq_any fun K1 hK1 => ?_
 refine one_reg ?_
 refine op_assign rfl ?_
 refine reg_nil ?_
 refine hK1 _ _ ?_
 refine seq_any fun K2 hK2 => ?_
 refine seq_any fun K3 hK3 => ?_
 refine one_reg ?_
 refine op_move (ev_base hN rfl s0) ?_
 refine op_len_rd Try.underlying45 (ev_hit hN rfl) O.rdw ?_
 refine op_lss (ev_hit hN rfl) rfl (fun c8 => ?_) (fun c8 => ?_)
 · -- 8T
  refine reg_nil ?_
  refine hK3 _ _ ?_
  refine wp_cond_true (ev_hit hN rfl) ?_
  refine seq_any fun K4 hK4 => ?_
  refine one_reg ?_
  refine op_move (ev_base hN rfl s0) ?_
  refine op_assign (ev_hit hN rfl) ?_
  refine reg_nil ?_
  refine hK4 _ _ ?_
  refine wp_ret (then_ret ( ?_))
  refine ret1 rfl hd (ev_hit hN rfl) ⟨_, rfl, ?_⟩
  -- path 8T
  have hzl : d.toList.length = n := by simp; assumption
  exact ⟨hb, rfl, by rw [dd_short (by omega), hzl]; exact O⟩
 · -- 8F
  refine reg_nil ?_
  refine hK3 _ _ ?_
  refine wp_cond_false (ev_hit hN rfl) ?_
  refine wp_skip ?_
  refine hK2 _ _ ?_
  refine seq_any fun K5 hK5 => ?_
  refine seq_any fun K6 hK6 => ?_
  refine one_reg ?_
  refine op_assign rfl ?_
  refine reg_nil ?_
  refine hK6 _ _ ?_
  refine wp_block ?_
  refine loop_m (fun mz_ az_ w' => ∃ (i : Nat), mz_ = (n + 1 - i) ∧ (az_.tmps.getD 0 undef = v) ∧ (az_.tmps.getD 3 undef = (Value.int .i64 ((i : Nat) : Int))) ∧ (1 ≤ i ∧ i ≤ n) ∧ (dd (d.toList.take i) = d.toList.take i) ∧ (w.grownBy w' v.ownBlock) ∧ (w.heap.size ≤ w'.heap.size) ∧ (Own w' base 46 1 v n (d.toList.map u16v))) _ hN hd ⟨1, rfl, (sl_base hN rfl s0), (sl_hit hN rfl).trans (congrArg (Value.int .i64) (by omega)), (by omega), (dd_one (by omega)), hb, (Nat.le_refl _), O⟩ ?_
  rintro _ a7 w7 hN7 hd7 ⟨i, rfl, s7_0, s7_3, hi, hsm, hb, zl_w7, O⟩
  have z_w7 := hb.size
  refine seq_any fun K8 hK8 => ?_
  refine seq_any fun K9 hK9 => ?_
  refine one_reg ?_
  refine op_move (ev_base hN7 rfl s7_3) ?_
  refine op_move (ev_base hN7 rfl s7_0) ?_
  refine op_len_rd Try.underlying45 (ev_hit hN7 rfl) O.rdw ?_
  refine op_lss (ev_hit hN7 rfl) (ev_hit hN7 rfl) (fun c13 => ?_) (fun c13 => ?_)
  · -- 13T
   refine reg_nil ?_
   refine hK9 _ _ ?_
   refine wp_cond_true (ev_hit hN7 rfl) ?_
   refine wp_skip ?_
   refine hK8 _ _ ?_
   refine seq_any fun K10 hK10 => ?_
   refine wp_block ?_
   refine seq_any fun K11 hK11 => ?_
   refine reg_still mixed (by kernel_rfl) ?_
   intro w13 E12
   have z_w13 := E12.size
   have O := O.keep0 E12
   have hb := grow_step0 hb E12
   refine st_step rfl (fun _ h9 => op_move (ev_base hN7 rfl s7_0) h9) ?_
   refine st_step rfl (fun _ h9 => op_move (ev_base hN7 rfl s7_3) h9) ?_
   refine st_index_rd slt45 (ev_hit hN7 rfl) O.rdw (ev_hit hN7 rfl) (by omega) (by omega) ?_
   intro b14 o15 h0b14 h1b14 hc16
   refine st_step rfl (fun _ h9 => op_load1 (v := (Value.int .u16 (d[i]!.toNat : Int))) one46 (ev_hit hN7 rfl) (by have := hc16 0 (Value.int .u16 (d[i]!.toNat : Int)) (by decide) (el_arr (i := i) (by omega) (by first | omega | (simp only [Array.size_setIfInBounds, swp_sz, siftDown_size]; omega))); simpa using this) h9) ?_
   refine st_step rfl (fun _ h9 => op_move (ev_base hN7 rfl s7_0) h9) ?_
   refine st_step rfl (fun _ h9 => op_move (ev_base hN7 rfl s7_3) h9) ?_
   refine st_step rfl (fun _ h9 => op_sub (ev_hit hN7 rfl) rfl (sub64 (by omega)) h9) ?_
   refine st_index_rd slt45 (ev_hit hN7 rfl) O.rdw (ev_hit hN7 rfl) (by omega) (by omega) ?_
   intro b17 o18 h0b17 h1b17 hc19
   refine st_step rfl (fun _ h9 => op_load1 (v := (Value.int .u16 (d[(i - 1)]!.toNat : Int))) one46 (ev_hit hN7 rfl) (by have := hc19 0 (Value.int .u16 (d[(i - 1)]!.toNat : Int)) (by decide) (el_arr (i := (i - 1)) (by omega) (by first | omega | (simp only [Array.size_setIfInBounds, swp_sz, siftDown_size]; omega))); simpa using this) h9) ?_
   refine st_step rfl (fun _ h9 => op_cmp (b := (decide ((d[i]!.toNat : Int) = (d[(i - 1)]!.toNat : Int)))) (ev_hit hN7 rfl) (ev_hit hN7 rfl) (b_eql rfl) h9) ?_
   refine st_nil ?_
   refine hK11 _ _ ?_
   refine wp_cond_split (ev_hit hN7 rfl) (fun c25 => ?_) (fun c25 => ?_)
   · -- 25T
    have c25 := of_decide_eq_true c25
    refine seq_any fun K20 hK20 => ?_
    refine one_reg ?_
    refine op_move (ev_base hN7 rfl s7_0) ?_
    refine op_move (ev_base hN7 rfl s7_3) ?_
    refine op_slice_tail (k := i) slt45 (ev_hit hN7 rfl) O.rdw (by omega) (ev_hit hN7 rfl) (by omega) ?_
    refine op_assign (ev_hit hN7 rfl) ?_
    refine reg_nil ?_
    refine hK20 _ _ ?_
    refine seq_any fun K21 hK21 => ?_
    refine seq_any fun K22 hK22 => ?_
    refine one_reg ?_
    refine op_assign rfl ?_
    refine reg_nil ?_
    refine hK22 _ _ ?_
    refine wp_block ?_
    refine loop_m (fun mz_ az_ w' => ∃ (k2 kk : Nat) (dk : Ar), mz_ = (n + 1 - k2) ∧ (az_.tmps.getD 0 undef = v) ∧ (az_.tmps.getD 4 undef = (tailV v i)) ∧ (az_.tmps.getD 5 undef = (Value.int .i64 ((k2 : Nat) : Int))) ∧ (az_.tmps.getD 3 undef = (Value.int .i64 ((kk : Nat) : Int))) ∧ (dk.size = n) ∧ (1 ≤ k2 ∧ i + k2 ≤ n ∧ 1 ≤ kk ∧ kk < i + k2) ∧ (dk.toList.take kk = dd (d.toList.take (i + k2))) ∧ (∀ j9, kk ≤ j9 → dk[j9]! = d[j9]!) ∧ (w.grownBy w' v.ownBlock) ∧ (w13.heap.size ≤ w'.heap.size) ∧ (Own w' base 46 1 v n (dk.toList.map u16v))) _ hN7 hd7 ⟨1, i, _, rfl, (sl_base hN7 rfl s7_0), (sl_hit hN7 rfl), (sl_hit hN7 rfl).trans (congrArg (Value.int .i64) (by omega)), (sl_base hN7 rfl s7_3).trans (congrArg (Value.int .i64) (by omega)), (by first | assumption | (simp only [Array.size_setIfInBounds, swp_sz, siftDown_size]; assumption)), (by omega), (by rw [dd_step (by omega) (by omega), if_pos (u16_eq c25).symm, hsm]), (fun _ _ => rfl), hb, (Nat.le_refl _), O⟩ ?_
    rintro _ a23 w23 hN23 hd23 ⟨k2, kk, dk, rfl, s23_0, s23_4, s23_5, s23_3, hdk, hr2, hdd, hsame, hb, zl_w23, hO24⟩
    have z_w23 := hb.size
    refine seq_any fun K25 hK25 => ?_
    refine seq_any fun K26 hK26 => ?_
    refine one_reg ?_
    refine op_move (ev_base hN23 rfl s23_5) ?_
    refine op_move (ev_base hN23 rfl s23_4) ?_
    refine op_len_rd Try.underlying45 (ev_hit hN23 rfl) (RdC.tail hO24.rdw (by omega) (by omega)) ?_
    refine op_lss (ev_hit hN23 rfl) (ev_hit hN23 rfl) (fun c32 => ?_) (fun c32 => ?_)
    · -- 32T
     refine reg_nil ?_
     refine hK26 _ _ ?_
     refine wp_cond_true (ev_hit hN23 rfl) ?_
     refine wp_skip ?_
     refine hK25 _ _ ?_
     refine seq_any fun K27 hK27 => ?_
     refine wp_block ?_
     refine seq_any fun K28 hK28 => ?_
     refine reg_still mixed (by kernel_rfl) ?_
     intro w30 E29
     have z_w30 := E29.size
     have hO24 := hO24.keep0 E29
     have hb := grow_step0 hb E29
     refine st_step rfl (fun _ h9 => op_move (ev_base hN23 rfl s23_4) h9) ?_
     refine st_step rfl (fun _ h9 => op_move (ev_base hN23 rfl s23_5) h9) ?_
     refine st_index_rd slt45 (ev_hit hN23 rfl) (RdC.tail hO24.rdw (by omega) (by omega)) (ev_hit hN23 rfl) (by omega) (by omega) ?_
     intro b31 o32 h0b31 h1b31 hc33
     refine st_step rfl (fun _ h9 => op_load1 (v := (Value.int .u16 (dk[i + k2]!.toNat : Int))) one46 (ev_hit hN23 rfl) (by have := hc33 0 (Value.int .u16 (dk[i + k2]!.toNat : Int)) (by decide) (el_arr_tail (i := k2) (by omega) (by omega)); simpa using this) h9) ?_
     refine st_step rfl (fun _ h9 => op_move (ev_base hN23 rfl s23_4) h9) ?_
     refine st_step rfl (fun _ h9 => op_move (ev_base hN23 rfl s23_5) h9) ?_
     refine st_step rfl (fun _ h9 => op_sub (ev_hit hN23 rfl) rfl (sub64 (by omega)) h9) ?_
     refine st_index_rd slt45 (ev_hit hN23 rfl) (RdC.tail hO24.rdw (by omega) (by omega)) (ev_hit hN23 rfl) (by omega) (by omega) ?_
     intro b34 o35 h0b34 h1b34 hc36
     refine st_step rfl (fun _ h9 => op_load1 (v := (Value.int .u16 (dk[i + (k2 - 1)]!.toNat : Int))) one46 (ev_hit hN23 rfl) (by have := hc36 0 (Value.int .u16 (dk[i + (k2 - 1)]!.toNat : Int)) (by decide) (el_arr_tail (i := (k2 - 1)) (by omega) (by omega)); simpa using this) h9) ?_
     refine st_step rfl (fun _ h9 => op_cmp (b := (decide ((dk[i + k2]!.toNat : Int) ≠ (dk[i + (k2 - 1)]!.toNat : Int)))) (ev_hit hN23 rfl) (ev_hit hN23 rfl) (b_neq rfl) h9) ?_
     refine st_nil ?_
     refine hK28 _ _ ?_
     refine wp_cond_split (ev_hit hN23 rfl) (fun c44 => ?_) (fun c44 => ?_)
     · -- 44T
      have c44 := of_decide_eq_true c44
      refine seq_any fun K37 hK37 => ?_
      refine one_reg ?_
      refine op_move (ev_base hN23 rfl s23_0) ?_
      refine op_move (ev_base hN23 rfl s23_3) ?_
      refine op_move (ev_base hN23 rfl s23_4) ?_
      refine op_move (ev_base hN23 rfl s23_5) ?_
      refine op_index_rd slt45 (ev_hit hN23 rfl) (RdC.tail hO24.rdw (by omega) (by omega)) (ev_hit hN23 rfl) (by omega) (by omega) ?_
      intro b38 o39 h0b38 h1b38 hc40
      refine op_load1 (v := (Value.int .u16 (dk[i + k2]!.toNat : Int))) one46 (ev_hit hN23 rfl) (by have := hc40 0 (Value.int .u16 (dk[i + k2]!.toNat : Int)) (by decide) (el_arr_tail (i := k2) (by omega) (by omega)); simpa using this) ?_
      refine op_index_own (i := kk) slt45 (ev_hit hN23 rfl) hO24 (ev_hit hN23 rfl) (by omega) (by omega) ?_
      intro b41 o42 lo_b41 hA43
      have hA43 : AtV v (kk) b41 o42 := by simpa using hA43
      have hP46 := hO24
      refine op_store_own (vs := [(Value.int .u16 (dk[i + k2]!.toNat : Int))]) size46 (ev_hit hN23 rfl) (ev_hit hN23 rfl) rfl rfl rfl hP46 hA43 (by have := hP46.1; simp; omega) ?_
      intro w44 hO47 E45
      have z_w44 := E45.size
      have hb := grow_stepX hb E45 rfl
      have hO47 : Own w44 base 46 1 v n (((dk.setIfInBounds kk dk[i + k2]!)).toList.map u16v) := by exact hO47.cast rfl (set_arr (by first | omega | (simp only [Array.size_setIfInBounds, swp_sz]; omega)))
      refine reg_nil ?_
      refine hK37 _ _ ?_
      refine one_reg ?_
      refine op_move (ev_base hN23 rfl s23_3) ?_
      refine op_add (ev_hit hN23 rfl) rfl (add64 (by omega)) ?_
      refine op_assign (ev_hit hN23 rfl) ?_
      refine reg_nil ?_
      refine hK27 _ _ ?_
      refine one_reg ?_
      refine op_move (ev_base hN23 rfl s23_5) ?_
      refine op_add (ev_hit hN23 rfl) rfl (add64 (by omega)) ?_
      refine op_assign (ev_hit hN23 rfl) ?_
      refine reg_nil ?_
      -- round 8F 13T 25T 32T 44T
      have hk5 := dd_keep (d := d) (dk := dk) (i := i + k2) (k := kk) (by omega) (by omega) (by omega) (by omega) hdd hsame (by rw [← hsame (i + k2) (by omega), ← hsame (i + k2 - 1) (by omega)]; intro e; apply c44; rw [show i + (k2 - 1) = i + k2 - 1 by omega, e])
      rw [← hsame (i + k2) (by omega)] at hk5
      exact loop_next _ hN23 hd23 ⟨(k2 + 1), (kk + 1), _, rfl, (sl_base hN23 rfl s23_0), (sl_base hN23 rfl s23_4), (sl_hit hN23 rfl).trans (congrArg (Value.int .i64) (by omega)), (sl_hit hN23 rfl).trans (congrArg (Value.int .i64) (by omega)), (by first | assumption | (simp only [Array.size_setIfInBounds, swp_sz, siftDown_size]; assumption)), (by omega), hk5.1, hk5.2, hb, (by omega), hO47⟩ (by omega)
     · -- 44F
      have c44 := of_decide_eq_false c44
      refine wp_skip ?_
      refine hK27 _ _ ?_
      refine one_reg ?_
      refine op_move (ev_base hN23 rfl s23_5) ?_
      refine op_add (ev_hit hN23 rfl) rfl (add64 (by omega)) ?_
      refine op_assign (ev_hit hN23 rfl) ?_
      refine reg_nil ?_
      -- round 8F 13T 25T 32T 44F
      have hk5 := hdd
      exact loop_next _ hN23 hd23 ⟨(k2 + 1), kk, _, rfl, (sl_base hN23 rfl s23_0), (sl_base hN23 rfl s23_4), (sl_hit hN23 rfl).trans (congrArg (Value.int .i64) (by omega)), (sl_base hN23 rfl s23_3).trans (congrArg (Value.int .i64) (by omega)), (by first | assumption | (simp only [Array.size_setIfInBounds, swp_sz, siftDown_size]; assumption)), (by omega), (hdd.trans (by rw [← Nat.add_assoc, dd_step (by omega) (by omega), if_pos]; rw [← hsame (i + k2) (by omega), ← hsame (i + k2 - 1) (by omega), show i + k2 - 1 = i + (k2 - 1) by omega]; exact (u16_eq (Decidable.not_not.1 c44)).symm)), hsame, hb, (by omega), hO24⟩ (by omega)
    · -- 32F
     refine reg_nil ?_
     refine hK26 _ _ ?_
     refine wp_cond_false (ev_hit hN23 rfl) ?_
     refine wp_exit (then_exit (then_exit (blk_hit ?_)))
     refine hK21 _ _ ?_
     refine seq_any fun K48 hK48 => ?_
     refine one_reg ?_
     refine op_move (ev_base hN23 rfl s23_0) ?_
     refine op_move (ev_base hN23 rfl s23_3) ?_
     refine op_slice_tail (k := kk) slt45 (ev_hit hN23 rfl) hO24.rdw (by omega) (ev_hit hN23 rfl) (by omega) ?_
     refine op_clear_tail slt45 rfl rfl (ev_hit hN23 rfl) hO24 (by omega) ?_
     intro w49 hO50 E51
     have z_w49 := E51.size
     have hb := grow_stepX hb E51 rfl
     have hO50 : Own w49 base 46 1 v n ((clr dk kk).toList.map u16v) := hO50.cast rfl (clr_cs (by assumption))
     refine reg_nil ?_
     refine hK48 _ _ ?_
     refine seq_any fun K52 hK52 => ?_
     refine one_reg ?_
     refine op_move (ev_base hN23 rfl s23_0) ?_
     refine op_move (ev_base hN23 rfl s23_3) ?_
     have hfull : d.toList.take (i + k2) = d.toList := by rw [List.take_of_length_le]; simp; omega
     have hD : dk.toList.take kk = dd d.toList := by rw [hdd, hfull]
     have hDl : (dd d.toList).length = kk := by rw [← hD]; simp; omega
     refine op_slice_own_hi (m := kk) slt45 (ev_hit hN23 rfl) hO50 (ev_hit hN23 rfl) (by omega) (by omega) ?_
     intro v53 hO54 ho55
     have hO54 : Own w49 base 46 1 v53 kk (((dd d.toList)).map u16v) := by (simp only [Nat.mul_one] at hO54; rw [← List.map_take, clr_take (by omega), hD] at hO54; exact hO54)
     refine op_assign (ev_hit hN23 rfl) ?_
     refine reg_nil ?_
     refine hK52 _ _ ?_
     refine wp_ret (blk_ret (then_ret (then_ret (blk_ret (then_ret ( ?_))))))
     refine ret1 rfl hd23 (ev_hit hN23 rfl) ⟨_, rfl, ?_⟩
     -- path 8F 13T 25T 32F
     exact ⟨hb, (ho55.trans rfl), by rw [hDl]; exact hO54⟩
   · -- 25F
    have c25 := of_decide_eq_false c25
    refine wp_skip ?_
    refine hK10 _ _ ?_
    refine one_reg ?_
    refine op_move (ev_base hN7 rfl s7_3) ?_
    refine op_add (ev_hit hN7 rfl) rfl (add64 (by omega)) ?_
    refine op_assign (ev_hit hN7 rfl) ?_
    refine reg_nil ?_
    -- round 8F 13T 25F
    exact loop_next _ hN7 hd7 ⟨(i + 1), rfl, (sl_base hN7 rfl s7_0), (sl_hit hN7 rfl).trans (congrArg (Value.int .i64) (by omega)), (by omega), (dd_same (by omega) (by omega) hsm (fun e => c25 (by rw [e]))), hb, (by omega), O⟩ (by omega)
  · -- 13F
   refine reg_nil ?_
   refine hK9 _ _ ?_
   refine wp_cond_false (ev_hit hN7 rfl) ?_
   refine wp_exit (then_exit (then_exit (blk_hit ?_)))
   refine hK5 _ _ ?_
   refine seq_any fun K56 hK56 => ?_
   refine one_reg ?_
   refine op_move (ev_base hN7 rfl s7_0) ?_
   refine op_assign (ev_hit hN7 rfl) ?_
   refine reg_nil ?_
   refine hK56 _ _ ?_
   refine wp_ret ?_
   refine ret1 rfl hd7 (ev_hit hN7 rfl) ⟨_, rfl, ?_⟩
   -- path 8F 13F
   have hzl : d.toList.length = n := by simp; assumption
   exact ⟨hb, rfl, by rw [dd_full (n := n) (by assumption) (by rw [show n = i by omega]; exact hsm), hzl]; exact O⟩

end Go.Proofs.Ytmhdbphpmgjpcaa

/- Walks, written by a program: what each function of the translation hands back. -/
namespace Go.Proofs.Ytmhdbphpmgjpcaa
open Go.Gx Go.RowKit
attribute [local irreducible] wpList wpStill Code.wp Calls
open Go.Sort (insertionSort insOuter insInner swp siftDown heapSort heapBuild heapPop scanUp scanDown partition partLoop partitionEqual partEqLoop scanSorted partialIns bitsLen partialInsertionSort shiftDown shiftUp SortedIn reverseRange reverseLoop fixDown fixUp)
theorem cloneW_ret (l : Lb) (v : Value) (w : World) (hz : l.length ≤ 1000000000000) (hl : RdC w 0 w.heap.size 1 v l.length (l.map u16v)) : Ret Try.prog 132 #[v] w (fun v' w' => Below w.heap.size w w' ∧ Own w' w.heap.size 46 1 v' l.length (l.map u16v)) := by
 have hb := Below.refl w.heap.size w
 refine enter (N := 8) Try.func132 rfl rfl (by simp) fun a0 hN hd hA => ?_
 have s0 : a0.tmps.getD 0 undef = v := hA 0 (by simp)
 clear hA
 refine seq_any fun K1 hK1 => ?_
 refine one_reg ?_
 refine op_assign rfl ?_
 refine reg_nil ?_
 refine hK1 _ _ ?_
 refine seq_any fun K2 hK2 => ?_
 refine seq_any fun K3 hK3 => ?_
 refine one_reg ?_
 refine op_move (ev_base hN rfl s0) ?_
 refine op_eql_nil slt45 (ev_hit hN rfl) rfl hl (fun c4 => ?_) ?_
 · -- 4T
  refine reg_nil ?_
  refine hK3 _ _ ?_
  refine wp_cond_true (ev_hit hN rfl) ?_
  refine seq_any fun K4 hK4 => ?_
  refine one_reg ?_
  refine op_assign rfl ?_
  refine reg_nil ?_
  refine hK4 _ _ ?_
  refine wp_ret (then_ret ( ?_))
  refine ret1 rfl hd (ev_hit hN rfl) ⟨_, rfl, ?_⟩
  -- path 4T
  exact ⟨hb, by rw [List.length_eq_zero_iff.1 c4]; exact Own.nil _ _ _ _⟩
 · -- 4F
  refine reg_nil ?_
  refine hK3 _ _ ?_
  refine wp_cond_false (ev_hit hN rfl) ?_
  refine wp_skip ?_
  refine hK2 _ _ ?_
  refine seq_any fun K5 hK5 => ?_
  refine one_reg ?_
  refine op_bslice (e := 46) (pv := []) (cs := []) trivial (by kernel_rfl) ?_
  intro w6 b7 lo_b7 hi_b7 hB9 E8
  have z_w6 := E8.size
  have hl := hl.keep0 E8
  have hb := below_step0 hb E8 hb.size
  refine op_move (ev_base hN rfl s0) ?_
  have hP15 := (Own.ofBx (base := w.heap.size) (sz := 1) (n := 0) hB9 rfl (by decide) (by omega))
  refine op_append slt45 (ev_hit hN rfl) hP15 (ev_hit hN rfl) (Src.ofRd Try.underlying45 (by decide) hl (one_u16 _)) (by unfold maxLen; omega) (by omega) hb.size ?_
  intro v10 w11 hO13 E12 hm14
  have z_w11 := E12.size
  have hl := hl.keepO hP15 E12 (by omega)
  have hb := below_stepO hb hP15 E12 hb.size (by omega)
  have hO13 : Own w11 w.heap.size 46 1 v10 (0 + l.length) ((l).map u16v) := by simpa [u8v, u16v, cellsV] using hO13
  refine op_assign (ev_hit hN rfl) ?_
  refine reg_nil ?_
  refine hK5 _ _ ?_
  refine wp_ret ?_
  refine ret1 rfl hd (ev_hit hN rfl) ⟨_, rfl, ?_⟩
  -- path 4F
  exact ⟨hb, hO13.cast (by simp) (by simp)⟩

theorem sortW_ret (d : Ar) (v : Value) (n base : Nat) (z0 : Nat) (w : World) (hd : d.size = n) (hn : n ≤ 4000000000000000000) (O : Own w base 46 1 v n (d.toList.map u16v)) : Ret Try.prog 133 #[v] w (fun v' w' => w.grownBy w' v.ownBlock ∧ v' = .tuple #[] ∧ ∃ d', PI 0 n d d' ∧ SortedIn ltT 0 n d' ∧ Own w' base 46 1 v n (d'.toList.map u16v)) := by
 have hb := grown_refl w v.ownBlock
 refine enter (N := 11) Try.func133 rfl rfl (by simp) fun a0 hN hd hA => ?_
 have s0 : a0.tmps.getD 0 undef = v := hA 0 (by simp)
 clear hA
 refine seq_any fun K16 hK16 => ?_
 refine one_reg ?_
 refine op_move (ev_base hN rfl s0) ?_
 refine op_len_rd Try.underlying45 (ev_hit hN rfl) O.rdw ?_
 refine op_assign (ev_hit hN rfl) ?_
 refine reg_nil ?_
 refine hK16 _ _ ?_
 refine one_reg ?_
 refine op_move (ev_base hN rfl s0) ?_
 refine op_move (ev_hit hN rfl) ?_
 refine op_move (ev_hit hN rfl) ?_
 refine op_conv (r := ((n : Nat) : Int)) (ev_hit hN rfl) us3 Try.underlying184 (wrap_u64 (by omega)) ?_
 have hbl : bitsLen n ≤ 62 := (Go.Sort.bitsLen_le_iff n 62).2 (by omega)
 refine op_fn (vs := [(Value.int .u64 ((n : Nat) : Int))]) ok148 ⟨(ev_hit hN rfl), trivial⟩ (lenW_ret n _ (by omega)) ?_
 rintro _ w17 ⟨E18, rfl⟩
 have E18 := grown_of_below E18
 have z_w17 := E18.size
 have O := O.keep0 E18
 have hb := grow_step0 hb E18
 refine op_fn (vs := [v, (Value.int .i64 0), (Value.int .i64 ((n : Nat) : Int)), (Value.int .i64 (((bitsLen n) : Nat) : Int))]) ok147 ⟨(ev_hit hN rfl), ⟨rfl, ⟨(ev_hit hN rfl), ⟨(ev_hit hN rfl), trivial⟩⟩⟩⟩ (pdqW_ret d _ _ _ 0 n ((bitsLen n)) _ (by first | assumption | (simp only [Array.size_setIfInBounds, swp_sz, siftDown_size]; assumption)) (by omega) (by omega) (by omega) (by omega) (.inl rfl) O) ?_
 rintro _ w20 ⟨E21, rfl, dd19, hpi19, hso19, hO19⟩
 have z_w20 := E21.size
 have hb := grow_stepX hb E21 rfl
 refine reg_nil ?_
 refine end_ret ?_
 refine ret0 rfl hd  ⟨_, rfl, ?_⟩
 -- path
 exact ⟨hb, rfl, _, hpi19, hso19, hO19⟩

theorem sortedW_ret (l : Lb) (v : Value) (w : World) (hz : l.length ≤ 1000000000000) (hl : RdC w 0 w.heap.size 1 v l.length (l.map u16v)) : Ret Try.prog 116 #[v] w (fun v' w' => Below w.heap.size w w' ∧ Own w' w.heap.size 46 1 v' (nrm l).length ((nrm l).map u16v)) := by
 have hb := Below.refl w.heap.size w
 refine enter (N := 10) Try.func116 rfl rfl (by simp) fun a0 hN hd hA => ?_
 have s0 : a0.tmps.getD 0 undef = v := hA 0 (by simp)
 clear hA
 refine seq_any fun K22 hK22 => ?_
 refine one_reg ?_
 refine op_assign rfl ?_
 refine reg_nil ?_
 refine hK22 _ _ ?_
 refine seq_any fun K23 hK23 => ?_
 refine one_reg ?_
 refine op_move (ev_base hN rfl s0) ?_
 refine op_fn (vs := [v]) ok132 ⟨(ev_hit hN rfl), trivial⟩ (cloneW_ret l _ _ (by omega) (show RdC w 0 w.heap.size 1 v l.length (l.map u16v) from by have hh : RdC w 0 w.heap.size 1 _ _ _ := (hl.mono (L' := 0) (B' := w.heap.size) (Nat.zero_le _) (by omega)); first | exact hh | exact hh.cast (by first | omega | (simp; try omega)) (by first | rfl | simp [u16v]))) ?_
 rintro v24 w25 ⟨E26, hO24⟩
 have E26 := grown_of_below E26
 have z_w25 := E26.size
 have hl := hl.keep0 E26
 have hb := below_step0 hb E26 hb.size
 have hO24 := hO24.mono (base' := w.heap.size) (by omega)
 refine op_assign (ev_hit hN rfl) ?_
 refine reg_nil ?_
 refine hK23 _ _ ?_
 refine seq_any fun K27 hK27 => ?_
 refine one_reg ?_
 refine op_move (ev_hit hN rfl) ?_
 refine op_fn (vs := [v24]) ok133 ⟨(ev_hit hN rfl), trivial⟩ (sortW_ret l.toArray _ l.length _ 0 _ (by simp) (by omega) hO24) ?_
 rintro _ w29 ⟨E30, rfl, dd28, hpi28, hso28, hO28⟩
 have z_w29 := E30.size
 have hl := hl.keepO hO24 E30 (by omega)
 have hb := below_stepO hb hO24 E30 hb.size (by omega)
 have hsn : dd dd28.toList = nrm l := sort_nrm (by simp) hpi28 hso28
 have hsz : dd28.size = l.length := (PI.sz hpi28).trans (by simp)
 refine reg_nil ?_
 refine hK27 _ _ ?_
 refine seq_any fun K31 hK31 => ?_
 refine one_reg ?_
 refine op_move (ev_hit hN rfl) ?_
 refine op_fn (vs := [v24]) ok134 ⟨(ev_hit hN rfl), trivial⟩ (compW_ret dd28 _ l.length _ 0 _ (by first | assumption | (simp only [Array.size_setIfInBounds, swp_sz, siftDown_size]; assumption)) (by omega) hO28) ?_
 rintro v32 w33 ⟨E34, hob32, hO32⟩
 have z_w33 := E34.size
 have hl := hl.keepO hO28 E34 (by omega)
 have hb := below_stepO hb hO28 E34 hb.size (by omega)
 refine op_assign (ev_hit hN rfl) ?_
 refine reg_nil ?_
 refine hK31 _ _ ?_
 refine wp_ret ?_
 refine ret1 rfl hd (ev_hit hN rfl) ⟨_, rfl, ?_⟩
 -- path
 rw [hsn] at hO32
 exact ⟨hb, hO32⟩

end Go.Proofs.Ytmhdbphpmgjpcaa
