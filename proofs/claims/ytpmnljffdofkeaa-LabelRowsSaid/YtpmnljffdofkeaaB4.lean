/- Walks, written by a program: what each function of the translation hands back. -/
import Derived.Test.YtpmnljffdofkeaaB3
namespace Go.Proofs.Ytpmnljffdofkeaa
open Go.Gx Go.RowKit
attribute [local irreducible] wpList wpStill Code.wp Calls
open Go.Sort (insertionSort insOuter insInner swp siftDown heapSort heapBuild heapPop scanUp scanDown partition partLoop partitionEqual partEqLoop scanSorted partialIns bitsLen partialInsertionSort shiftDown shiftUp SortedIn reverseRange reverseLoop fixDown fixUp)
set_option maxHeartbeats 2000000 in
theorem partW_ret (d : Ar) (v : Value) (n base : Nat) (a b pv : Nat) (w : World) (hd : d.size = n) (hn : n ≤ 4000000000000000000) (O : Own w base 35 1 v n (d.toList.map u16v)) (hap : a ≤ pv) (hpb : pv < b) (hbn : b ≤ n) : Ret Try.prog 74 #[v, (Value.int .i64 ((a : Nat) : Int)), (Value.int .i64 ((b : Nat) : Int)), (Value.int .i64 ((pv : Nat) : Int))] w (fun v' w' => w.grownBy w' v.ownBlock ∧ v' = .tuple #[.int .i64 ((partition ltT d a b pv).1 : Int), .bool (partition ltT d a b pv).2.1] ∧ Own w' base 35 1 v n ((partition ltT d a b pv).2.2.toList.map u16v)) := by
 have hb := grown_refl w v.ownBlock
 refine enter (N := 168) Try.func74 rfl rfl (by simp) fun a0 hN hd hA => ?_
 have s0 : a0.tmps.getD 0 undef = v := hA 0 (by simp)
 have s1 : a0.tmps.getD 1 undef = (Value.int .i64 ((a : Nat) : Int)) := hA 1 (by simp)
 have s2 : a0.tmps.getD 2 undef = (Value.int .i64 ((b : Nat) : Int)) := hA 2 (by simp)
 have s3 : a0.tmps.getD 3 undef = (Value.int .i64 ((pv : Nat) : Int)) := hA 3 (by simp)
 clear hA
 refine seq_any fun K178 hK178 => ?_
 refine one_reg ?_
 refine op_assign rfl ?_
 refine op_assign rfl ?_
 refine reg_nil ?_
 refine hK178 _ _ ?_
 refine seq_any fun K179 hK179 => ?_
 refine reg_mid (e := 35) (sz := 1) (base := base) (n := n) (v := v) (Φ := phiL [(fun uz _ => uz = v), (fun uz _ => uz = (Value.int .i64 ((a : Nat) : Int))), (fun uz _ => uz = v), (fun uz _ => uz = (Value.int .i64 ((pv : Nat) : Int))), (fun uz _ => uz = v), (fun uz _ => uz = (Value.int .i64 ((pv : Nat) : Int))), (fun uz _ => ∃ bz oz, uz = ptr bz oz ∧ AtV v pv bz oz), (fun uz _ => uz = (Value.int .u16 (d[pv]!.toNat : Int))), (fun uz _ => uz = v), (fun uz _ => uz = (Value.int .i64 ((a : Nat) : Int))), (fun uz _ => ∃ bz oz, uz = ptr bz oz ∧ AtV v a bz oz), (fun uz _ => uz = (Value.int .u16 (d[a]!.toNat : Int))), (fun uz _ => ∃ bz oz, uz = ptr bz oz ∧ AtV v a bz oz), (fun _ _ => True), (fun uz _ => ∃ bz oz, uz = ptr bz oz ∧ AtV v pv bz oz), (fun _ _ => True)]) [13, 15] [(d.toList.map u16v), ((d.setIfInBounds a d[pv]!).toList.map u16v), (((d.setIfInBounds a d[pv]!).setIfInBounds pv d[a]!).toList.map u16v)] mixed (by kernel_rfl) (by kernel_rfl) (by kernel_rfl) (by kernel_rfl) hN O (StL.get (StL.eq (StL.eq (StL.eq (StL.eq (StL.eq (StL.eq (StL.at (StL.eq (StL.eq (StL.eq (StL.at (StL.eq (StL.at (StL.cons (fun _ _ _ _ h => h) (StL.at (StL.cons (fun _ _ _ _ h => h) (StL.nil _)))))))))))))))))) (ObRs.get (ObRs.cons ?_ (ObRs.cons ?_ (ObRs.cons ?_ (ObRs.cons ?_ (ObRs.cons ?_ (ObRs.cons ?_ (ObRs.cons ?_ (ObRs.cons ?_ (ObRs.cons ?_ (ObRs.cons ?_ (ObRs.cons ?_ (ObRs.cons ?_ (ObRs.cons ?_ (ObRs.pass rfl (ObRs.cons ?_ (ObRs.pass rfl (ObRs.nil)))))))))))))))))) (ObWs.get (ObWs.cons ?_ (ObWs.cons ?_ (ObWs.nil)))) ?_
 ·
  intro aA wA cA hNA hRA hckA hOA hbsA hdpA
  have qA_0 := (hbsA 0 rfl).trans (sl_base hN rfl s0)
  clear hbsA hdpA
  refine op_move (ev_base hNA rfl qA_0) ?_
  exact obR_end rfl rfl (grown_refl _ _)
 ·
  intro aA wA cA hNA hRA hckA hOA hbsA hdpA
  have qA_1 := (hbsA 1 rfl).trans (sl_base hN rfl s1)
  clear hbsA hdpA
  refine op_move (ev_base hNA rfl qA_1) ?_
  exact obR_end rfl rfl (grown_refl _ _)
 ·
  intro aA wA cA hNA hRA hckA hOA hbsA hdpA
  have qA_0 := (hbsA 0 rfl).trans (sl_base hN rfl s0)
  clear hbsA hdpA
  refine op_move (ev_base hNA rfl qA_0) ?_
  exact obR_end rfl rfl (grown_refl _ _)
 ·
  intro aA wA cA hNA hRA hckA hOA hbsA hdpA
  have qA_3 := (hbsA 3 rfl).trans (sl_base hN rfl s3)
  clear hbsA hdpA
  refine op_move (ev_base hNA rfl qA_3) ?_
  exact obR_end rfl rfl (grown_refl _ _)
 ·
  intro aA wA cA hNA hRA hckA hOA hbsA hdpA
  have qA_0 := (hbsA 0 rfl).trans (sl_base hN rfl s0)
  clear hbsA hdpA
  refine op_move (ev_base hNA rfl qA_0) ?_
  exact obR_end rfl rfl (grown_refl _ _)
 ·
  intro aA wA cA hNA hRA hckA hOA hbsA hdpA
  have qA_3 := (hbsA 3 rfl).trans (sl_base hN rfl s3)
  clear hbsA hdpA
  refine op_move (ev_base hNA rfl qA_3) ?_
  exact obR_end rfl rfl (grown_refl _ _)
 ·
  intro aA wA cA hNA hRA hckA hOA hbsA hdpA
  have qA_16 : Sl aA 16 v := hdpA 4 _ 16 (by kernel_rfl) rfl rfl
  have qA_17 : Sl aA 17 (Value.int .i64 ((pv : Nat) : Int)) := hdpA 5 _ 17 (by kernel_rfl) rfl rfl
  clear hbsA hdpA
  refine op_index_own (i := pv) slt22 (ev_base hNA rfl qA_16) hOA (ev_base hNA rfl qA_17) (by omega) (by omega) ?_
  intro b_ o_ _ hA_
  exact obR_end rfl ⟨b_, o_, rfl, by simpa using hA_⟩ (grown_refl _ _)
 ·
  intro aA wA cA hNA hRA hckA hOA hbsA hdpA
  obtain ⟨bA_18, oA_18, qA_18, hAA_18⟩ := hdpA 6 _ 18 (by kernel_rfl) rfl rfl
  clear hbsA hdpA
  obtain rfl : cA = 0 := Nat.le_zero.1 (hckA 0 13 rfl (by kernel_rfl))
  have hOA : Own wA base 35 1 v n (d.toList.map u16v) := hOA
  refine op_load1 (v := (Value.int .u16 (d[pv]!.toNat : Int))) one35 (ev_base hNA rfl qA_18) (by have := hOA.cellAt hAA_18 0 _ (el_at (i := pv) (by first | omega | (simp only [Array.size_setIfInBounds, swp_sz, siftDown_size]; omega))); simpa using this) ?_
  exact obR_end rfl rfl (grown_refl _ _)
 ·
  intro aA wA cA hNA hRA hckA hOA hbsA hdpA
  have qA_0 := (hbsA 0 rfl).trans (sl_base hN rfl s0)
  clear hbsA hdpA
  refine op_move (ev_base hNA rfl qA_0) ?_
  exact obR_end rfl rfl (grown_refl _ _)
 ·
  intro aA wA cA hNA hRA hckA hOA hbsA hdpA
  have qA_1 := (hbsA 1 rfl).trans (sl_base hN rfl s1)
  clear hbsA hdpA
  refine op_move (ev_base hNA rfl qA_1) ?_
  exact obR_end rfl rfl (grown_refl _ _)
 ·
  intro aA wA cA hNA hRA hckA hOA hbsA hdpA
  have qA_20 : Sl aA 20 v := hdpA 8 _ 20 (by kernel_rfl) rfl rfl
  have qA_21 : Sl aA 21 (Value.int .i64 ((a : Nat) : Int)) := hdpA 9 _ 21 (by kernel_rfl) rfl rfl
  clear hbsA hdpA
  refine op_index_own (i := a) slt22 (ev_base hNA rfl qA_20) hOA (ev_base hNA rfl qA_21) (by omega) (by omega) ?_
  intro b_ o_ _ hA_
  exact obR_end rfl ⟨b_, o_, rfl, by simpa using hA_⟩ (grown_refl _ _)
 ·
  intro aA wA cA hNA hRA hckA hOA hbsA hdpA
  obtain ⟨bA_22, oA_22, qA_22, hAA_22⟩ := hdpA 10 _ 22 (by kernel_rfl) rfl rfl
  clear hbsA hdpA
  obtain rfl : cA = 0 := Nat.le_zero.1 (hckA 0 13 rfl (by kernel_rfl))
  have hOA : Own wA base 35 1 v n (d.toList.map u16v) := hOA
  refine op_load1 (v := (Value.int .u16 (d[a]!.toNat : Int))) one35 (ev_base hNA rfl qA_22) (by have := hOA.cellAt hAA_22 0 _ (el_at (i := a) (by first | omega | (simp only [Array.size_setIfInBounds, swp_sz, siftDown_size]; omega))); simpa using this) ?_
  exact obR_end rfl rfl (grown_refl _ _)
 ·
  intro aA wA cA hNA hRA hckA hOA hbsA hdpA
  have qA_12 : Sl aA 12 v := hdpA 0 _ 12 (by kernel_rfl) rfl rfl
  have qA_13 : Sl aA 13 (Value.int .i64 ((a : Nat) : Int)) := hdpA 1 _ 13 (by kernel_rfl) rfl rfl
  clear hbsA hdpA
  refine op_index_own (i := a) slt22 (ev_base hNA rfl qA_12) hOA (ev_base hNA rfl qA_13) (by omega) (by omega) ?_
  intro b_ o_ _ hA_
  exact obR_end rfl ⟨b_, o_, rfl, by simpa using hA_⟩ (grown_refl _ _)
 ·
  intro aA wA cA hNA hRA hckA hOA hbsA hdpA
  have qA_14 : Sl aA 14 v := hdpA 2 _ 14 (by kernel_rfl) rfl rfl
  have qA_15 : Sl aA 15 (Value.int .i64 ((pv : Nat) : Int)) := hdpA 3 _ 15 (by kernel_rfl) rfl rfl
  clear hbsA hdpA
  refine op_index_own (i := pv) slt22 (ev_base hNA rfl qA_14) hOA (ev_base hNA rfl qA_15) (by omega) (by omega) ?_
  intro b_ o_ _ hA_
  exact obR_end rfl ⟨b_, o_, rfl, by simpa using hA_⟩ (grown_refl _ _)
 ·
  intro o_ ho_; obtain rfl := Option.some.inj ho_; intro aA wA hNA hRA hbsA hdpA hOA
  obtain ⟨bA_24, oA_24, qA_24, hAA_24⟩ := hdpA 12 _ 24 (by kernel_rfl) rfl rfl
  have qA_19 : Sl aA 19 (Value.int .u16 (d[pv]!.toNat : Int)) := hdpA 7 _ 19 (by kernel_rfl) rfl rfl
  clear hbsA hdpA
  have hOA : Own wA base 35 1 v n (d.toList.map u16v) := hOA
  refine op_store_own (vs := [(Value.int .u16 (d[pv]!.toNat : Int))]) size35 (ev_base hNA rfl qA_24) (ev_base hNA rfl qA_19) rfl rfl rfl hOA hAA_24 (by have := hOA.1; simp at this ⊢; omega) ?_
  intro w_ hO_ E_
  exact obW_end rfl (hO_.cast rfl (set_arr (by first | omega | (simp only [Array.size_setIfInBounds, swp_sz, siftDown_size]; omega)))) E_
 ·
  intro o_ ho_; obtain rfl := Option.some.inj ho_; intro aA wA hNA hRA hbsA hdpA hOA
  obtain ⟨bA_25, oA_25, qA_25, hAA_25⟩ := hdpA 14 _ 25 (by kernel_rfl) rfl rfl
  have qA_23 : Sl aA 23 (Value.int .u16 (d[a]!.toNat : Int)) := hdpA 11 _ 23 (by kernel_rfl) rfl rfl
  clear hbsA hdpA
  have hOA : Own wA base 35 1 v n ((d.setIfInBounds a d[pv]!).toList.map u16v) := hOA
  refine op_store_own (vs := [(Value.int .u16 (d[a]!.toNat : Int))]) size35 (ev_base hNA rfl qA_25) (ev_base hNA rfl qA_23) rfl rfl rfl hOA hAA_25 (by have := hOA.1; simp at this ⊢; omega) ?_
  intro w_ hO_ E_
  exact obW_end rfl (hO_.cast rfl (set_arr (by first | omega | (simp only [Array.size_setIfInBounds, swp_sz, siftDown_size]; omega)))) E_
 ·
  intro a180 w180 hN180 hd180 hbs180 hph180 hO180 E180
  have hd180 := hd180.trans hd
  have s180_0 := (hbs180 0 rfl).trans (sl_base hN rfl s0)
  have s180_1 := (hbs180 1 rfl).trans (sl_base hN rfl s1)
  have s180_2 := (hbs180 2 rfl).trans (sl_base hN rfl s2)
  have s180_8 := (hbs180 8 rfl).trans (sl_hit hN rfl)
  have s180_9 := (hbs180 9 rfl).trans (sl_hit hN rfl)
  clear hbs180 hph180
  have hO180 : Own w180 base 35 1 v n (((d.setIfInBounds a d[pv]!).setIfInBounds pv d[a]!).toList.map u16v) := hO180
  have z_w180 := E180.size
  have hb := grow_stepX hb E180 rfl
  refine hK179 _ _ ?_
  refine seq_join1 (N := 168) (fun az_ w' => ∃ (d1 : Ar), (az_.tmps.getD 0 undef = v) ∧ (az_.tmps.getD 1 undef = (Value.int .i64 ((a : Nat) : Int))) ∧ (az_.tmps.getD 8 undef = (Value.int .i64 0)) ∧ (az_.tmps.getD 9 undef = (Value.bool false)) ∧ (az_.tmps.getD 10 undef = (Value.int .i64 (((a : Nat) : Int) + 1))) ∧ (az_.tmps.getD 11 undef = (Value.int .i64 (((b - 1) : Nat) : Int))) ∧ (d1 = swp d a pv) ∧ (d1.size = n) ∧ (w.grownBy w' v.ownBlock) ∧ (w180.heap.size ≤ w'.heap.size) ∧ (Own w' base 35 1 v n (d1.toList.map u16v))) (fun hJ181 => ?_) ?_
  ·
   refine seq_any fun K183 hK183 => ?_
   refine one_reg ?_
   refine op_move (ev_base hN180 rfl s180_1) ?_
   refine op_add (ev_hit hN180 rfl) rfl (add64 (by omega)) ?_
   refine op_move (ev_base hN180 rfl s180_2) ?_
   refine op_sub (r := ((b - 1 : Nat) : Int)) (ev_hit hN180 rfl) rfl (by rw [IntKind.wrap_i64]; omega) ?_
   refine op_assign (ev_hit hN180 rfl) ?_
   refine op_assign (ev_hit hN180 rfl) ?_
   refine reg_nil ?_
   refine hK183 _ _ ?_
   exact hJ181 _ _ _ hN180 hd180 ⟨_, (sl_base hN180 rfl s180_0), (sl_base hN180 rfl s180_1), (sl_base hN180 rfl s180_8), (sl_base hN180 rfl s180_9), (sl_hit hN180 rfl), (sl_hit hN180 rfl), rfl, (by first | assumption | (simp only [Array.size_setIfInBounds, swp_sz, siftDown_size]; assumption)), hb, (by omega), hO180⟩
  ·
   rintro a181 w181 hN181 hd181 ⟨d1, s181_0, s181_1, s181_8, s181_9, s181_10, s181_11, hd1, hz1, hb, zl_w181, hO182⟩
   have z_w181 := hb.size
   refine seq_join1 (N := 168) (fun az_ w' => ∃ (i2 : Nat), (az_.tmps.getD 0 undef = v) ∧ (az_.tmps.getD 1 undef = (Value.int .i64 ((a : Nat) : Int))) ∧ (az_.tmps.getD 8 undef = (Value.int .i64 0)) ∧ (az_.tmps.getD 9 undef = (Value.bool false)) ∧ (az_.tmps.getD 11 undef = (Value.int .i64 (((b - 1) : Nat) : Int))) ∧ (az_.tmps.getD 10 undef = (Value.int .i64 ((i2 : Nat) : Int))) ∧ (a + 1 ≤ i2 ∧ i2 ≤ b) ∧ (scanUp (fun x => ltT x d1[a]!) d1 (b - 1) (a + 1) = i2) ∧ (i2 ≤ b - 1 → ltT d1[i2]! d1[a]! = false) ∧ (w.grownBy w' v.ownBlock) ∧ (w181.heap.size ≤ w'.heap.size) ∧ (Own w' base 35 1 v n (d1.toList.map u16v))) (fun hJ184 => ?_) ?_
   ·
    refine seq_any fun K185 hK185 => ?_
    refine wp_block ?_
    refine loop_m (fun mz_ az_ w' => ∃ (i2 : Nat), mz_ = (b + 1 - i2) ∧ (az_.tmps.getD 0 undef = v) ∧ (az_.tmps.getD 1 undef = (Value.int .i64 ((a : Nat) : Int))) ∧ (az_.tmps.getD 8 undef = (Value.int .i64 0)) ∧ (az_.tmps.getD 9 undef = (Value.bool false)) ∧ (az_.tmps.getD 11 undef = (Value.int .i64 (((b - 1) : Nat) : Int))) ∧ (az_.tmps.getD 10 undef = (Value.int .i64 ((i2 : Nat) : Int))) ∧ (a + 1 ≤ i2 ∧ i2 ≤ b) ∧ (scanUp (fun x => ltT x d1[a]!) d1 (b - 1) (a + 1) = scanUp (fun x => ltT x d1[a]!) d1 (b - 1) i2) ∧ (w.grownBy w' v.ownBlock) ∧ (w181.heap.size ≤ w'.heap.size) ∧ (Own w' base 35 1 v n (d1.toList.map u16v))) _ hN181 hd181 ⟨(a + 1), rfl, (sl_base hN181 rfl s181_0), (sl_base hN181 rfl s181_1), (sl_base hN181 rfl s181_8), (sl_base hN181 rfl s181_9), (sl_base hN181 rfl s181_11), (sl_base hN181 rfl s181_10).trans (congrArg (Value.int .i64) (by omega)), (by omega), rfl, hb, (Nat.le_refl _), hO182⟩ ?_
    rintro _ a186 w186 hN186 hd186 ⟨i2, rfl, s186_0, s186_1, s186_8, s186_9, s186_11, s186_10, hr2, hu1, hb, zl_w186, hO182⟩
    have z_w186 := hb.size
    refine seq_any fun K187 hK187 => ?_
    refine seq_any fun K188 hK188 => ?_
    refine reg_still mixed (by kernel_rfl) ?_
    intro w190 E189
    have z_w190 := E189.size
    have hO182 := hO182.keep0 E189
    have hb := grow_step0 hb E189
    refine st_step rfl (fun _ h9 => op_move (ev_base hN186 rfl s186_10) h9) ?_
    refine st_step rfl (fun _ h9 => op_move (ev_base hN186 rfl s186_11) h9) ?_
    by_cases g32 : ((i2 : Nat) : Int) ≤ (((b - 1) : Nat) : Int)
    · -- 32T
     refine st_step rfl (fun _ h9 => op_cmp (b := true) (ev_hit hN186 rfl) (ev_hit hN186 rfl) (b_leq (decide_eq_true g32)) h9) ?_
     refine st_step rfl (fun _ h9 => op_move (ev_hit hN186 rfl) h9) ?_
     refine st_g_true (j := 3) (dj := 33) (b := true) rfl rfl rfl (ev_hit hN186 rfl) ?_
     refine st_step rfl (fun _ h9 => op_move (ev_base hN186 rfl s186_0) h9) ?_
     refine st_g_true (j := 3) (dj := 33) (b := true) rfl rfl rfl (ev_hit hN186 rfl) ?_
     refine st_step rfl (fun _ h9 => op_move (ev_base hN186 rfl s186_10) h9) ?_
     refine st_g_true (j := 3) (dj := 33) (b := true) rfl rfl rfl (ev_hit hN186 rfl) ?_
     refine st_index_rd slt22 (ev_hit hN186 rfl) hO182.rdw (ev_hit hN186 rfl) (by omega) (by omega) ?_
     intro b191 o192 h0b191 h1b191 hc193
     refine st_g_true (j := 3) (dj := 33) (b := true) rfl rfl rfl (ev_hit hN186 rfl) ?_
     refine st_step rfl (fun _ h9 => op_load1 (v := (Value.int .u16 (d1[i2]!.toNat : Int))) one35 (ev_hit hN186 rfl) (by have := hc193 0 (Value.int .u16 (d1[i2]!.toNat : Int)) (by decide) (el_arr (i := i2) (by omega) (by first | omega | (simp only [Array.size_setIfInBounds, swp_sz, siftDown_size]; omega))); simpa using this) h9) ?_
     refine st_g_true (j := 3) (dj := 33) (b := true) rfl rfl rfl (ev_hit hN186 rfl) ?_
     refine st_step rfl (fun _ h9 => op_move (ev_base hN186 rfl s186_0) h9) ?_
     refine st_g_true (j := 3) (dj := 33) (b := true) rfl rfl rfl (ev_hit hN186 rfl) ?_
     refine st_step rfl (fun _ h9 => op_move (ev_base hN186 rfl s186_1) h9) ?_
     refine st_g_true (j := 3) (dj := 33) (b := true) rfl rfl rfl (ev_hit hN186 rfl) ?_
     refine st_index_rd slt22 (ev_hit hN186 rfl) hO182.rdw (ev_hit hN186 rfl) (by omega) (by omega) ?_
     intro b194 o195 h0b194 h1b194 hc196
     refine st_g_true (j := 3) (dj := 33) (b := true) rfl rfl rfl (ev_hit hN186 rfl) ?_
     refine st_step rfl (fun _ h9 => op_load1 (v := (Value.int .u16 (d1[a]!.toNat : Int))) one35 (ev_hit hN186 rfl) (by have := hc196 0 (Value.int .u16 (d1[a]!.toNat : Int)) (by decide) (el_arr (i := a) (by omega) (by first | omega | (simp only [Array.size_setIfInBounds, swp_sz, siftDown_size]; omega))); simpa using this) h9) ?_
     refine st_g_true (j := 3) (dj := 33) (b := true) rfl rfl rfl (ev_hit hN186 rfl) ?_
     refine st_fn (vs := [(Value.int .u16 (d1[i2]!.toNat : Int)), (Value.int .u16 (d1[a]!.toNat : Int))]) ok72 (⟨(ev_hit hN186 rfl), ⟨(ev_hit hN186 rfl), trivial⟩⟩) (Less16_ret d1[i2]! d1[a]! _) ?_
     refine st_step rfl (fun _ h9 => op_pick_t (ev_hit hN186 rfl) (ev_hit hN186 rfl) h9) ?_
     refine st_nil ?_
     refine hK188 _ _ ?_
     refine wp_cond_split (ev_hit hN186 rfl) (fun c43 => ?_) (fun c43 => ?_)
     · -- 43T
      refine wp_skip ?_
      refine hK187 _ _ ?_
      refine wp_block ?_
      refine one_reg ?_
      refine op_move (ev_base hN186 rfl s186_10) ?_
      refine op_add (ev_hit hN186 rfl) rfl (add64 (by omega)) ?_
      refine op_assign (ev_hit hN186 rfl) ?_
      refine reg_nil ?_
      refine blk_normal ?_
      -- round 32T 43T
      exact loop_next _ hN186 hd186 ⟨(i2 + 1), rfl, (sl_base hN186 rfl s186_0), (sl_base hN186 rfl s186_1), (sl_base hN186 rfl s186_8), (sl_base hN186 rfl s186_9), (sl_base hN186 rfl s186_11), (sl_hit hN186 rfl).trans (congrArg (Value.int .i64) (by omega)), (by omega), (hu1.trans (scanUp_go (by omega) c43)), hb, (by omega), hO182⟩ (by omega)
     · -- 43F
      refine wp_exit (then_exit (then_exit (blk_hit ?_)))
      refine hK185 _ _ ?_
      exact hJ184 _ _ _ hN186 hd186 ⟨i2, (sl_base hN186 rfl s186_0), (sl_base hN186 rfl s186_1), (sl_base hN186 rfl s186_8), (sl_base hN186 rfl s186_9), (sl_base hN186 rfl s186_11), (sl_base hN186 rfl s186_10), (by omega), (hu1.trans (scanUp_stop (.inr c43))), (fun _ => c43), hb, (by omega), hO182⟩
    · -- 32F
     refine st_step rfl (fun _ h9 => op_cmp (b := false) (ev_hit hN186 rfl) (ev_hit hN186 rfl) (b_leq (decide_eq_false g32)) h9) ?_
     refine st_step rfl (fun _ h9 => op_move (ev_hit hN186 rfl) h9) ?_
     refine st_g_false (j := 3) (dj := 33) (b := true) rfl rfl rfl (ev_hit hN186 rfl) rfl rfl ?_
     refine st_g_false (j := 3) (dj := 33) (b := true) rfl rfl rfl (ev_hit hN186 rfl) rfl rfl ?_
     refine st_g_false (j := 3) (dj := 33) (b := true) rfl rfl rfl (ev_hit hN186 rfl) rfl rfl ?_
     refine st_g_false (j := 3) (dj := 33) (b := true) rfl rfl rfl (ev_hit hN186 rfl) rfl rfl ?_
     refine st_g_false (j := 3) (dj := 33) (b := true) rfl rfl rfl (ev_hit hN186 rfl) rfl rfl ?_
     refine st_g_false (j := 3) (dj := 33) (b := true) rfl rfl rfl (ev_hit hN186 rfl) rfl rfl ?_
     refine st_g_false (j := 3) (dj := 33) (b := true) rfl rfl rfl (ev_hit hN186 rfl) rfl rfl ?_
     refine st_g_false (j := 3) (dj := 33) (b := true) rfl rfl rfl (ev_hit hN186 rfl) rfl rfl ?_
     refine st_g_false (j := 3) (dj := 33) (b := true) rfl rfl rfl (ev_hit hN186 rfl) rfl rfl ?_
     refine st_step rfl (fun _ h9 => op_pick_f (ev_hit hN186 rfl) rfl h9) ?_
     refine st_nil ?_
     refine hK188 _ _ ?_
     refine wp_cond_false (ev_hit hN186 rfl) ?_
     refine wp_exit (then_exit (then_exit (blk_hit ?_)))
     refine hK185 _ _ ?_
     exact hJ184 _ _ _ hN186 hd186 ⟨i2, (sl_base hN186 rfl s186_0), (sl_base hN186 rfl s186_1), (sl_base hN186 rfl s186_8), (sl_base hN186 rfl s186_9), (sl_base hN186 rfl s186_11), (sl_base hN186 rfl s186_10), (by omega), (hu1.trans (scanUp_stop (.inl (by omega)))), (fun hq => absurd hq (by omega)), hb, (by omega), hO182⟩
   ·
    rintro a184 w184 hN184 hd184 ⟨i2, s184_0, s184_1, s184_8, s184_9, s184_11, s184_10, hr2, hu2, hx2, hb, zl_w184, hO182⟩
    have z_w184 := hb.size
    refine seq_join1 (N := 168) (fun az_ w' => ∃ (j2 : Nat), (az_.tmps.getD 0 undef = v) ∧ (az_.tmps.getD 1 undef = (Value.int .i64 ((a : Nat) : Int))) ∧ (az_.tmps.getD 8 undef = (Value.int .i64 0)) ∧ (az_.tmps.getD 9 undef = (Value.bool false)) ∧ (az_.tmps.getD 10 undef = (Value.int .i64 ((i2 : Nat) : Int))) ∧ (az_.tmps.getD 11 undef = (Value.int .i64 ((j2 : Nat) : Int))) ∧ (j2 ≤ b - 1 ∧ i2 ≤ j2 + 1) ∧ (scanDown (fun x => !ltT x d1[a]!) d1 i2 (b - 1) = j2) ∧ (i2 ≠ j2) ∧ (w.grownBy w' v.ownBlock) ∧ (w184.heap.size ≤ w'.heap.size) ∧ (Own w' base 35 1 v n (d1.toList.map u16v))) (fun hJ197 => ?_) ?_
    ·
     refine seq_any fun K198 hK198 => ?_
     refine wp_block ?_
     refine loop_m (fun mz_ az_ w' => ∃ (j2 : Nat), mz_ = (j2 + 1) ∧ (az_.tmps.getD 0 undef = v) ∧ (az_.tmps.getD 1 undef = (Value.int .i64 ((a : Nat) : Int))) ∧ (az_.tmps.getD 8 undef = (Value.int .i64 0)) ∧ (az_.tmps.getD 9 undef = (Value.bool false)) ∧ (az_.tmps.getD 10 undef = (Value.int .i64 ((i2 : Nat) : Int))) ∧ (az_.tmps.getD 11 undef = (Value.int .i64 ((j2 : Nat) : Int))) ∧ (j2 ≤ b - 1 ∧ i2 ≤ j2 + 1) ∧ (scanDown (fun x => !ltT x d1[a]!) d1 i2 (b - 1) = scanDown (fun x => !ltT x d1[a]!) d1 i2 j2) ∧ (w.grownBy w' v.ownBlock) ∧ (w184.heap.size ≤ w'.heap.size) ∧ (Own w' base 35 1 v n (d1.toList.map u16v))) _ hN184 hd184 ⟨(b - 1), rfl, (sl_base hN184 rfl s184_0), (sl_base hN184 rfl s184_1), (sl_base hN184 rfl s184_8), (sl_base hN184 rfl s184_9), (sl_base hN184 rfl s184_10), (sl_base hN184 rfl s184_11).trans (congrArg (Value.int .i64) (by omega)), (by omega), rfl, hb, (Nat.le_refl _), hO182⟩ ?_
     rintro _ a199 w199 hN199 hd199 ⟨j2, rfl, s199_0, s199_1, s199_8, s199_9, s199_10, s199_11, hr3, hv1, hb, zl_w199, hO182⟩
     have z_w199 := hb.size
     refine seq_any fun K200 hK200 => ?_
     refine seq_any fun K201 hK201 => ?_
     refine reg_still mixed (by kernel_rfl) ?_
     intro w203 E202
     have z_w203 := E202.size
     have hO182 := hO182.keep0 E202
     have hb := grow_step0 hb E202
     refine st_step rfl (fun _ h9 => op_move (ev_base hN199 rfl s199_10) h9) ?_
     refine st_step rfl (fun _ h9 => op_move (ev_base hN199 rfl s199_11) h9) ?_
     by_cases g48 : ((i2 : Nat) : Int) ≤ ((j2 : Nat) : Int)
     · -- 48T
      refine st_step rfl (fun _ h9 => op_cmp (b := true) (ev_hit hN199 rfl) (ev_hit hN199 rfl) (b_leq (decide_eq_true g48)) h9) ?_
      refine st_step rfl (fun _ h9 => op_move (ev_hit hN199 rfl) h9) ?_
      refine st_g_true (j := 3) (dj := 49) (b := true) rfl rfl rfl (ev_hit hN199 rfl) ?_
      refine st_step rfl (fun _ h9 => op_move (ev_base hN199 rfl s199_0) h9) ?_
      refine st_g_true (j := 3) (dj := 49) (b := true) rfl rfl rfl (ev_hit hN199 rfl) ?_
      refine st_step rfl (fun _ h9 => op_move (ev_base hN199 rfl s199_11) h9) ?_
      refine st_g_true (j := 3) (dj := 49) (b := true) rfl rfl rfl (ev_hit hN199 rfl) ?_
      refine st_index_rd slt22 (ev_hit hN199 rfl) hO182.rdw (ev_hit hN199 rfl) (by omega) (by omega) ?_
      intro b204 o205 h0b204 h1b204 hc206
      refine st_g_true (j := 3) (dj := 49) (b := true) rfl rfl rfl (ev_hit hN199 rfl) ?_
      refine st_step rfl (fun _ h9 => op_load1 (v := (Value.int .u16 (d1[j2]!.toNat : Int))) one35 (ev_hit hN199 rfl) (by have := hc206 0 (Value.int .u16 (d1[j2]!.toNat : Int)) (by decide) (el_arr (i := j2) (by omega) (by first | omega | (simp only [Array.size_setIfInBounds, swp_sz, siftDown_size]; omega))); simpa using this) h9) ?_
      refine st_g_true (j := 3) (dj := 49) (b := true) rfl rfl rfl (ev_hit hN199 rfl) ?_
      refine st_step rfl (fun _ h9 => op_move (ev_base hN199 rfl s199_0) h9) ?_
      refine st_g_true (j := 3) (dj := 49) (b := true) rfl rfl rfl (ev_hit hN199 rfl) ?_
      refine st_step rfl (fun _ h9 => op_move (ev_base hN199 rfl s199_1) h9) ?_
      refine st_g_true (j := 3) (dj := 49) (b := true) rfl rfl rfl (ev_hit hN199 rfl) ?_
      refine st_index_rd slt22 (ev_hit hN199 rfl) hO182.rdw (ev_hit hN199 rfl) (by omega) (by omega) ?_
      intro b207 o208 h0b207 h1b207 hc209
      refine st_g_true (j := 3) (dj := 49) (b := true) rfl rfl rfl (ev_hit hN199 rfl) ?_
      refine st_step rfl (fun _ h9 => op_load1 (v := (Value.int .u16 (d1[a]!.toNat : Int))) one35 (ev_hit hN199 rfl) (by have := hc209 0 (Value.int .u16 (d1[a]!.toNat : Int)) (by decide) (el_arr (i := a) (by omega) (by first | omega | (simp only [Array.size_setIfInBounds, swp_sz, siftDown_size]; omega))); simpa using this) h9) ?_
      refine st_g_true (j := 3) (dj := 49) (b := true) rfl rfl rfl (ev_hit hN199 rfl) ?_
      refine st_fn (vs := [(Value.int .u16 (d1[j2]!.toNat : Int)), (Value.int .u16 (d1[a]!.toNat : Int))]) ok72 (⟨(ev_hit hN199 rfl), ⟨(ev_hit hN199 rfl), trivial⟩⟩) (Less16_ret d1[j2]! d1[a]! _) ?_
      refine st_g_true (j := 3) (dj := 49) (b := true) rfl rfl rfl (ev_hit hN199 rfl) ?_
      refine st_step rfl (fun _ h9 => op_not (ev_hit hN199 rfl) h9) ?_
      refine st_step rfl (fun _ h9 => op_pick_t (ev_hit hN199 rfl) (ev_hit hN199 rfl) h9) ?_
      refine st_nil ?_
      refine hK201 _ _ ?_
      refine wp_cond_split (ev_hit hN199 rfl) (fun c60 => ?_) (fun c60 => ?_)
      · -- 60T
       refine wp_skip ?_
       refine hK200 _ _ ?_
       refine wp_block ?_
       refine one_reg ?_
       refine op_move (ev_base hN199 rfl s199_11) ?_
       refine op_sub (ev_hit hN199 rfl) rfl (sub64 (by omega)) ?_
       refine op_assign (ev_hit hN199 rfl) ?_
       refine reg_nil ?_
       refine blk_normal ?_
       -- round 48T 60T
       exact loop_next _ hN199 hd199 ⟨(j2 - 1), rfl, (sl_base hN199 rfl s199_0), (sl_base hN199 rfl s199_1), (sl_base hN199 rfl s199_8), (sl_base hN199 rfl s199_9), (sl_base hN199 rfl s199_10), (sl_hit hN199 rfl).trans (congrArg (Value.int .i64) (by omega)), (by omega), (hv1.trans (scanDown_go (by omega) (by omega) c60)), hb, (by omega), hO182⟩ (by omega)
      · -- 60F
       refine wp_exit (then_exit (then_exit (blk_hit ?_)))
       refine hK198 _ _ ?_
       exact hJ197 _ _ _ hN199 hd199 ⟨j2, (sl_base hN199 rfl s199_0), (sl_base hN199 rfl s199_1), (sl_base hN199 rfl s199_8), (sl_base hN199 rfl s199_9), (sl_base hN199 rfl s199_10), (sl_base hN199 rfl s199_11), (by omega), (hv1.trans (scanDown_stop (.inr c60))), (fun hh => by have h9 := hx2 (by omega); rw [hh] at h9; rw [h9] at c60; simp at c60), hb, (by omega), hO182⟩
     · -- 48F
      refine st_step rfl (fun _ h9 => op_cmp (b := false) (ev_hit hN199 rfl) (ev_hit hN199 rfl) (b_leq (decide_eq_false g48)) h9) ?_
      refine st_step rfl (fun _ h9 => op_move (ev_hit hN199 rfl) h9) ?_
      refine st_g_false (j := 3) (dj := 49) (b := true) rfl rfl rfl (ev_hit hN199 rfl) rfl rfl ?_
      refine st_g_false (j := 3) (dj := 49) (b := true) rfl rfl rfl (ev_hit hN199 rfl) rfl rfl ?_
      refine st_g_false (j := 3) (dj := 49) (b := true) rfl rfl rfl (ev_hit hN199 rfl) rfl rfl ?_
      refine st_g_false (j := 3) (dj := 49) (b := true) rfl rfl rfl (ev_hit hN199 rfl) rfl rfl ?_
      refine st_g_false (j := 3) (dj := 49) (b := true) rfl rfl rfl (ev_hit hN199 rfl) rfl rfl ?_
      refine st_g_false (j := 3) (dj := 49) (b := true) rfl rfl rfl (ev_hit hN199 rfl) rfl rfl ?_
      refine st_g_false (j := 3) (dj := 49) (b := true) rfl rfl rfl (ev_hit hN199 rfl) rfl rfl ?_
      refine st_g_false (j := 3) (dj := 49) (b := true) rfl rfl rfl (ev_hit hN199 rfl) rfl rfl ?_
      refine st_g_false (j := 3) (dj := 49) (b := true) rfl rfl rfl (ev_hit hN199 rfl) rfl rfl ?_
      refine st_g_false (j := 3) (dj := 49) (b := true) rfl rfl rfl (ev_hit hN199 rfl) rfl rfl ?_
      refine st_step rfl (fun _ h9 => op_pick_f (ev_hit hN199 rfl) rfl h9) ?_
      refine st_nil ?_
      refine hK201 _ _ ?_
      refine wp_cond_false (ev_hit hN199 rfl) ?_
      refine wp_exit (then_exit (then_exit (blk_hit ?_)))
      refine hK198 _ _ ?_
      exact hJ197 _ _ _ hN199 hd199 ⟨j2, (sl_base hN199 rfl s199_0), (sl_base hN199 rfl s199_1), (sl_base hN199 rfl s199_8), (sl_base hN199 rfl s199_9), (sl_base hN199 rfl s199_10), (sl_base hN199 rfl s199_11), (by omega), (hv1.trans (scanDown_stop (.inl (by omega)))), (by omega), hb, (by omega), hO182⟩
    ·
     rintro a197 w197 hN197 hd197 ⟨j2, s197_0, s197_1, s197_8, s197_9, s197_10, s197_11, hr3, hv2, hne, hb, zl_w197, hO182⟩
     have z_w197 := hb.size
     refine seq_any fun K210 hK210 => ?_
     refine seq_any fun K211 hK211 => ?_
     refine one_reg ?_
     refine op_move (ev_base hN197 rfl s197_10) ?_
     refine op_move (ev_base hN197 rfl s197_11) ?_
     refine op_gtr (ev_hit hN197 rfl) (ev_hit hN197 rfl) (fun c65 => ?_) (fun c65 => ?_)
     · -- 65T
      refine reg_nil ?_
      refine hK211 _ _ ?_
      refine wp_cond_true (ev_hit hN197 rfl) ?_
      refine seq_any fun K212 hK212 => ?_
      refine reg_mid (e := 35) (sz := 1) (base := base) (n := n) (v := v) (Φ := phiL [(fun uz _ => uz = v), (fun uz _ => uz = (Value.int .i64 ((j2 : Nat) : Int))), (fun uz _ => uz = v), (fun uz _ => uz = (Value.int .i64 ((a : Nat) : Int))), (fun uz _ => uz = v), (fun uz _ => uz = (Value.int .i64 ((a : Nat) : Int))), (fun uz _ => ∃ bz oz, uz = ptr bz oz ∧ AtV v a bz oz), (fun uz _ => uz = (Value.int .u16 (d1[a]!.toNat : Int))), (fun uz _ => uz = v), (fun uz _ => uz = (Value.int .i64 ((j2 : Nat) : Int))), (fun uz _ => ∃ bz oz, uz = ptr bz oz ∧ AtV v j2 bz oz), (fun uz _ => uz = (Value.int .u16 (d1[j2]!.toNat : Int))), (fun uz _ => ∃ bz oz, uz = ptr bz oz ∧ AtV v j2 bz oz), (fun _ _ => True), (fun uz _ => ∃ bz oz, uz = ptr bz oz ∧ AtV v a bz oz), (fun _ _ => True)]) [13, 15] [(d1.toList.map u16v), ((d1.setIfInBounds j2 d1[a]!).toList.map u16v), (((d1.setIfInBounds j2 d1[a]!).setIfInBounds a d1[j2]!).toList.map u16v)] mixed (by kernel_rfl) (by kernel_rfl) (by kernel_rfl) (by kernel_rfl) hN197 hO182 (StL.get (StL.eq (StL.eq (StL.eq (StL.eq (StL.eq (StL.eq (StL.at (StL.eq (StL.eq (StL.eq (StL.at (StL.eq (StL.at (StL.cons (fun _ _ _ _ h => h) (StL.at (StL.cons (fun _ _ _ _ h => h) (StL.nil _)))))))))))))))))) (ObRs.get (ObRs.cons ?_ (ObRs.cons ?_ (ObRs.cons ?_ (ObRs.cons ?_ (ObRs.cons ?_ (ObRs.cons ?_ (ObRs.cons ?_ (ObRs.cons ?_ (ObRs.cons ?_ (ObRs.cons ?_ (ObRs.cons ?_ (ObRs.cons ?_ (ObRs.cons ?_ (ObRs.pass rfl (ObRs.cons ?_ (ObRs.pass rfl (ObRs.nil)))))))))))))))))) (ObWs.get (ObWs.cons ?_ (ObWs.cons ?_ (ObWs.nil)))) ?_
      ·
       intro aA wA cA hNA hRA hckA hOA hbsA hdpA
       have qA_0 := (hbsA 0 rfl).trans (sl_base hN197 rfl s197_0)
       clear hbsA hdpA
       refine op_move (ev_base hNA rfl qA_0) ?_
       exact obR_end rfl rfl (grown_refl _ _)
      ·
       intro aA wA cA hNA hRA hckA hOA hbsA hdpA
       have qA_11 := (hbsA 11 rfl).trans (sl_base hN197 rfl s197_11)
       clear hbsA hdpA
       refine op_move (ev_base hNA rfl qA_11) ?_
       exact obR_end rfl rfl (grown_refl _ _)
      ·
       intro aA wA cA hNA hRA hckA hOA hbsA hdpA
       have qA_0 := (hbsA 0 rfl).trans (sl_base hN197 rfl s197_0)
       clear hbsA hdpA
       refine op_move (ev_base hNA rfl qA_0) ?_
       exact obR_end rfl rfl (grown_refl _ _)
      ·
       intro aA wA cA hNA hRA hckA hOA hbsA hdpA
       have qA_1 := (hbsA 1 rfl).trans (sl_base hN197 rfl s197_1)
       clear hbsA hdpA
       refine op_move (ev_base hNA rfl qA_1) ?_
       exact obR_end rfl rfl (grown_refl _ _)
      ·
       intro aA wA cA hNA hRA hckA hOA hbsA hdpA
       have qA_0 := (hbsA 0 rfl).trans (sl_base hN197 rfl s197_0)
       clear hbsA hdpA
       refine op_move (ev_base hNA rfl qA_0) ?_
       exact obR_end rfl rfl (grown_refl _ _)
      ·
       intro aA wA cA hNA hRA hckA hOA hbsA hdpA
       have qA_1 := (hbsA 1 rfl).trans (sl_base hN197 rfl s197_1)
       clear hbsA hdpA
       refine op_move (ev_base hNA rfl qA_1) ?_
       exact obR_end rfl rfl (grown_refl _ _)
      ·
       intro aA wA cA hNA hRA hckA hOA hbsA hdpA
       have qA_70 : Sl aA 70 v := hdpA 4 _ 70 (by kernel_rfl) rfl rfl
       have qA_71 : Sl aA 71 (Value.int .i64 ((a : Nat) : Int)) := hdpA 5 _ 71 (by kernel_rfl) rfl rfl
       clear hbsA hdpA
       refine op_index_own (i := a) slt22 (ev_base hNA rfl qA_70) hOA (ev_base hNA rfl qA_71) (by omega) (by omega) ?_
       intro b_ o_ _ hA_
       exact obR_end rfl ⟨b_, o_, rfl, by simpa using hA_⟩ (grown_refl _ _)
      ·
       intro aA wA cA hNA hRA hckA hOA hbsA hdpA
       obtain ⟨bA_72, oA_72, qA_72, hAA_72⟩ := hdpA 6 _ 72 (by kernel_rfl) rfl rfl
       clear hbsA hdpA
       obtain rfl : cA = 0 := Nat.le_zero.1 (hckA 0 13 rfl (by kernel_rfl))
       have hOA : Own wA base 35 1 v n (d1.toList.map u16v) := hOA
       refine op_load1 (v := (Value.int .u16 (d1[a]!.toNat : Int))) one35 (ev_base hNA rfl qA_72) (by have := hOA.cellAt hAA_72 0 _ (el_at (i := a) (by first | omega | (simp only [Array.size_setIfInBounds, swp_sz, siftDown_size]; omega))); simpa using this) ?_
       exact obR_end rfl rfl (grown_refl _ _)
      ·
       intro aA wA cA hNA hRA hckA hOA hbsA hdpA
       have qA_0 := (hbsA 0 rfl).trans (sl_base hN197 rfl s197_0)
       clear hbsA hdpA
       refine op_move (ev_base hNA rfl qA_0) ?_
       exact obR_end rfl rfl (grown_refl _ _)
      ·
       intro aA wA cA hNA hRA hckA hOA hbsA hdpA
       have qA_11 := (hbsA 11 rfl).trans (sl_base hN197 rfl s197_11)
       clear hbsA hdpA
       refine op_move (ev_base hNA rfl qA_11) ?_
       exact obR_end rfl rfl (grown_refl _ _)
      ·
       intro aA wA cA hNA hRA hckA hOA hbsA hdpA
       have qA_74 : Sl aA 74 v := hdpA 8 _ 74 (by kernel_rfl) rfl rfl
       have qA_75 : Sl aA 75 (Value.int .i64 ((j2 : Nat) : Int)) := hdpA 9 _ 75 (by kernel_rfl) rfl rfl
       clear hbsA hdpA
       refine op_index_own (i := j2) slt22 (ev_base hNA rfl qA_74) hOA (ev_base hNA rfl qA_75) (by omega) (by omega) ?_
       intro b_ o_ _ hA_
       exact obR_end rfl ⟨b_, o_, rfl, by simpa using hA_⟩ (grown_refl _ _)
      ·
       intro aA wA cA hNA hRA hckA hOA hbsA hdpA
       obtain ⟨bA_76, oA_76, qA_76, hAA_76⟩ := hdpA 10 _ 76 (by kernel_rfl) rfl rfl
       clear hbsA hdpA
       obtain rfl : cA = 0 := Nat.le_zero.1 (hckA 0 13 rfl (by kernel_rfl))
       have hOA : Own wA base 35 1 v n (d1.toList.map u16v) := hOA
       refine op_load1 (v := (Value.int .u16 (d1[j2]!.toNat : Int))) one35 (ev_base hNA rfl qA_76) (by have := hOA.cellAt hAA_76 0 _ (el_at (i := j2) (by first | omega | (simp only [Array.size_setIfInBounds, swp_sz, siftDown_size]; omega))); simpa using this) ?_
       exact obR_end rfl rfl (grown_refl _ _)
      ·
       intro aA wA cA hNA hRA hckA hOA hbsA hdpA
       have qA_66 : Sl aA 66 v := hdpA 0 _ 66 (by kernel_rfl) rfl rfl
       have qA_67 : Sl aA 67 (Value.int .i64 ((j2 : Nat) : Int)) := hdpA 1 _ 67 (by kernel_rfl) rfl rfl
       clear hbsA hdpA
       refine op_index_own (i := j2) slt22 (ev_base hNA rfl qA_66) hOA (ev_base hNA rfl qA_67) (by omega) (by omega) ?_
       intro b_ o_ _ hA_
       exact obR_end rfl ⟨b_, o_, rfl, by simpa using hA_⟩ (grown_refl _ _)
      ·
       intro aA wA cA hNA hRA hckA hOA hbsA hdpA
       have qA_68 : Sl aA 68 v := hdpA 2 _ 68 (by kernel_rfl) rfl rfl
       have qA_69 : Sl aA 69 (Value.int .i64 ((a : Nat) : Int)) := hdpA 3 _ 69 (by kernel_rfl) rfl rfl
       clear hbsA hdpA
       refine op_index_own (i := a) slt22 (ev_base hNA rfl qA_68) hOA (ev_base hNA rfl qA_69) (by omega) (by omega) ?_
       intro b_ o_ _ hA_
       exact obR_end rfl ⟨b_, o_, rfl, by simpa using hA_⟩ (grown_refl _ _)
      ·
       intro o_ ho_; obtain rfl := Option.some.inj ho_; intro aA wA hNA hRA hbsA hdpA hOA
       obtain ⟨bA_78, oA_78, qA_78, hAA_78⟩ := hdpA 12 _ 78 (by kernel_rfl) rfl rfl
       have qA_73 : Sl aA 73 (Value.int .u16 (d1[a]!.toNat : Int)) := hdpA 7 _ 73 (by kernel_rfl) rfl rfl
       clear hbsA hdpA
       have hOA : Own wA base 35 1 v n (d1.toList.map u16v) := hOA
       refine op_store_own (vs := [(Value.int .u16 (d1[a]!.toNat : Int))]) size35 (ev_base hNA rfl qA_78) (ev_base hNA rfl qA_73) rfl rfl rfl hOA hAA_78 (by have := hOA.1; simp at this ⊢; omega) ?_
       intro w_ hO_ E_
       exact obW_end rfl (hO_.cast rfl (set_arr (by first | omega | (simp only [Array.size_setIfInBounds, swp_sz, siftDown_size]; omega)))) E_
      ·
       intro o_ ho_; obtain rfl := Option.some.inj ho_; intro aA wA hNA hRA hbsA hdpA hOA
       obtain ⟨bA_79, oA_79, qA_79, hAA_79⟩ := hdpA 14 _ 79 (by kernel_rfl) rfl rfl
       have qA_77 : Sl aA 77 (Value.int .u16 (d1[j2]!.toNat : Int)) := hdpA 11 _ 77 (by kernel_rfl) rfl rfl
       clear hbsA hdpA
       have hOA : Own wA base 35 1 v n ((d1.setIfInBounds j2 d1[a]!).toList.map u16v) := hOA
       refine op_store_own (vs := [(Value.int .u16 (d1[j2]!.toNat : Int))]) size35 (ev_base hNA rfl qA_79) (ev_base hNA rfl qA_77) rfl rfl rfl hOA hAA_79 (by have := hOA.1; simp at this ⊢; omega) ?_
       intro w_ hO_ E_
       exact obW_end rfl (hO_.cast rfl (set_arr (by first | omega | (simp only [Array.size_setIfInBounds, swp_sz, siftDown_size]; omega)))) E_
      ·
       intro a213 w213 hN213 hd213 hbs213 hph213 hO213 E213
       have hd213 := hd213.trans hd197
       have s213_0 := (hbs213 0 rfl).trans (sl_base hN197 rfl s197_0)
       have s213_1 := (hbs213 1 rfl).trans (sl_base hN197 rfl s197_1)
       have s213_8 := (hbs213 8 rfl).trans (sl_base hN197 rfl s197_8)
       have s213_9 := (hbs213 9 rfl).trans (sl_base hN197 rfl s197_9)
       have s213_10 := (hbs213 10 rfl).trans (sl_base hN197 rfl s197_10)
       have s213_11 := (hbs213 11 rfl).trans (sl_base hN197 rfl s197_11)
       clear hbs213 hph213
       have hO213 : Own w213 base 35 1 v n (((d1.setIfInBounds j2 d1[a]!).setIfInBounds a d1[j2]!).toList.map u16v) := hO213
       have z_w213 := E213.size
       have hb := grow_stepX hb E213 rfl
       refine hK212 _ _ ?_
       refine seq_any fun K214 hK214 => ?_
       refine one_reg ?_
       refine op_move (ev_base hN213 rfl s213_11) ?_
       refine op_assign (ev_hit hN213 rfl) ?_
       refine op_assign rfl ?_
       refine reg_nil ?_
       refine hK214 _ _ ?_
       refine wp_ret (then_ret ( ?_))
       refine ret2 rfl hd213 (ev_hit hN213 rfl) (ev_hit hN213 rfl) ⟨_, rfl, ?_⟩
       -- path 65T
       have hq := pt_stop hd1 hu2 hv2 (by omega)
       exact ⟨hb, by rw [hq]; rfl, hO213.cast rfl (by rw [hq]; rfl)⟩
     · -- 65F
      refine reg_nil ?_
      refine hK211 _ _ ?_
      refine wp_cond_false (ev_hit hN197 rfl) ?_
      refine wp_skip ?_
      refine hK210 _ _ ?_
      refine seq_any fun K215 hK215 => ?_
      refine reg_mid (e := 35) (sz := 1) (base := base) (n := n) (v := v) (Φ := phiL [(fun uz _ => uz = v), (fun uz _ => uz = (Value.int .i64 ((i2 : Nat) : Int))), (fun uz _ => uz = v), (fun uz _ => uz = (Value.int .i64 ((j2 : Nat) : Int))), (fun uz _ => uz = v), (fun uz _ => uz = (Value.int .i64 ((j2 : Nat) : Int))), (fun uz _ => ∃ bz oz, uz = ptr bz oz ∧ AtV v j2 bz oz), (fun uz _ => uz = (Value.int .u16 (d1[j2]!.toNat : Int))), (fun uz _ => uz = v), (fun uz _ => uz = (Value.int .i64 ((i2 : Nat) : Int))), (fun uz _ => ∃ bz oz, uz = ptr bz oz ∧ AtV v i2 bz oz), (fun uz _ => uz = (Value.int .u16 (d1[i2]!.toNat : Int))), (fun uz _ => ∃ bz oz, uz = ptr bz oz ∧ AtV v i2 bz oz), (fun _ _ => True), (fun uz _ => ∃ bz oz, uz = ptr bz oz ∧ AtV v j2 bz oz), (fun _ _ => True)]) [13, 15] [(d1.toList.map u16v), ((d1.setIfInBounds i2 d1[j2]!).toList.map u16v), (((d1.setIfInBounds i2 d1[j2]!).setIfInBounds j2 d1[i2]!).toList.map u16v)] mixed (by kernel_rfl) (by kernel_rfl) (by kernel_rfl) (by kernel_rfl) hN197 hO182 (StL.get (StL.eq (StL.eq (StL.eq (StL.eq (StL.eq (StL.eq (StL.at (StL.eq (StL.eq (StL.eq (StL.at (StL.eq (StL.at (StL.cons (fun _ _ _ _ h => h) (StL.at (StL.cons (fun _ _ _ _ h => h) (StL.nil _)))))))))))))))))) (ObRs.get (ObRs.cons ?_ (ObRs.cons ?_ (ObRs.cons ?_ (ObRs.cons ?_ (ObRs.cons ?_ (ObRs.cons ?_ (ObRs.cons ?_ (ObRs.cons ?_ (ObRs.cons ?_ (ObRs.cons ?_ (ObRs.cons ?_ (ObRs.cons ?_ (ObRs.cons ?_ (ObRs.pass rfl (ObRs.cons ?_ (ObRs.pass rfl (ObRs.nil)))))))))))))))))) (ObWs.get (ObWs.cons ?_ (ObWs.cons ?_ (ObWs.nil)))) ?_
      ·
       intro aA wA cA hNA hRA hckA hOA hbsA hdpA
       have qA_0 := (hbsA 0 rfl).trans (sl_base hN197 rfl s197_0)
       clear hbsA hdpA
       refine op_move (ev_base hNA rfl qA_0) ?_
       exact obR_end rfl rfl (grown_refl _ _)
      ·
       intro aA wA cA hNA hRA hckA hOA hbsA hdpA
       have qA_10 := (hbsA 10 rfl).trans (sl_base hN197 rfl s197_10)
       clear hbsA hdpA
       refine op_move (ev_base hNA rfl qA_10) ?_
       exact obR_end rfl rfl (grown_refl _ _)
      ·
       intro aA wA cA hNA hRA hckA hOA hbsA hdpA
       have qA_0 := (hbsA 0 rfl).trans (sl_base hN197 rfl s197_0)
       clear hbsA hdpA
       refine op_move (ev_base hNA rfl qA_0) ?_
       exact obR_end rfl rfl (grown_refl _ _)
      ·
       intro aA wA cA hNA hRA hckA hOA hbsA hdpA
       have qA_11 := (hbsA 11 rfl).trans (sl_base hN197 rfl s197_11)
       clear hbsA hdpA
       refine op_move (ev_base hNA rfl qA_11) ?_
       exact obR_end rfl rfl (grown_refl _ _)
      ·
       intro aA wA cA hNA hRA hckA hOA hbsA hdpA
       have qA_0 := (hbsA 0 rfl).trans (sl_base hN197 rfl s197_0)
       clear hbsA hdpA
       refine op_move (ev_base hNA rfl qA_0) ?_
       exact obR_end rfl rfl (grown_refl _ _)
      ·
       intro aA wA cA hNA hRA hckA hOA hbsA hdpA
       have qA_11 := (hbsA 11 rfl).trans (sl_base hN197 rfl s197_11)
       clear hbsA hdpA
       refine op_move (ev_base hNA rfl qA_11) ?_
       exact obR_end rfl rfl (grown_refl _ _)
      ·
       intro aA wA cA hNA hRA hckA hOA hbsA hdpA
       have qA_85 : Sl aA 85 v := hdpA 4 _ 85 (by kernel_rfl) rfl rfl
       have qA_86 : Sl aA 86 (Value.int .i64 ((j2 : Nat) : Int)) := hdpA 5 _ 86 (by kernel_rfl) rfl rfl
       clear hbsA hdpA
       refine op_index_own (i := j2) slt22 (ev_base hNA rfl qA_85) hOA (ev_base hNA rfl qA_86) (by omega) (by omega) ?_
       intro b_ o_ _ hA_
       exact obR_end rfl ⟨b_, o_, rfl, by simpa using hA_⟩ (grown_refl _ _)
      ·
       intro aA wA cA hNA hRA hckA hOA hbsA hdpA
       obtain ⟨bA_87, oA_87, qA_87, hAA_87⟩ := hdpA 6 _ 87 (by kernel_rfl) rfl rfl
       clear hbsA hdpA
       obtain rfl : cA = 0 := Nat.le_zero.1 (hckA 0 13 rfl (by kernel_rfl))
       have hOA : Own wA base 35 1 v n (d1.toList.map u16v) := hOA
       refine op_load1 (v := (Value.int .u16 (d1[j2]!.toNat : Int))) one35 (ev_base hNA rfl qA_87) (by have := hOA.cellAt hAA_87 0 _ (el_at (i := j2) (by first | omega | (simp only [Array.size_setIfInBounds, swp_sz, siftDown_size]; omega))); simpa using this) ?_
       exact obR_end rfl rfl (grown_refl _ _)
      ·
       intro aA wA cA hNA hRA hckA hOA hbsA hdpA
       have qA_0 := (hbsA 0 rfl).trans (sl_base hN197 rfl s197_0)
       clear hbsA hdpA
       refine op_move (ev_base hNA rfl qA_0) ?_
       exact obR_end rfl rfl (grown_refl _ _)
      ·
       intro aA wA cA hNA hRA hckA hOA hbsA hdpA
       have qA_10 := (hbsA 10 rfl).trans (sl_base hN197 rfl s197_10)
       clear hbsA hdpA
       refine op_move (ev_base hNA rfl qA_10) ?_
       exact obR_end rfl rfl (grown_refl _ _)
      ·
       intro aA wA cA hNA hRA hckA hOA hbsA hdpA
       have qA_89 : Sl aA 89 v := hdpA 8 _ 89 (by kernel_rfl) rfl rfl
       have qA_90 : Sl aA 90 (Value.int .i64 ((i2 : Nat) : Int)) := hdpA 9 _ 90 (by kernel_rfl) rfl rfl
       clear hbsA hdpA
       refine op_index_own (i := i2) slt22 (ev_base hNA rfl qA_89) hOA (ev_base hNA rfl qA_90) (by omega) (by omega) ?_
       intro b_ o_ _ hA_
       exact obR_end rfl ⟨b_, o_, rfl, by simpa using hA_⟩ (grown_refl _ _)
      ·
       intro aA wA cA hNA hRA hckA hOA hbsA hdpA
       obtain ⟨bA_91, oA_91, qA_91, hAA_91⟩ := hdpA 10 _ 91 (by kernel_rfl) rfl rfl
       clear hbsA hdpA
       obtain rfl : cA = 0 := Nat.le_zero.1 (hckA 0 13 rfl (by kernel_rfl))
       have hOA : Own wA base 35 1 v n (d1.toList.map u16v) := hOA
       refine op_load1 (v := (Value.int .u16 (d1[i2]!.toNat : Int))) one35 (ev_base hNA rfl qA_91) (by have := hOA.cellAt hAA_91 0 _ (el_at (i := i2) (by first | omega | (simp only [Array.size_setIfInBounds, swp_sz, siftDown_size]; omega))); simpa using this) ?_
       exact obR_end rfl rfl (grown_refl _ _)
      ·
       intro aA wA cA hNA hRA hckA hOA hbsA hdpA
       have qA_81 : Sl aA 81 v := hdpA 0 _ 81 (by kernel_rfl) rfl rfl
       have qA_82 : Sl aA 82 (Value.int .i64 ((i2 : Nat) : Int)) := hdpA 1 _ 82 (by kernel_rfl) rfl rfl
       clear hbsA hdpA
       refine op_index_own (i := i2) slt22 (ev_base hNA rfl qA_81) hOA (ev_base hNA rfl qA_82) (by omega) (by omega) ?_
       intro b_ o_ _ hA_
       exact obR_end rfl ⟨b_, o_, rfl, by simpa using hA_⟩ (grown_refl _ _)
      ·
       intro aA wA cA hNA hRA hckA hOA hbsA hdpA
       have qA_83 : Sl aA 83 v := hdpA 2 _ 83 (by kernel_rfl) rfl rfl
       have qA_84 : Sl aA 84 (Value.int .i64 ((j2 : Nat) : Int)) := hdpA 3 _ 84 (by kernel_rfl) rfl rfl
       clear hbsA hdpA
       refine op_index_own (i := j2) slt22 (ev_base hNA rfl qA_83) hOA (ev_base hNA rfl qA_84) (by omega) (by omega) ?_
       intro b_ o_ _ hA_
       exact obR_end rfl ⟨b_, o_, rfl, by simpa using hA_⟩ (grown_refl _ _)
      ·
       intro o_ ho_; obtain rfl := Option.some.inj ho_; intro aA wA hNA hRA hbsA hdpA hOA
       obtain ⟨bA_93, oA_93, qA_93, hAA_93⟩ := hdpA 12 _ 93 (by kernel_rfl) rfl rfl
       have qA_88 : Sl aA 88 (Value.int .u16 (d1[j2]!.toNat : Int)) := hdpA 7 _ 88 (by kernel_rfl) rfl rfl
       clear hbsA hdpA
       have hOA : Own wA base 35 1 v n (d1.toList.map u16v) := hOA
       refine op_store_own (vs := [(Value.int .u16 (d1[j2]!.toNat : Int))]) size35 (ev_base hNA rfl qA_93) (ev_base hNA rfl qA_88) rfl rfl rfl hOA hAA_93 (by have := hOA.1; simp at this ⊢; omega) ?_
       intro w_ hO_ E_
       exact obW_end rfl (hO_.cast rfl (set_arr (by first | omega | (simp only [Array.size_setIfInBounds, swp_sz, siftDown_size]; omega)))) E_
      ·
       intro o_ ho_; obtain rfl := Option.some.inj ho_; intro aA wA hNA hRA hbsA hdpA hOA
       obtain ⟨bA_94, oA_94, qA_94, hAA_94⟩ := hdpA 14 _ 94 (by kernel_rfl) rfl rfl
       have qA_92 : Sl aA 92 (Value.int .u16 (d1[i2]!.toNat : Int)) := hdpA 11 _ 92 (by kernel_rfl) rfl rfl
       clear hbsA hdpA
       have hOA : Own wA base 35 1 v n ((d1.setIfInBounds i2 d1[j2]!).toList.map u16v) := hOA
       refine op_store_own (vs := [(Value.int .u16 (d1[i2]!.toNat : Int))]) size35 (ev_base hNA rfl qA_94) (ev_base hNA rfl qA_92) rfl rfl rfl hOA hAA_94 (by have := hOA.1; simp at this ⊢; omega) ?_
       intro w_ hO_ E_
       exact obW_end rfl (hO_.cast rfl (set_arr (by first | omega | (simp only [Array.size_setIfInBounds, swp_sz, siftDown_size]; omega)))) E_
      ·
       intro a216 w216 hN216 hd216 hbs216 hph216 hO216 E216
       have hd216 := hd216.trans hd197
       have s216_0 := (hbs216 0 rfl).trans (sl_base hN197 rfl s197_0)
       have s216_1 := (hbs216 1 rfl).trans (sl_base hN197 rfl s197_1)
       have s216_8 := (hbs216 8 rfl).trans (sl_base hN197 rfl s197_8)
       have s216_9 := (hbs216 9 rfl).trans (sl_base hN197 rfl s197_9)
       have s216_10 := (hbs216 10 rfl).trans (sl_base hN197 rfl s197_10)
       have s216_11 := (hbs216 11 rfl).trans (sl_base hN197 rfl s197_11)
       clear hbs216 hph216
       have hO216 : Own w216 base 35 1 v n (((d1.setIfInBounds i2 d1[j2]!).setIfInBounds j2 d1[i2]!).toList.map u16v) := hO216
       have z_w216 := E216.size
       have hb := grow_stepX hb E216 rfl
       refine hK215 _ _ ?_
       refine seq_any fun K217 hK217 => ?_
       refine one_reg ?_
       refine op_move (ev_base hN216 rfl s216_10) ?_
       refine op_add (ev_hit hN216 rfl) rfl (add64 (by omega)) ?_
       refine op_assign (ev_hit hN216 rfl) ?_
       refine reg_nil ?_
       refine hK217 _ _ ?_
       refine seq_any fun K218 hK218 => ?_
       refine one_reg ?_
       refine op_move (ev_base hN216 rfl s216_11) ?_
       refine op_sub (r := ((j2 - 1 : Nat) : Int)) (ev_hit hN216 rfl) rfl (by rw [IntKind.wrap_i64]; omega) ?_
       refine op_assign (ev_hit hN216 rfl) ?_
       refine reg_nil ?_
       refine hK218 _ _ ?_
       refine seq_any fun K219 hK219 => ?_
       refine wp_block ?_
       refine loop_m (fun mz_ az_ w' => ∃ (ii jj : Nat) (dk : Ar), mz_ = (jj + 2 - ii) ∧ (az_.tmps.getD 0 undef = v) ∧ (az_.tmps.getD 1 undef = (Value.int .i64 ((a : Nat) : Int))) ∧ (az_.tmps.getD 8 undef = (Value.int .i64 0)) ∧ (az_.tmps.getD 9 undef = (Value.bool false)) ∧ (az_.tmps.getD 10 undef = (Value.int .i64 ((ii : Nat) : Int))) ∧ (az_.tmps.getD 11 undef = (Value.int .i64 ((jj : Nat) : Int))) ∧ (dk.size = n) ∧ (a < ii ∧ ii ≤ jj + 1 ∧ jj < b) ∧ (partLoop ltT a (i2 + 1) (j2 - 1) (swp d1 i2 j2) = partLoop ltT a ii jj dk) ∧ (w.grownBy w' v.ownBlock) ∧ (w216.heap.size ≤ w'.heap.size) ∧ (Own w' base 35 1 v n (dk.toList.map u16v))) _ hN216 hd216 ⟨(i2 + 1), (j2 - 1), _, rfl, (sl_base hN216 rfl s216_0), (sl_base hN216 rfl s216_1), (sl_base hN216 rfl s216_8), (sl_base hN216 rfl s216_9), (sl_hit hN216 rfl).trans (congrArg (Value.int .i64) (by omega)), (sl_hit hN216 rfl).trans (congrArg (Value.int .i64) (by omega)), (by first | assumption | (simp only [Array.size_setIfInBounds, swp_sz, siftDown_size]; assumption)), (by omega), rfl, hb, (Nat.le_refl _), hO216⟩ ?_
       rintro _ a220 w220 hN220 hd220 ⟨ii, jj, dk, rfl, s220_0, s220_1, s220_8, s220_9, s220_10, s220_11, hdk, hr4, hs, hb, zl_w220, hO221⟩
       have z_w220 := hb.size
       refine wp_block ?_
       refine seq_join1 (N := 168) (fun az_ w' => ∃ (i3 : Nat), (az_.tmps.getD 0 undef = v) ∧ (az_.tmps.getD 1 undef = (Value.int .i64 ((a : Nat) : Int))) ∧ (az_.tmps.getD 8 undef = (Value.int .i64 0)) ∧ (az_.tmps.getD 9 undef = (Value.bool false)) ∧ (az_.tmps.getD 11 undef = (Value.int .i64 ((jj : Nat) : Int))) ∧ (az_.tmps.getD 10 undef = (Value.int .i64 ((i3 : Nat) : Int))) ∧ (ii ≤ i3 ∧ i3 ≤ jj + 1) ∧ (scanUp (fun x => ltT x dk[a]!) dk jj ii = i3) ∧ (i3 ≤ jj → ltT dk[i3]! dk[a]! = false) ∧ (w.grownBy w' v.ownBlock) ∧ (w220.heap.size ≤ w'.heap.size) ∧ (Own w' base 35 1 v n (dk.toList.map u16v))) (fun hJ222 => ?_) ?_
       ·
        refine seq_any fun K223 hK223 => ?_
        refine wp_block ?_
        refine loop_m (fun mz_ az_ w' => ∃ (i3 : Nat), mz_ = (jj + 1 - i3) ∧ (az_.tmps.getD 0 undef = v) ∧ (az_.tmps.getD 1 undef = (Value.int .i64 ((a : Nat) : Int))) ∧ (az_.tmps.getD 8 undef = (Value.int .i64 0)) ∧ (az_.tmps.getD 9 undef = (Value.bool false)) ∧ (az_.tmps.getD 11 undef = (Value.int .i64 ((jj : Nat) : Int))) ∧ (az_.tmps.getD 10 undef = (Value.int .i64 ((i3 : Nat) : Int))) ∧ (ii ≤ i3 ∧ i3 ≤ jj + 1) ∧ (scanUp (fun x => ltT x dk[a]!) dk jj ii = scanUp (fun x => ltT x dk[a]!) dk jj i3) ∧ (w.grownBy w' v.ownBlock) ∧ (w220.heap.size ≤ w'.heap.size) ∧ (Own w' base 35 1 v n (dk.toList.map u16v))) _ hN220 hd220 ⟨ii, rfl, (sl_base hN220 rfl s220_0), (sl_base hN220 rfl s220_1), (sl_base hN220 rfl s220_8), (sl_base hN220 rfl s220_9), (sl_base hN220 rfl s220_11), (sl_base hN220 rfl s220_10).trans (congrArg (Value.int .i64) (by omega)), (by omega), rfl, hb, (Nat.le_refl _), hO221⟩ ?_
        rintro _ a224 w224 hN224 hd224 ⟨i3, rfl, s224_0, s224_1, s224_8, s224_9, s224_11, s224_10, hr5, hu3, hb, zl_w224, hO221⟩
        have z_w224 := hb.size
        refine seq_any fun K225 hK225 => ?_
        refine seq_any fun K226 hK226 => ?_
        refine reg_still mixed (by kernel_rfl) ?_
        intro w228 E227
        have z_w228 := E227.size
        have hO221 := hO221.keep0 E227
        have hb := grow_step0 hb E227
        refine st_step rfl (fun _ h9 => op_move (ev_base hN224 rfl s224_10) h9) ?_
        refine st_step rfl (fun _ h9 => op_move (ev_base hN224 rfl s224_11) h9) ?_
        by_cases g101 : ((i3 : Nat) : Int) ≤ ((jj : Nat) : Int)
        · -- 101T
         refine st_step rfl (fun _ h9 => op_cmp (b := true) (ev_hit hN224 rfl) (ev_hit hN224 rfl) (b_leq (decide_eq_true g101)) h9) ?_
         refine st_step rfl (fun _ h9 => op_move (ev_hit hN224 rfl) h9) ?_
         refine st_g_true (j := 3) (dj := 102) (b := true) rfl rfl rfl (ev_hit hN224 rfl) ?_
         refine st_step rfl (fun _ h9 => op_move (ev_base hN224 rfl s224_0) h9) ?_
         refine st_g_true (j := 3) (dj := 102) (b := true) rfl rfl rfl (ev_hit hN224 rfl) ?_
         refine st_step rfl (fun _ h9 => op_move (ev_base hN224 rfl s224_10) h9) ?_
         refine st_g_true (j := 3) (dj := 102) (b := true) rfl rfl rfl (ev_hit hN224 rfl) ?_
         refine st_index_rd slt22 (ev_hit hN224 rfl) hO221.rdw (ev_hit hN224 rfl) (by omega) (by omega) ?_
         intro b229 o230 h0b229 h1b229 hc231
         refine st_g_true (j := 3) (dj := 102) (b := true) rfl rfl rfl (ev_hit hN224 rfl) ?_
         refine st_step rfl (fun _ h9 => op_load1 (v := (Value.int .u16 (dk[i3]!.toNat : Int))) one35 (ev_hit hN224 rfl) (by have := hc231 0 (Value.int .u16 (dk[i3]!.toNat : Int)) (by decide) (el_arr (i := i3) (by omega) (by first | omega | (simp only [Array.size_setIfInBounds, swp_sz, siftDown_size]; omega))); simpa using this) h9) ?_
         refine st_g_true (j := 3) (dj := 102) (b := true) rfl rfl rfl (ev_hit hN224 rfl) ?_
         refine st_step rfl (fun _ h9 => op_move (ev_base hN224 rfl s224_0) h9) ?_
         refine st_g_true (j := 3) (dj := 102) (b := true) rfl rfl rfl (ev_hit hN224 rfl) ?_
         refine st_step rfl (fun _ h9 => op_move (ev_base hN224 rfl s224_1) h9) ?_
         refine st_g_true (j := 3) (dj := 102) (b := true) rfl rfl rfl (ev_hit hN224 rfl) ?_
         refine st_index_rd slt22 (ev_hit hN224 rfl) hO221.rdw (ev_hit hN224 rfl) (by omega) (by omega) ?_
         intro b232 o233 h0b232 h1b232 hc234
         refine st_g_true (j := 3) (dj := 102) (b := true) rfl rfl rfl (ev_hit hN224 rfl) ?_
         refine st_step rfl (fun _ h9 => op_load1 (v := (Value.int .u16 (dk[a]!.toNat : Int))) one35 (ev_hit hN224 rfl) (by have := hc234 0 (Value.int .u16 (dk[a]!.toNat : Int)) (by decide) (el_arr (i := a) (by omega) (by first | omega | (simp only [Array.size_setIfInBounds, swp_sz, siftDown_size]; omega))); simpa using this) h9) ?_
         refine st_g_true (j := 3) (dj := 102) (b := true) rfl rfl rfl (ev_hit hN224 rfl) ?_
         refine st_fn (vs := [(Value.int .u16 (dk[i3]!.toNat : Int)), (Value.int .u16 (dk[a]!.toNat : Int))]) ok72 (⟨(ev_hit hN224 rfl), ⟨(ev_hit hN224 rfl), trivial⟩⟩) (Less16_ret dk[i3]! dk[a]! _) ?_
         refine st_step rfl (fun _ h9 => op_pick_t (ev_hit hN224 rfl) (ev_hit hN224 rfl) h9) ?_
         refine st_nil ?_
         refine hK226 _ _ ?_
         refine wp_cond_split (ev_hit hN224 rfl) (fun c112 => ?_) (fun c112 => ?_)
         · -- 112T
          refine wp_skip ?_
          refine hK225 _ _ ?_
          refine wp_block ?_
          refine one_reg ?_
          refine op_move (ev_base hN224 rfl s224_10) ?_
          refine op_add (ev_hit hN224 rfl) rfl (add64 (by omega)) ?_
          refine op_assign (ev_hit hN224 rfl) ?_
          refine reg_nil ?_
          refine blk_normal ?_
          -- round 65F 101T 112T
          exact loop_next _ hN224 hd224 ⟨(i3 + 1), rfl, (sl_base hN224 rfl s224_0), (sl_base hN224 rfl s224_1), (sl_base hN224 rfl s224_8), (sl_base hN224 rfl s224_9), (sl_base hN224 rfl s224_11), (sl_hit hN224 rfl).trans (congrArg (Value.int .i64) (by omega)), (by omega), (hu3.trans (scanUp_go (by omega) c112)), hb, (by omega), hO221⟩ (by omega)
         · -- 112F
          refine wp_exit (then_exit (then_exit (blk_hit ?_)))
          refine hK223 _ _ ?_
          exact hJ222 _ _ _ hN224 hd224 ⟨i3, (sl_base hN224 rfl s224_0), (sl_base hN224 rfl s224_1), (sl_base hN224 rfl s224_8), (sl_base hN224 rfl s224_9), (sl_base hN224 rfl s224_11), (sl_base hN224 rfl s224_10), (by omega), (hu3.trans (scanUp_stop (.inr c112))), (fun _ => c112), hb, (by omega), hO221⟩
        · -- 101F
         refine st_step rfl (fun _ h9 => op_cmp (b := false) (ev_hit hN224 rfl) (ev_hit hN224 rfl) (b_leq (decide_eq_false g101)) h9) ?_
         refine st_step rfl (fun _ h9 => op_move (ev_hit hN224 rfl) h9) ?_
         refine st_g_false (j := 3) (dj := 102) (b := true) rfl rfl rfl (ev_hit hN224 rfl) rfl rfl ?_
         refine st_g_false (j := 3) (dj := 102) (b := true) rfl rfl rfl (ev_hit hN224 rfl) rfl rfl ?_
         refine st_g_false (j := 3) (dj := 102) (b := true) rfl rfl rfl (ev_hit hN224 rfl) rfl rfl ?_
         refine st_g_false (j := 3) (dj := 102) (b := true) rfl rfl rfl (ev_hit hN224 rfl) rfl rfl ?_
         refine st_g_false (j := 3) (dj := 102) (b := true) rfl rfl rfl (ev_hit hN224 rfl) rfl rfl ?_
         refine st_g_false (j := 3) (dj := 102) (b := true) rfl rfl rfl (ev_hit hN224 rfl) rfl rfl ?_
         refine st_g_false (j := 3) (dj := 102) (b := true) rfl rfl rfl (ev_hit hN224 rfl) rfl rfl ?_
         refine st_g_false (j := 3) (dj := 102) (b := true) rfl rfl rfl (ev_hit hN224 rfl) rfl rfl ?_
         refine st_g_false (j := 3) (dj := 102) (b := true) rfl rfl rfl (ev_hit hN224 rfl) rfl rfl ?_
         refine st_step rfl (fun _ h9 => op_pick_f (ev_hit hN224 rfl) rfl h9) ?_
         refine st_nil ?_
         refine hK226 _ _ ?_
         refine wp_cond_false (ev_hit hN224 rfl) ?_
         refine wp_exit (then_exit (then_exit (blk_hit ?_)))
         refine hK223 _ _ ?_
         exact hJ222 _ _ _ hN224 hd224 ⟨i3, (sl_base hN224 rfl s224_0), (sl_base hN224 rfl s224_1), (sl_base hN224 rfl s224_8), (sl_base hN224 rfl s224_9), (sl_base hN224 rfl s224_11), (sl_base hN224 rfl s224_10), (by omega), (hu3.trans (scanUp_stop (.inl (by omega)))), (fun hq => absurd hq (by omega)), hb, (by omega), hO221⟩
       ·
        rintro a222 w222 hN222 hd222 ⟨i3, s222_0, s222_1, s222_8, s222_9, s222_11, s222_10, hr5, hu4, hx4, hb, zl_w222, hO221⟩
        have z_w222 := hb.size
        refine seq_join1 (N := 168) (fun az_ w' => ∃ (j3 : Nat), (az_.tmps.getD 0 undef = v) ∧ (az_.tmps.getD 1 undef = (Value.int .i64 ((a : Nat) : Int))) ∧ (az_.tmps.getD 8 undef = (Value.int .i64 0)) ∧ (az_.tmps.getD 9 undef = (Value.bool false)) ∧ (az_.tmps.getD 10 undef = (Value.int .i64 ((i3 : Nat) : Int))) ∧ (az_.tmps.getD 11 undef = (Value.int .i64 ((j3 : Nat) : Int))) ∧ (j3 ≤ jj ∧ i3 ≤ j3 + 1) ∧ (scanDown (fun x => !ltT x dk[a]!) dk i3 jj = j3) ∧ (i3 ≠ j3) ∧ (w.grownBy w' v.ownBlock) ∧ (w222.heap.size ≤ w'.heap.size) ∧ (Own w' base 35 1 v n (dk.toList.map u16v))) (fun hJ235 => ?_) ?_
        ·
         refine seq_any fun K236 hK236 => ?_
         refine wp_block ?_
         refine loop_m (fun mz_ az_ w' => ∃ (j3 : Nat), mz_ = (j3 + 1) ∧ (az_.tmps.getD 0 undef = v) ∧ (az_.tmps.getD 1 undef = (Value.int .i64 ((a : Nat) : Int))) ∧ (az_.tmps.getD 8 undef = (Value.int .i64 0)) ∧ (az_.tmps.getD 9 undef = (Value.bool false)) ∧ (az_.tmps.getD 10 undef = (Value.int .i64 ((i3 : Nat) : Int))) ∧ (az_.tmps.getD 11 undef = (Value.int .i64 ((j3 : Nat) : Int))) ∧ (j3 ≤ jj ∧ i3 ≤ j3 + 1) ∧ (scanDown (fun x => !ltT x dk[a]!) dk i3 jj = scanDown (fun x => !ltT x dk[a]!) dk i3 j3) ∧ (w.grownBy w' v.ownBlock) ∧ (w222.heap.size ≤ w'.heap.size) ∧ (Own w' base 35 1 v n (dk.toList.map u16v))) _ hN222 hd222 ⟨jj, rfl, (sl_base hN222 rfl s222_0), (sl_base hN222 rfl s222_1), (sl_base hN222 rfl s222_8), (sl_base hN222 rfl s222_9), (sl_base hN222 rfl s222_10), (sl_base hN222 rfl s222_11).trans (congrArg (Value.int .i64) (by omega)), (by omega), rfl, hb, (Nat.le_refl _), hO221⟩ ?_
         rintro _ a237 w237 hN237 hd237 ⟨j3, rfl, s237_0, s237_1, s237_8, s237_9, s237_10, s237_11, hr6, hv3, hb, zl_w237, hO221⟩
         have z_w237 := hb.size
         refine seq_any fun K238 hK238 => ?_
         refine seq_any fun K239 hK239 => ?_
         refine reg_still mixed (by kernel_rfl) ?_
         intro w241 E240
         have z_w241 := E240.size
         have hO221 := hO221.keep0 E240
         have hb := grow_step0 hb E240
         refine st_step rfl (fun _ h9 => op_move (ev_base hN237 rfl s237_10) h9) ?_
         refine st_step rfl (fun _ h9 => op_move (ev_base hN237 rfl s237_11) h9) ?_
         by_cases g117 : ((i3 : Nat) : Int) ≤ ((j3 : Nat) : Int)
         · -- 117T
          refine st_step rfl (fun _ h9 => op_cmp (b := true) (ev_hit hN237 rfl) (ev_hit hN237 rfl) (b_leq (decide_eq_true g117)) h9) ?_
          refine st_step rfl (fun _ h9 => op_move (ev_hit hN237 rfl) h9) ?_
          refine st_g_true (j := 3) (dj := 118) (b := true) rfl rfl rfl (ev_hit hN237 rfl) ?_
          refine st_step rfl (fun _ h9 => op_move (ev_base hN237 rfl s237_0) h9) ?_
          refine st_g_true (j := 3) (dj := 118) (b := true) rfl rfl rfl (ev_hit hN237 rfl) ?_
          refine st_step rfl (fun _ h9 => op_move (ev_base hN237 rfl s237_11) h9) ?_
          refine st_g_true (j := 3) (dj := 118) (b := true) rfl rfl rfl (ev_hit hN237 rfl) ?_
          refine st_index_rd slt22 (ev_hit hN237 rfl) hO221.rdw (ev_hit hN237 rfl) (by omega) (by omega) ?_
          intro b242 o243 h0b242 h1b242 hc244
          refine st_g_true (j := 3) (dj := 118) (b := true) rfl rfl rfl (ev_hit hN237 rfl) ?_
          refine st_step rfl (fun _ h9 => op_load1 (v := (Value.int .u16 (dk[j3]!.toNat : Int))) one35 (ev_hit hN237 rfl) (by have := hc244 0 (Value.int .u16 (dk[j3]!.toNat : Int)) (by decide) (el_arr (i := j3) (by omega) (by first | omega | (simp only [Array.size_setIfInBounds, swp_sz, siftDown_size]; omega))); simpa using this) h9) ?_
          refine st_g_true (j := 3) (dj := 118) (b := true) rfl rfl rfl (ev_hit hN237 rfl) ?_
          refine st_step rfl (fun _ h9 => op_move (ev_base hN237 rfl s237_0) h9) ?_
          refine st_g_true (j := 3) (dj := 118) (b := true) rfl rfl rfl (ev_hit hN237 rfl) ?_
          refine st_step rfl (fun _ h9 => op_move (ev_base hN237 rfl s237_1) h9) ?_
          refine st_g_true (j := 3) (dj := 118) (b := true) rfl rfl rfl (ev_hit hN237 rfl) ?_
          refine st_index_rd slt22 (ev_hit hN237 rfl) hO221.rdw (ev_hit hN237 rfl) (by omega) (by omega) ?_
          intro b245 o246 h0b245 h1b245 hc247
          refine st_g_true (j := 3) (dj := 118) (b := true) rfl rfl rfl (ev_hit hN237 rfl) ?_
          refine st_step rfl (fun _ h9 => op_load1 (v := (Value.int .u16 (dk[a]!.toNat : Int))) one35 (ev_hit hN237 rfl) (by have := hc247 0 (Value.int .u16 (dk[a]!.toNat : Int)) (by decide) (el_arr (i := a) (by omega) (by first | omega | (simp only [Array.size_setIfInBounds, swp_sz, siftDown_size]; omega))); simpa using this) h9) ?_
          refine st_g_true (j := 3) (dj := 118) (b := true) rfl rfl rfl (ev_hit hN237 rfl) ?_
          refine st_fn (vs := [(Value.int .u16 (dk[j3]!.toNat : Int)), (Value.int .u16 (dk[a]!.toNat : Int))]) ok72 (⟨(ev_hit hN237 rfl), ⟨(ev_hit hN237 rfl), trivial⟩⟩) (Less16_ret dk[j3]! dk[a]! _) ?_
          refine st_g_true (j := 3) (dj := 118) (b := true) rfl rfl rfl (ev_hit hN237 rfl) ?_
          refine st_step rfl (fun _ h9 => op_not (ev_hit hN237 rfl) h9) ?_
          refine st_step rfl (fun _ h9 => op_pick_t (ev_hit hN237 rfl) (ev_hit hN237 rfl) h9) ?_
          refine st_nil ?_
          refine hK239 _ _ ?_
          refine wp_cond_split (ev_hit hN237 rfl) (fun c129 => ?_) (fun c129 => ?_)
          · -- 129T
           refine wp_skip ?_
           refine hK238 _ _ ?_
           refine wp_block ?_
           refine one_reg ?_
           refine op_move (ev_base hN237 rfl s237_11) ?_
           refine op_sub (ev_hit hN237 rfl) rfl (sub64 (by omega)) ?_
           refine op_assign (ev_hit hN237 rfl) ?_
           refine reg_nil ?_
           refine blk_normal ?_
           -- round 65F 117T 129T
           exact loop_next _ hN237 hd237 ⟨(j3 - 1), rfl, (sl_base hN237 rfl s237_0), (sl_base hN237 rfl s237_1), (sl_base hN237 rfl s237_8), (sl_base hN237 rfl s237_9), (sl_base hN237 rfl s237_10), (sl_hit hN237 rfl).trans (congrArg (Value.int .i64) (by omega)), (by omega), (hv3.trans (scanDown_go (by omega) (by omega) c129)), hb, (by omega), hO221⟩ (by omega)
          · -- 129F
           refine wp_exit (then_exit (then_exit (blk_hit ?_)))
           refine hK236 _ _ ?_
           exact hJ235 _ _ _ hN237 hd237 ⟨j3, (sl_base hN237 rfl s237_0), (sl_base hN237 rfl s237_1), (sl_base hN237 rfl s237_8), (sl_base hN237 rfl s237_9), (sl_base hN237 rfl s237_10), (sl_base hN237 rfl s237_11), (by omega), (hv3.trans (scanDown_stop (.inr c129))), (fun hh => by have h9 := hx4 (by omega); rw [hh] at h9; rw [h9] at c129; simp at c129), hb, (by omega), hO221⟩
         · -- 117F
          refine st_step rfl (fun _ h9 => op_cmp (b := false) (ev_hit hN237 rfl) (ev_hit hN237 rfl) (b_leq (decide_eq_false g117)) h9) ?_
          refine st_step rfl (fun _ h9 => op_move (ev_hit hN237 rfl) h9) ?_
          refine st_g_false (j := 3) (dj := 118) (b := true) rfl rfl rfl (ev_hit hN237 rfl) rfl rfl ?_
          refine st_g_false (j := 3) (dj := 118) (b := true) rfl rfl rfl (ev_hit hN237 rfl) rfl rfl ?_
          refine st_g_false (j := 3) (dj := 118) (b := true) rfl rfl rfl (ev_hit hN237 rfl) rfl rfl ?_
          refine st_g_false (j := 3) (dj := 118) (b := true) rfl rfl rfl (ev_hit hN237 rfl) rfl rfl ?_
          refine st_g_false (j := 3) (dj := 118) (b := true) rfl rfl rfl (ev_hit hN237 rfl) rfl rfl ?_
          refine st_g_false (j := 3) (dj := 118) (b := true) rfl rfl rfl (ev_hit hN237 rfl) rfl rfl ?_
          refine st_g_false (j := 3) (dj := 118) (b := true) rfl rfl rfl (ev_hit hN237 rfl) rfl rfl ?_
          refine st_g_false (j := 3) (dj := 118) (b := true) rfl rfl rfl (ev_hit hN237 rfl) rfl rfl ?_
          refine st_g_false (j := 3) (dj := 118) (b := true) rfl rfl rfl (ev_hit hN237 rfl) rfl rfl ?_
          refine st_g_false (j := 3) (dj := 118) (b := true) rfl rfl rfl (ev_hit hN237 rfl) rfl rfl ?_
          refine st_step rfl (fun _ h9 => op_pick_f (ev_hit hN237 rfl) rfl h9) ?_
          refine st_nil ?_
          refine hK239 _ _ ?_
          refine wp_cond_false (ev_hit hN237 rfl) ?_
          refine wp_exit (then_exit (then_exit (blk_hit ?_)))
          refine hK236 _ _ ?_
          exact hJ235 _ _ _ hN237 hd237 ⟨j3, (sl_base hN237 rfl s237_0), (sl_base hN237 rfl s237_1), (sl_base hN237 rfl s237_8), (sl_base hN237 rfl s237_9), (sl_base hN237 rfl s237_10), (sl_base hN237 rfl s237_11), (by omega), (hv3.trans (scanDown_stop (.inl (by omega)))), (by omega), hb, (by omega), hO221⟩
        ·
         rintro a235 w235 hN235 hd235 ⟨j3, s235_0, s235_1, s235_8, s235_9, s235_10, s235_11, hr6, hv4, hne4, hb, zl_w235, hO221⟩
         have z_w235 := hb.size
         refine seq_any fun K248 hK248 => ?_
         refine seq_any fun K249 hK249 => ?_
         refine one_reg ?_
         refine op_move (ev_base hN235 rfl s235_10) ?_
         refine op_move (ev_base hN235 rfl s235_11) ?_
         refine op_gtr (ev_hit hN235 rfl) (ev_hit hN235 rfl) (fun c134 => ?_) (fun c134 => ?_)
         · -- 134T
          refine reg_nil ?_
          refine hK249 _ _ ?_
          refine wp_cond_true (ev_hit hN235 rfl) ?_
          refine wp_exit (then_exit (blk_miss (by decide) (then_exit (blk_hit ?_))))
          refine hK219 _ _ ?_
          refine seq_any fun K250 hK250 => ?_
          refine reg_mid (e := 35) (sz := 1) (base := base) (n := n) (v := v) (Φ := phiL [(fun uz _ => uz = v), (fun uz _ => uz = (Value.int .i64 ((j3 : Nat) : Int))), (fun uz _ => uz = v), (fun uz _ => uz = (Value.int .i64 ((a : Nat) : Int))), (fun uz _ => uz = v), (fun uz _ => uz = (Value.int .i64 ((a : Nat) : Int))), (fun uz _ => ∃ bz oz, uz = ptr bz oz ∧ AtV v a bz oz), (fun uz _ => uz = (Value.int .u16 (dk[a]!.toNat : Int))), (fun uz _ => uz = v), (fun uz _ => uz = (Value.int .i64 ((j3 : Nat) : Int))), (fun uz _ => ∃ bz oz, uz = ptr bz oz ∧ AtV v j3 bz oz), (fun uz _ => uz = (Value.int .u16 (dk[j3]!.toNat : Int))), (fun uz _ => ∃ bz oz, uz = ptr bz oz ∧ AtV v j3 bz oz), (fun _ _ => True), (fun uz _ => ∃ bz oz, uz = ptr bz oz ∧ AtV v a bz oz), (fun _ _ => True)]) [13, 15] [(dk.toList.map u16v), ((dk.setIfInBounds j3 dk[a]!).toList.map u16v), (((dk.setIfInBounds j3 dk[a]!).setIfInBounds a dk[j3]!).toList.map u16v)] mixed (by kernel_rfl) (by kernel_rfl) (by kernel_rfl) (by kernel_rfl) hN235 hO221 (StL.get (StL.eq (StL.eq (StL.eq (StL.eq (StL.eq (StL.eq (StL.at (StL.eq (StL.eq (StL.eq (StL.at (StL.eq (StL.at (StL.cons (fun _ _ _ _ h => h) (StL.at (StL.cons (fun _ _ _ _ h => h) (StL.nil _)))))))))))))))))) (ObRs.get (ObRs.cons ?_ (ObRs.cons ?_ (ObRs.cons ?_ (ObRs.cons ?_ (ObRs.cons ?_ (ObRs.cons ?_ (ObRs.cons ?_ (ObRs.cons ?_ (ObRs.cons ?_ (ObRs.cons ?_ (ObRs.cons ?_ (ObRs.cons ?_ (ObRs.cons ?_ (ObRs.pass rfl (ObRs.cons ?_ (ObRs.pass rfl (ObRs.nil)))))))))))))))))) (ObWs.get (ObWs.cons ?_ (ObWs.cons ?_ (ObWs.nil)))) ?_
          ·
           intro aA wA cA hNA hRA hckA hOA hbsA hdpA
           have qA_0 := (hbsA 0 rfl).trans (sl_base hN235 rfl s235_0)
           clear hbsA hdpA
           refine op_move (ev_base hNA rfl qA_0) ?_
           exact obR_end rfl rfl (grown_refl _ _)
          ·
           intro aA wA cA hNA hRA hckA hOA hbsA hdpA
           have qA_11 := (hbsA 11 rfl).trans (sl_base hN235 rfl s235_11)
           clear hbsA hdpA
           refine op_move (ev_base hNA rfl qA_11) ?_
           exact obR_end rfl rfl (grown_refl _ _)
          ·
           intro aA wA cA hNA hRA hckA hOA hbsA hdpA
           have qA_0 := (hbsA 0 rfl).trans (sl_base hN235 rfl s235_0)
           clear hbsA hdpA
           refine op_move (ev_base hNA rfl qA_0) ?_
           exact obR_end rfl rfl (grown_refl _ _)
          ·
           intro aA wA cA hNA hRA hckA hOA hbsA hdpA
           have qA_1 := (hbsA 1 rfl).trans (sl_base hN235 rfl s235_1)
           clear hbsA hdpA
           refine op_move (ev_base hNA rfl qA_1) ?_
           exact obR_end rfl rfl (grown_refl _ _)
          ·
           intro aA wA cA hNA hRA hckA hOA hbsA hdpA
           have qA_0 := (hbsA 0 rfl).trans (sl_base hN235 rfl s235_0)
           clear hbsA hdpA
           refine op_move (ev_base hNA rfl qA_0) ?_
           exact obR_end rfl rfl (grown_refl _ _)
          ·
           intro aA wA cA hNA hRA hckA hOA hbsA hdpA
           have qA_1 := (hbsA 1 rfl).trans (sl_base hN235 rfl s235_1)
           clear hbsA hdpA
           refine op_move (ev_base hNA rfl qA_1) ?_
           exact obR_end rfl rfl (grown_refl _ _)
          ·
           intro aA wA cA hNA hRA hckA hOA hbsA hdpA
           have qA_157 : Sl aA 157 v := hdpA 4 _ 157 (by kernel_rfl) rfl rfl
           have qA_158 : Sl aA 158 (Value.int .i64 ((a : Nat) : Int)) := hdpA 5 _ 158 (by kernel_rfl) rfl rfl
           clear hbsA hdpA
           refine op_index_own (i := a) slt22 (ev_base hNA rfl qA_157) hOA (ev_base hNA rfl qA_158) (by omega) (by omega) ?_
           intro b_ o_ _ hA_
           exact obR_end rfl ⟨b_, o_, rfl, by simpa using hA_⟩ (grown_refl _ _)
          ·
           intro aA wA cA hNA hRA hckA hOA hbsA hdpA
           obtain ⟨bA_159, oA_159, qA_159, hAA_159⟩ := hdpA 6 _ 159 (by kernel_rfl) rfl rfl
           clear hbsA hdpA
           obtain rfl : cA = 0 := Nat.le_zero.1 (hckA 0 13 rfl (by kernel_rfl))
           have hOA : Own wA base 35 1 v n (dk.toList.map u16v) := hOA
           refine op_load1 (v := (Value.int .u16 (dk[a]!.toNat : Int))) one35 (ev_base hNA rfl qA_159) (by have := hOA.cellAt hAA_159 0 _ (el_at (i := a) (by first | omega | (simp only [Array.size_setIfInBounds, swp_sz, siftDown_size]; omega))); simpa using this) ?_
           exact obR_end rfl rfl (grown_refl _ _)
          ·
           intro aA wA cA hNA hRA hckA hOA hbsA hdpA
           have qA_0 := (hbsA 0 rfl).trans (sl_base hN235 rfl s235_0)
           clear hbsA hdpA
           refine op_move (ev_base hNA rfl qA_0) ?_
           exact obR_end rfl rfl (grown_refl _ _)
          ·
           intro aA wA cA hNA hRA hckA hOA hbsA hdpA
           have qA_11 := (hbsA 11 rfl).trans (sl_base hN235 rfl s235_11)
           clear hbsA hdpA
           refine op_move (ev_base hNA rfl qA_11) ?_
           exact obR_end rfl rfl (grown_refl _ _)
          ·
           intro aA wA cA hNA hRA hckA hOA hbsA hdpA
           have qA_161 : Sl aA 161 v := hdpA 8 _ 161 (by kernel_rfl) rfl rfl
           have qA_162 : Sl aA 162 (Value.int .i64 ((j3 : Nat) : Int)) := hdpA 9 _ 162 (by kernel_rfl) rfl rfl
           clear hbsA hdpA
           refine op_index_own (i := j3) slt22 (ev_base hNA rfl qA_161) hOA (ev_base hNA rfl qA_162) (by omega) (by omega) ?_
           intro b_ o_ _ hA_
           exact obR_end rfl ⟨b_, o_, rfl, by simpa using hA_⟩ (grown_refl _ _)
          ·
           intro aA wA cA hNA hRA hckA hOA hbsA hdpA
           obtain ⟨bA_163, oA_163, qA_163, hAA_163⟩ := hdpA 10 _ 163 (by kernel_rfl) rfl rfl
           clear hbsA hdpA
           obtain rfl : cA = 0 := Nat.le_zero.1 (hckA 0 13 rfl (by kernel_rfl))
           have hOA : Own wA base 35 1 v n (dk.toList.map u16v) := hOA
           refine op_load1 (v := (Value.int .u16 (dk[j3]!.toNat : Int))) one35 (ev_base hNA rfl qA_163) (by have := hOA.cellAt hAA_163 0 _ (el_at (i := j3) (by first | omega | (simp only [Array.size_setIfInBounds, swp_sz, siftDown_size]; omega))); simpa using this) ?_
           exact obR_end rfl rfl (grown_refl _ _)
          ·
           intro aA wA cA hNA hRA hckA hOA hbsA hdpA
           have qA_153 : Sl aA 153 v := hdpA 0 _ 153 (by kernel_rfl) rfl rfl
           have qA_154 : Sl aA 154 (Value.int .i64 ((j3 : Nat) : Int)) := hdpA 1 _ 154 (by kernel_rfl) rfl rfl
           clear hbsA hdpA
           refine op_index_own (i := j3) slt22 (ev_base hNA rfl qA_153) hOA (ev_base hNA rfl qA_154) (by omega) (by omega) ?_
           intro b_ o_ _ hA_
           exact obR_end rfl ⟨b_, o_, rfl, by simpa using hA_⟩ (grown_refl _ _)
          ·
           intro aA wA cA hNA hRA hckA hOA hbsA hdpA
           have qA_155 : Sl aA 155 v := hdpA 2 _ 155 (by kernel_rfl) rfl rfl
           have qA_156 : Sl aA 156 (Value.int .i64 ((a : Nat) : Int)) := hdpA 3 _ 156 (by kernel_rfl) rfl rfl
           clear hbsA hdpA
           refine op_index_own (i := a) slt22 (ev_base hNA rfl qA_155) hOA (ev_base hNA rfl qA_156) (by omega) (by omega) ?_
           intro b_ o_ _ hA_
           exact obR_end rfl ⟨b_, o_, rfl, by simpa using hA_⟩ (grown_refl _ _)
          ·
           intro o_ ho_; obtain rfl := Option.some.inj ho_; intro aA wA hNA hRA hbsA hdpA hOA
           obtain ⟨bA_165, oA_165, qA_165, hAA_165⟩ := hdpA 12 _ 165 (by kernel_rfl) rfl rfl
           have qA_160 : Sl aA 160 (Value.int .u16 (dk[a]!.toNat : Int)) := hdpA 7 _ 160 (by kernel_rfl) rfl rfl
           clear hbsA hdpA
           have hOA : Own wA base 35 1 v n (dk.toList.map u16v) := hOA
           refine op_store_own (vs := [(Value.int .u16 (dk[a]!.toNat : Int))]) size35 (ev_base hNA rfl qA_165) (ev_base hNA rfl qA_160) rfl rfl rfl hOA hAA_165 (by have := hOA.1; simp at this ⊢; omega) ?_
           intro w_ hO_ E_
           exact obW_end rfl (hO_.cast rfl (set_arr (by first | omega | (simp only [Array.size_setIfInBounds, swp_sz, siftDown_size]; omega)))) E_
          ·
           intro o_ ho_; obtain rfl := Option.some.inj ho_; intro aA wA hNA hRA hbsA hdpA hOA
           obtain ⟨bA_166, oA_166, qA_166, hAA_166⟩ := hdpA 14 _ 166 (by kernel_rfl) rfl rfl
           have qA_164 : Sl aA 164 (Value.int .u16 (dk[j3]!.toNat : Int)) := hdpA 11 _ 164 (by kernel_rfl) rfl rfl
           clear hbsA hdpA
           have hOA : Own wA base 35 1 v n ((dk.setIfInBounds j3 dk[a]!).toList.map u16v) := hOA
           refine op_store_own (vs := [(Value.int .u16 (dk[j3]!.toNat : Int))]) size35 (ev_base hNA rfl qA_166) (ev_base hNA rfl qA_164) rfl rfl rfl hOA hAA_166 (by have := hOA.1; simp at this ⊢; omega) ?_
           intro w_ hO_ E_
           exact obW_end rfl (hO_.cast rfl (set_arr (by first | omega | (simp only [Array.size_setIfInBounds, swp_sz, siftDown_size]; omega)))) E_
          ·
           intro a251 w251 hN251 hd251 hbs251 hph251 hO251 E251
           have hd251 := hd251.trans hd235
           have s251_8 := (hbs251 8 rfl).trans (sl_base hN235 rfl s235_8)
           have s251_9 := (hbs251 9 rfl).trans (sl_base hN235 rfl s235_9)
           have s251_11 := (hbs251 11 rfl).trans (sl_base hN235 rfl s235_11)
           clear hbs251 hph251
           have hO251 : Own w251 base 35 1 v n (((dk.setIfInBounds j3 dk[a]!).setIfInBounds a dk[j3]!).toList.map u16v) := hO251
           have z_w251 := E251.size
           have hb := grow_stepX hb E251 rfl
           refine hK250 _ _ ?_
           refine seq_any fun K252 hK252 => ?_
           refine one_reg ?_
           refine op_move (ev_base hN251 rfl s251_11) ?_
           refine op_assign (ev_hit hN251 rfl) ?_
           refine op_assign rfl ?_
           refine reg_nil ?_
           refine hK252 _ _ ?_
           refine wp_ret ?_
           refine ret2 rfl hd251 (ev_hit hN251 rfl) (ev_hit hN251 rfl) ⟨_, rfl, ?_⟩
           -- path 65F 134T
           have hp := hs.trans (pl_stop hu4 hv4 (by omega))
           have hq := pt_go hd1 hu2 hv2 (by omega)
           rw [hp] at hq
           exact ⟨hb, by rw [hq]; rfl, hO251.cast rfl (by rw [hq]; rfl)⟩
         · -- 134F
          refine reg_nil ?_
          refine hK249 _ _ ?_
          refine wp_cond_false (ev_hit hN235 rfl) ?_
          refine wp_skip ?_
          refine hK248 _ _ ?_
          refine seq_any fun K253 hK253 => ?_
          refine reg_mid (e := 35) (sz := 1) (base := base) (n := n) (v := v) (Φ := phiL [(fun uz _ => uz = v), (fun uz _ => uz = (Value.int .i64 ((i3 : Nat) : Int))), (fun uz _ => uz = v), (fun uz _ => uz = (Value.int .i64 ((j3 : Nat) : Int))), (fun uz _ => uz = v), (fun uz _ => uz = (Value.int .i64 ((j3 : Nat) : Int))), (fun uz _ => ∃ bz oz, uz = ptr bz oz ∧ AtV v j3 bz oz), (fun uz _ => uz = (Value.int .u16 (dk[j3]!.toNat : Int))), (fun uz _ => uz = v), (fun uz _ => uz = (Value.int .i64 ((i3 : Nat) : Int))), (fun uz _ => ∃ bz oz, uz = ptr bz oz ∧ AtV v i3 bz oz), (fun uz _ => uz = (Value.int .u16 (dk[i3]!.toNat : Int))), (fun uz _ => ∃ bz oz, uz = ptr bz oz ∧ AtV v i3 bz oz), (fun _ _ => True), (fun uz _ => ∃ bz oz, uz = ptr bz oz ∧ AtV v j3 bz oz), (fun _ _ => True)]) [13, 15] [(dk.toList.map u16v), ((dk.setIfInBounds i3 dk[j3]!).toList.map u16v), (((dk.setIfInBounds i3 dk[j3]!).setIfInBounds j3 dk[i3]!).toList.map u16v)] mixed (by kernel_rfl) (by kernel_rfl) (by kernel_rfl) (by kernel_rfl) hN235 hO221 (StL.get (StL.eq (StL.eq (StL.eq (StL.eq (StL.eq (StL.eq (StL.at (StL.eq (StL.eq (StL.eq (StL.at (StL.eq (StL.at (StL.cons (fun _ _ _ _ h => h) (StL.at (StL.cons (fun _ _ _ _ h => h) (StL.nil _)))))))))))))))))) (ObRs.get (ObRs.cons ?_ (ObRs.cons ?_ (ObRs.cons ?_ (ObRs.cons ?_ (ObRs.cons ?_ (ObRs.cons ?_ (ObRs.cons ?_ (ObRs.cons ?_ (ObRs.cons ?_ (ObRs.cons ?_ (ObRs.cons ?_ (ObRs.cons ?_ (ObRs.cons ?_ (ObRs.pass rfl (ObRs.cons ?_ (ObRs.pass rfl (ObRs.nil)))))))))))))))))) (ObWs.get (ObWs.cons ?_ (ObWs.cons ?_ (ObWs.nil)))) ?_
          ·
           intro aA wA cA hNA hRA hckA hOA hbsA hdpA
           have qA_0 := (hbsA 0 rfl).trans (sl_base hN235 rfl s235_0)
           clear hbsA hdpA
           refine op_move (ev_base hNA rfl qA_0) ?_
           exact obR_end rfl rfl (grown_refl _ _)
          ·
           intro aA wA cA hNA hRA hckA hOA hbsA hdpA
           have qA_10 := (hbsA 10 rfl).trans (sl_base hN235 rfl s235_10)
           clear hbsA hdpA
           refine op_move (ev_base hNA rfl qA_10) ?_
           exact obR_end rfl rfl (grown_refl _ _)
          ·
           intro aA wA cA hNA hRA hckA hOA hbsA hdpA
           have qA_0 := (hbsA 0 rfl).trans (sl_base hN235 rfl s235_0)
           clear hbsA hdpA
           refine op_move (ev_base hNA rfl qA_0) ?_
           exact obR_end rfl rfl (grown_refl _ _)
          ·
           intro aA wA cA hNA hRA hckA hOA hbsA hdpA
           have qA_11 := (hbsA 11 rfl).trans (sl_base hN235 rfl s235_11)
           clear hbsA hdpA
           refine op_move (ev_base hNA rfl qA_11) ?_
           exact obR_end rfl rfl (grown_refl _ _)
          ·
           intro aA wA cA hNA hRA hckA hOA hbsA hdpA
           have qA_0 := (hbsA 0 rfl).trans (sl_base hN235 rfl s235_0)
           clear hbsA hdpA
           refine op_move (ev_base hNA rfl qA_0) ?_
           exact obR_end rfl rfl (grown_refl _ _)
          ·
           intro aA wA cA hNA hRA hckA hOA hbsA hdpA
           have qA_11 := (hbsA 11 rfl).trans (sl_base hN235 rfl s235_11)
           clear hbsA hdpA
           refine op_move (ev_base hNA rfl qA_11) ?_
           exact obR_end rfl rfl (grown_refl _ _)
          ·
           intro aA wA cA hNA hRA hckA hOA hbsA hdpA
           have qA_139 : Sl aA 139 v := hdpA 4 _ 139 (by kernel_rfl) rfl rfl
           have qA_140 : Sl aA 140 (Value.int .i64 ((j3 : Nat) : Int)) := hdpA 5 _ 140 (by kernel_rfl) rfl rfl
           clear hbsA hdpA
           refine op_index_own (i := j3) slt22 (ev_base hNA rfl qA_139) hOA (ev_base hNA rfl qA_140) (by omega) (by omega) ?_
           intro b_ o_ _ hA_
           exact obR_end rfl ⟨b_, o_, rfl, by simpa using hA_⟩ (grown_refl _ _)
          ·
           intro aA wA cA hNA hRA hckA hOA hbsA hdpA
           obtain ⟨bA_141, oA_141, qA_141, hAA_141⟩ := hdpA 6 _ 141 (by kernel_rfl) rfl rfl
           clear hbsA hdpA
           obtain rfl : cA = 0 := Nat.le_zero.1 (hckA 0 13 rfl (by kernel_rfl))
           have hOA : Own wA base 35 1 v n (dk.toList.map u16v) := hOA
           refine op_load1 (v := (Value.int .u16 (dk[j3]!.toNat : Int))) one35 (ev_base hNA rfl qA_141) (by have := hOA.cellAt hAA_141 0 _ (el_at (i := j3) (by first | omega | (simp only [Array.size_setIfInBounds, swp_sz, siftDown_size]; omega))); simpa using this) ?_
           exact obR_end rfl rfl (grown_refl _ _)
          ·
           intro aA wA cA hNA hRA hckA hOA hbsA hdpA
           have qA_0 := (hbsA 0 rfl).trans (sl_base hN235 rfl s235_0)
           clear hbsA hdpA
           refine op_move (ev_base hNA rfl qA_0) ?_
           exact obR_end rfl rfl (grown_refl _ _)
          ·
           intro aA wA cA hNA hRA hckA hOA hbsA hdpA
           have qA_10 := (hbsA 10 rfl).trans (sl_base hN235 rfl s235_10)
           clear hbsA hdpA
           refine op_move (ev_base hNA rfl qA_10) ?_
           exact obR_end rfl rfl (grown_refl _ _)
          ·
           intro aA wA cA hNA hRA hckA hOA hbsA hdpA
           have qA_143 : Sl aA 143 v := hdpA 8 _ 143 (by kernel_rfl) rfl rfl
           have qA_144 : Sl aA 144 (Value.int .i64 ((i3 : Nat) : Int)) := hdpA 9 _ 144 (by kernel_rfl) rfl rfl
           clear hbsA hdpA
           refine op_index_own (i := i3) slt22 (ev_base hNA rfl qA_143) hOA (ev_base hNA rfl qA_144) (by omega) (by omega) ?_
           intro b_ o_ _ hA_
           exact obR_end rfl ⟨b_, o_, rfl, by simpa using hA_⟩ (grown_refl _ _)
          ·
           intro aA wA cA hNA hRA hckA hOA hbsA hdpA
           obtain ⟨bA_145, oA_145, qA_145, hAA_145⟩ := hdpA 10 _ 145 (by kernel_rfl) rfl rfl
           clear hbsA hdpA
           obtain rfl : cA = 0 := Nat.le_zero.1 (hckA 0 13 rfl (by kernel_rfl))
           have hOA : Own wA base 35 1 v n (dk.toList.map u16v) := hOA
           refine op_load1 (v := (Value.int .u16 (dk[i3]!.toNat : Int))) one35 (ev_base hNA rfl qA_145) (by have := hOA.cellAt hAA_145 0 _ (el_at (i := i3) (by first | omega | (simp only [Array.size_setIfInBounds, swp_sz, siftDown_size]; omega))); simpa using this) ?_
           exact obR_end rfl rfl (grown_refl _ _)
          ·
           intro aA wA cA hNA hRA hckA hOA hbsA hdpA
           have qA_135 : Sl aA 135 v := hdpA 0 _ 135 (by kernel_rfl) rfl rfl
           have qA_136 : Sl aA 136 (Value.int .i64 ((i3 : Nat) : Int)) := hdpA 1 _ 136 (by kernel_rfl) rfl rfl
           clear hbsA hdpA
           refine op_index_own (i := i3) slt22 (ev_base hNA rfl qA_135) hOA (ev_base hNA rfl qA_136) (by omega) (by omega) ?_
           intro b_ o_ _ hA_
           exact obR_end rfl ⟨b_, o_, rfl, by simpa using hA_⟩ (grown_refl _ _)
          ·
           intro aA wA cA hNA hRA hckA hOA hbsA hdpA
           have qA_137 : Sl aA 137 v := hdpA 2 _ 137 (by kernel_rfl) rfl rfl
           have qA_138 : Sl aA 138 (Value.int .i64 ((j3 : Nat) : Int)) := hdpA 3 _ 138 (by kernel_rfl) rfl rfl
           clear hbsA hdpA
           refine op_index_own (i := j3) slt22 (ev_base hNA rfl qA_137) hOA (ev_base hNA rfl qA_138) (by omega) (by omega) ?_
           intro b_ o_ _ hA_
           exact obR_end rfl ⟨b_, o_, rfl, by simpa using hA_⟩ (grown_refl _ _)
          ·
           intro o_ ho_; obtain rfl := Option.some.inj ho_; intro aA wA hNA hRA hbsA hdpA hOA
           obtain ⟨bA_147, oA_147, qA_147, hAA_147⟩ := hdpA 12 _ 147 (by kernel_rfl) rfl rfl
           have qA_142 : Sl aA 142 (Value.int .u16 (dk[j3]!.toNat : Int)) := hdpA 7 _ 142 (by kernel_rfl) rfl rfl
           clear hbsA hdpA
           have hOA : Own wA base 35 1 v n (dk.toList.map u16v) := hOA
           refine op_store_own (vs := [(Value.int .u16 (dk[j3]!.toNat : Int))]) size35 (ev_base hNA rfl qA_147) (ev_base hNA rfl qA_142) rfl rfl rfl hOA hAA_147 (by have := hOA.1; simp at this ⊢; omega) ?_
           intro w_ hO_ E_
           exact obW_end rfl (hO_.cast rfl (set_arr (by first | omega | (simp only [Array.size_setIfInBounds, swp_sz, siftDown_size]; omega)))) E_
          ·
           intro o_ ho_; obtain rfl := Option.some.inj ho_; intro aA wA hNA hRA hbsA hdpA hOA
           obtain ⟨bA_148, oA_148, qA_148, hAA_148⟩ := hdpA 14 _ 148 (by kernel_rfl) rfl rfl
           have qA_146 : Sl aA 146 (Value.int .u16 (dk[i3]!.toNat : Int)) := hdpA 11 _ 146 (by kernel_rfl) rfl rfl
           clear hbsA hdpA
           have hOA : Own wA base 35 1 v n ((dk.setIfInBounds i3 dk[j3]!).toList.map u16v) := hOA
           refine op_store_own (vs := [(Value.int .u16 (dk[i3]!.toNat : Int))]) size35 (ev_base hNA rfl qA_148) (ev_base hNA rfl qA_146) rfl rfl rfl hOA hAA_148 (by have := hOA.1; simp at this ⊢; omega) ?_
           intro w_ hO_ E_
           exact obW_end rfl (hO_.cast rfl (set_arr (by first | omega | (simp only [Array.size_setIfInBounds, swp_sz, siftDown_size]; omega)))) E_
          ·
           intro a254 w254 hN254 hd254 hbs254 hph254 hO254 E254
           have hd254 := hd254.trans hd235
           have s254_0 := (hbs254 0 rfl).trans (sl_base hN235 rfl s235_0)
           have s254_1 := (hbs254 1 rfl).trans (sl_base hN235 rfl s235_1)
           have s254_8 := (hbs254 8 rfl).trans (sl_base hN235 rfl s235_8)
           have s254_9 := (hbs254 9 rfl).trans (sl_base hN235 rfl s235_9)
           have s254_10 := (hbs254 10 rfl).trans (sl_base hN235 rfl s235_10)
           have s254_11 := (hbs254 11 rfl).trans (sl_base hN235 rfl s235_11)
           clear hbs254 hph254
           have hO254 : Own w254 base 35 1 v n (((dk.setIfInBounds i3 dk[j3]!).setIfInBounds j3 dk[i3]!).toList.map u16v) := hO254
           have z_w254 := E254.size
           have hb := grow_stepX hb E254 rfl
           refine hK253 _ _ ?_
           refine seq_any fun K255 hK255 => ?_
           refine one_reg ?_
           refine op_move (ev_base hN254 rfl s254_10) ?_
           refine op_add (ev_hit hN254 rfl) rfl (add64 (by omega)) ?_
           refine op_assign (ev_hit hN254 rfl) ?_
           refine reg_nil ?_
           refine hK255 _ _ ?_
           refine one_reg ?_
           refine op_move (ev_base hN254 rfl s254_11) ?_
           refine op_sub (ev_hit hN254 rfl) rfl (sub64 (by omega)) ?_
           refine op_assign (ev_hit hN254 rfl) ?_
           refine reg_nil ?_
           refine blk_normal ?_
           -- round 65F 134F
           exact loop_next _ hN254 hd254 ⟨(i3 + 1), (j3 - 1), _, rfl, (sl_base hN254 rfl s254_0), (sl_base hN254 rfl s254_1), (sl_base hN254 rfl s254_8), (sl_base hN254 rfl s254_9), (sl_hit hN254 rfl).trans (congrArg (Value.int .i64) (by omega)), (sl_hit hN254 rfl).trans (congrArg (Value.int .i64) (by omega)), (by first | assumption | (simp only [Array.size_setIfInBounds, swp_sz, siftDown_size]; assumption)), (by omega), (hs.trans (pl_go hu4 hv4 (by omega))), hb, (by omega), hO254⟩ (by omega)

end Go.Proofs.Ytpmnljffdofkeaa

/- Walks, written by a program: what each function of the translation hands back. -/
namespace Go.Proofs.Ytpmnljffdofkeaa
open Go.Gx Go.RowKit
attribute [local irreducible] wpList wpStill Code.wp Calls
open Go.Sort (insertionSort insOuter insInner swp siftDown heapSort heapBuild heapPop scanUp scanDown partition partLoop partitionEqual partEqLoop scanSorted partialIns bitsLen partialInsertionSort shiftDown shiftUp SortedIn reverseRange reverseLoop fixDown fixUp)
set_option maxHeartbeats 2000000 in
theorem partialW_ret (d : Ar) (v : Value) (n base : Nat) (a b : Nat) (w : World) (hd : d.size = n) (hn : n ≤ 4000000000000000000) (O : Own w base 35 1 v n (d.toList.map u16v)) (hab : a < b) (hbn : b ≤ n) : Ret Try.prog 71 #[v, (Value.int .i64 ((a : Nat) : Int)), (Value.int .i64 ((b : Nat) : Int))] w (fun v' w' => w.grownBy w' v.ownBlock ∧ v' = .bool (partialInsertionSort ltT d a b).2 ∧ Own w' base 35 1 v n ((partialInsertionSort ltT d a b).1.toList.map u16v)) := by
 have hb := grown_refl w v.ownBlock
 refine enter (N := 133) Try.func71 rfl rfl (by simp) fun a0 hN hd hA => ?_
 have s0 : a0.tmps.getD 0 undef = v := hA 0 (by simp)
 have s1 : a0.tmps.getD 1 undef = (Value.int .i64 ((a : Nat) : Int)) := hA 1 (by simp)
 have s2 : a0.tmps.getD 2 undef = (Value.int .i64 ((b : Nat) : Int)) := hA 2 (by simp)
 clear hA
 refine seq_any fun K256 hK256 => ?_
 refine one_reg ?_
 refine op_assign rfl ?_
 refine reg_nil ?_
 refine hK256 _ _ ?_
 refine seq_any fun K257 hK257 => ?_
 refine one_reg ?_
 refine op_move (ev_base hN rfl s1) ?_
 refine op_add (ev_hit hN rfl) rfl (add64 (by omega)) ?_
 refine op_assign (ev_hit hN rfl) ?_
 refine reg_nil ?_
 refine hK257 _ _ ?_
 refine seq_any fun K258 hK258 => ?_
 refine seq_any fun K259 hK259 => ?_
 refine one_reg ?_
 refine op_assign rfl ?_
 refine reg_nil ?_
 refine hK259 _ _ ?_
 refine wp_block ?_
 refine loop_m (fun mz_ az_ w' => ∃ (s ii : Nat) (dk : Ar), mz_ = (5 - s) ∧ (az_.tmps.getD 0 undef = v) ∧ (az_.tmps.getD 1 undef = (Value.int .i64 ((a : Nat) : Int))) ∧ (az_.tmps.getD 2 undef = (Value.int .i64 ((b : Nat) : Int))) ∧ (az_.tmps.getD 8 undef = (Value.int .i64 ((s : Nat) : Int))) ∧ (az_.tmps.getD 7 undef = (Value.int .i64 ((ii : Nat) : Int))) ∧ (dk.size = n) ∧ (s ≤ 5 ∧ a + 1 ≤ ii ∧ ii ≤ b) ∧ (partialIns ltT a b 5 (a + 1) d = partialIns ltT a b (5 - s) ii dk) ∧ (w.grownBy w' v.ownBlock) ∧ (w.heap.size ≤ w'.heap.size) ∧ (Own w' base 35 1 v n (dk.toList.map u16v))) _ hN hd ⟨0, (a + 1), _, rfl, (sl_base hN rfl s0), (sl_base hN rfl s1), (sl_base hN rfl s2), (sl_hit hN rfl).trans (congrArg (Value.int .i64) (by omega)), (sl_hit hN rfl).trans (congrArg (Value.int .i64) (by omega)), (by first | assumption | (simp only [Array.size_setIfInBounds, swp_sz, siftDown_size]; assumption)), (by omega), rfl, hb, (Nat.le_refl _), O⟩ ?_
 rintro _ a260 w260 hN260 hd260 ⟨s, ii, dk, rfl, s260_0, s260_1, s260_2, s260_8, s260_7, hdk, hr1, hs, hb, zl_w260, hO261⟩
 have z_w260 := hb.size
 refine seq_any fun K262 hK262 => ?_
 refine seq_any fun K263 hK263 => ?_
 refine one_reg ?_
 refine op_move (ev_base hN260 rfl s260_8) ?_
 refine op_lss (ev_hit hN260 rfl) rfl (fun c14 => ?_) (fun c14 => ?_)
 · -- 14T
  refine reg_nil ?_
  refine hK263 _ _ ?_
  refine wp_cond_true (ev_hit hN260 rfl) ?_
  refine wp_skip ?_
  refine hK262 _ _ ?_
  refine seq_any fun K264 hK264 => ?_
  refine wp_block ?_
  refine seq_join1 (N := 133) (fun az_ w' => ∃ (i2 : Nat), (az_.tmps.getD 0 undef = v) ∧ (az_.tmps.getD 1 undef = (Value.int .i64 ((a : Nat) : Int))) ∧ (az_.tmps.getD 2 undef = (Value.int .i64 ((b : Nat) : Int))) ∧ (az_.tmps.getD 8 undef = (Value.int .i64 ((s : Nat) : Int))) ∧ (az_.tmps.getD 7 undef = (Value.int .i64 ((i2 : Nat) : Int))) ∧ (ii ≤ i2 ∧ i2 ≤ b) ∧ (scanSorted ltT dk b ii = i2) ∧ (w.grownBy w' v.ownBlock) ∧ (w260.heap.size ≤ w'.heap.size) ∧ (Own w' base 35 1 v n (dk.toList.map u16v))) (fun hJ265 => ?_) ?_
  ·
   refine seq_any fun K266 hK266 => ?_
   refine wp_block ?_
   refine loop_m (fun mz_ az_ w' => ∃ (i2 : Nat), mz_ = (b + 1 - i2) ∧ (az_.tmps.getD 0 undef = v) ∧ (az_.tmps.getD 1 undef = (Value.int .i64 ((a : Nat) : Int))) ∧ (az_.tmps.getD 2 undef = (Value.int .i64 ((b : Nat) : Int))) ∧ (az_.tmps.getD 8 undef = (Value.int .i64 ((s : Nat) : Int))) ∧ (az_.tmps.getD 7 undef = (Value.int .i64 ((i2 : Nat) : Int))) ∧ (ii ≤ i2 ∧ i2 ≤ b) ∧ (scanSorted ltT dk b ii = scanSorted ltT dk b i2) ∧ (w.grownBy w' v.ownBlock) ∧ (w260.heap.size ≤ w'.heap.size) ∧ (Own w' base 35 1 v n (dk.toList.map u16v))) _ hN260 hd260 ⟨ii, rfl, (sl_base hN260 rfl s260_0), (sl_base hN260 rfl s260_1), (sl_base hN260 rfl s260_2), (sl_base hN260 rfl s260_8), (sl_base hN260 rfl s260_7).trans (congrArg (Value.int .i64) (by omega)), (by omega), rfl, hb, (Nat.le_refl _), hO261⟩ ?_
   rintro _ a267 w267 hN267 hd267 ⟨i2, rfl, s267_0, s267_1, s267_2, s267_8, s267_7, hr2, hq1, hb, zl_w267, hO261⟩
   have z_w267 := hb.size
   refine seq_any fun K268 hK268 => ?_
   refine seq_any fun K269 hK269 => ?_
   refine reg_still mixed (by kernel_rfl) ?_
   intro w271 E270
   have z_w271 := E270.size
   have hO261 := hO261.keep0 E270
   have hb := grow_step0 hb E270
   refine st_step rfl (fun _ h9 => op_move (ev_base hN267 rfl s267_7) h9) ?_
   refine st_step rfl (fun _ h9 => op_move (ev_base hN267 rfl s267_2) h9) ?_
   by_cases g19 : ((i2 : Nat) : Int) < ((b : Nat) : Int)
   · -- 19T
    refine st_step rfl (fun _ h9 => op_cmp (b := true) (ev_hit hN267 rfl) (ev_hit hN267 rfl) (b_lss (decide_eq_true g19)) h9) ?_
    refine st_step rfl (fun _ h9 => op_move (ev_hit hN267 rfl) h9) ?_
    refine st_g_true (j := 3) (dj := 20) (b := true) rfl rfl rfl (ev_hit hN267 rfl) ?_
    refine st_step rfl (fun _ h9 => op_move (ev_base hN267 rfl s267_0) h9) ?_
    refine st_g_true (j := 3) (dj := 20) (b := true) rfl rfl rfl (ev_hit hN267 rfl) ?_
    refine st_step rfl (fun _ h9 => op_move (ev_base hN267 rfl s267_7) h9) ?_
    refine st_g_true (j := 3) (dj := 20) (b := true) rfl rfl rfl (ev_hit hN267 rfl) ?_
    refine st_index_rd slt22 (ev_hit hN267 rfl) hO261.rdw (ev_hit hN267 rfl) (by omega) (by omega) ?_
    intro b272 o273 h0b272 h1b272 hc274
    refine st_g_true (j := 3) (dj := 20) (b := true) rfl rfl rfl (ev_hit hN267 rfl) ?_
    refine st_step rfl (fun _ h9 => op_load1 (v := (Value.int .u16 (dk[i2]!.toNat : Int))) one35 (ev_hit hN267 rfl) (by have := hc274 0 (Value.int .u16 (dk[i2]!.toNat : Int)) (by decide) (el_arr (i := i2) (by omega) (by first | omega | (simp only [Array.size_setIfInBounds, swp_sz, siftDown_size]; omega))); simpa using this) h9) ?_
    refine st_g_true (j := 3) (dj := 20) (b := true) rfl rfl rfl (ev_hit hN267 rfl) ?_
    refine st_step rfl (fun _ h9 => op_move (ev_base hN267 rfl s267_0) h9) ?_
    refine st_g_true (j := 3) (dj := 20) (b := true) rfl rfl rfl (ev_hit hN267 rfl) ?_
    refine st_step rfl (fun _ h9 => op_move (ev_base hN267 rfl s267_7) h9) ?_
    refine st_g_true (j := 3) (dj := 20) (b := true) rfl rfl rfl (ev_hit hN267 rfl) ?_
    refine st_step rfl (fun _ h9 => op_sub (ev_hit hN267 rfl) rfl (sub64 (by omega)) h9) ?_
    refine st_g_true (j := 3) (dj := 20) (b := true) rfl rfl rfl (ev_hit hN267 rfl) ?_
    refine st_index_rd slt22 (ev_hit hN267 rfl) hO261.rdw (ev_hit hN267 rfl) (by omega) (by omega) ?_
    intro b275 o276 h0b275 h1b275 hc277
    refine st_g_true (j := 3) (dj := 20) (b := true) rfl rfl rfl (ev_hit hN267 rfl) ?_
    refine st_step rfl (fun _ h9 => op_load1 (v := (Value.int .u16 (dk[(i2 - 1)]!.toNat : Int))) one35 (ev_hit hN267 rfl) (by have := hc277 0 (Value.int .u16 (dk[(i2 - 1)]!.toNat : Int)) (by decide) (el_arr (i := (i2 - 1)) (by omega) (by first | omega | (simp only [Array.size_setIfInBounds, swp_sz, siftDown_size]; omega))); simpa using this) h9) ?_
    refine st_g_true (j := 3) (dj := 20) (b := true) rfl rfl rfl (ev_hit hN267 rfl) ?_
    refine st_fn (vs := [(Value.int .u16 (dk[i2]!.toNat : Int)), (Value.int .u16 (dk[(i2 - 1)]!.toNat : Int))]) ok72 (⟨(ev_hit hN267 rfl), ⟨(ev_hit hN267 rfl), trivial⟩⟩) (Less16_ret dk[i2]! dk[(i2 - 1)]! _) ?_
    refine st_g_true (j := 3) (dj := 20) (b := true) rfl rfl rfl (ev_hit hN267 rfl) ?_
    refine st_step rfl (fun _ h9 => op_not (ev_hit hN267 rfl) h9) ?_
    refine st_step rfl (fun _ h9 => op_pick_t (ev_hit hN267 rfl) (ev_hit hN267 rfl) h9) ?_
    refine st_nil ?_
    refine hK269 _ _ ?_
    refine wp_cond_split (ev_hit hN267 rfl) (fun c32 => ?_) (fun c32 => ?_)
    · -- 32T
     refine wp_skip ?_
     refine hK268 _ _ ?_
     refine wp_block ?_
     refine one_reg ?_
     refine op_move (ev_base hN267 rfl s267_7) ?_
     refine op_add (ev_hit hN267 rfl) rfl (add64 (by omega)) ?_
     refine op_assign (ev_hit hN267 rfl) ?_
     refine reg_nil ?_
     refine blk_normal ?_
     -- round 14T 19T 32T
     exact loop_next _ hN267 hd267 ⟨(i2 + 1), rfl, (sl_base hN267 rfl s267_0), (sl_base hN267 rfl s267_1), (sl_base hN267 rfl s267_2), (sl_base hN267 rfl s267_8), (sl_hit hN267 rfl).trans (congrArg (Value.int .i64) (by omega)), (by omega), (hq1.trans (scanSorted_go (by omega) (not_t c32))), hb, (by omega), hO261⟩ (by omega)
    · -- 32F
     refine wp_exit (then_exit (then_exit (blk_hit ?_)))
     refine hK266 _ _ ?_
     exact hJ265 _ _ _ hN267 hd267 ⟨i2, (sl_base hN267 rfl s267_0), (sl_base hN267 rfl s267_1), (sl_base hN267 rfl s267_2), (sl_base hN267 rfl s267_8), (sl_base hN267 rfl s267_7), (by omega), (hq1.trans (scanSorted_stop (.inr (not_f c32)))), hb, (by omega), hO261⟩
   · -- 19F
    refine st_step rfl (fun _ h9 => op_cmp (b := false) (ev_hit hN267 rfl) (ev_hit hN267 rfl) (b_lss (decide_eq_false g19)) h9) ?_
    refine st_step rfl (fun _ h9 => op_move (ev_hit hN267 rfl) h9) ?_
    refine st_g_false (j := 3) (dj := 20) (b := true) rfl rfl rfl (ev_hit hN267 rfl) rfl rfl ?_
    refine st_g_false (j := 3) (dj := 20) (b := true) rfl rfl rfl (ev_hit hN267 rfl) rfl rfl ?_
    refine st_g_false (j := 3) (dj := 20) (b := true) rfl rfl rfl (ev_hit hN267 rfl) rfl rfl ?_
    refine st_g_false (j := 3) (dj := 20) (b := true) rfl rfl rfl (ev_hit hN267 rfl) rfl rfl ?_
    refine st_g_false (j := 3) (dj := 20) (b := true) rfl rfl rfl (ev_hit hN267 rfl) rfl rfl ?_
    refine st_g_false (j := 3) (dj := 20) (b := true) rfl rfl rfl (ev_hit hN267 rfl) rfl rfl ?_
    refine st_g_false (j := 3) (dj := 20) (b := true) rfl rfl rfl (ev_hit hN267 rfl) rfl rfl ?_
    refine st_g_false (j := 3) (dj := 20) (b := true) rfl rfl rfl (ev_hit hN267 rfl) rfl rfl ?_
    refine st_g_false (j := 3) (dj := 20) (b := true) rfl rfl rfl (ev_hit hN267 rfl) rfl rfl ?_
    refine st_g_false (j := 3) (dj := 20) (b := true) rfl rfl rfl (ev_hit hN267 rfl) rfl rfl ?_
    refine st_g_false (j := 3) (dj := 20) (b := true) rfl rfl rfl (ev_hit hN267 rfl) rfl rfl ?_
    refine st_step rfl (fun _ h9 => op_pick_f (ev_hit hN267 rfl) rfl h9) ?_
    refine st_nil ?_
    refine hK269 _ _ ?_
    refine wp_cond_false (ev_hit hN267 rfl) ?_
    refine wp_exit (then_exit (then_exit (blk_hit ?_)))
    refine hK266 _ _ ?_
    exact hJ265 _ _ _ hN267 hd267 ⟨i2, (sl_base hN267 rfl s267_0), (sl_base hN267 rfl s267_1), (sl_base hN267 rfl s267_2), (sl_base hN267 rfl s267_8), (sl_base hN267 rfl s267_7), (by omega), (hq1.trans (scanSorted_stop (.inl (by omega)))), hb, (by omega), hO261⟩
  ·
   rintro a265 w265 hN265 hd265 ⟨i2, s265_0, s265_1, s265_2, s265_8, s265_7, hr2, hq2, hb, zl_w265, hO261⟩
   have z_w265 := hb.size
   refine seq_any fun K278 hK278 => ?_
   refine seq_any fun K279 hK279 => ?_
   refine one_reg ?_
   refine op_move (ev_base hN265 rfl s265_7) ?_
   refine op_move (ev_base hN265 rfl s265_2) ?_
   refine op_eql (ev_hit hN265 rfl) (ev_hit hN265 rfl) (fun c37 => ?_) (fun c37 => ?_)
   · -- 37T
    refine reg_nil ?_
    refine hK279 _ _ ?_
    refine wp_cond_true (ev_hit hN265 rfl) ?_
    refine seq_any fun K280 hK280 => ?_
    refine one_reg ?_
    refine op_assign rfl ?_
    refine reg_nil ?_
    refine hK280 _ _ ?_
    refine wp_ret (then_ret (blk_ret (then_ret (then_ret (blk_ret (then_ret ( ?_)))))))
    refine ret1 rfl hd265 (ev_hit hN265 rfl) ⟨_, rfl, ?_⟩
    -- path 14T 37T
    have hq : partialInsertionSort ltT d a b = (dk, true) := hs.trans (pi_true (by omega) hq2 (by omega))
    exact ⟨hb, by rw [hq]; rfl, hO261.cast rfl (by rw [hq])⟩
   · -- 37F
    refine reg_nil ?_
    refine hK279 _ _ ?_
    refine wp_cond_false (ev_hit hN265 rfl) ?_
    refine wp_skip ?_
    refine hK278 _ _ ?_
    refine seq_any fun K281 hK281 => ?_
    refine seq_any fun K282 hK282 => ?_
    refine one_reg ?_
    refine op_move (ev_base hN265 rfl s265_2) ?_
    refine op_move (ev_base hN265 rfl s265_1) ?_
    refine op_sub (ev_hit hN265 rfl) (ev_hit hN265 rfl) (sub64 (by omega)) ?_
    refine op_lss (ev_hit hN265 rfl) rfl (fun c41 => ?_) (fun c41 => ?_)
    · -- 41T
     refine reg_nil ?_
     refine hK282 _ _ ?_
     refine wp_cond_true (ev_hit hN265 rfl) ?_
     refine seq_any fun K283 hK283 => ?_
     refine one_reg ?_
     refine op_assign rfl ?_
     refine reg_nil ?_
     refine hK283 _ _ ?_
     refine wp_ret (then_ret (blk_ret (then_ret (then_ret (blk_ret (then_ret ( ?_)))))))
     refine ret1 rfl hd265 (ev_hit hN265 rfl) ⟨_, rfl, ?_⟩
     -- path 14T 37F 41T
     have hq : partialInsertionSort ltT d a b = (dk, false) := hs.trans (pi_short (by omega) hq2 (by omega) (by omega))
     exact ⟨hb, by rw [hq]; rfl, hO261.cast rfl (by rw [hq])⟩
    · -- 41F
     refine reg_nil ?_
     refine hK282 _ _ ?_
     refine wp_cond_false (ev_hit hN265 rfl) ?_
     refine wp_skip ?_
     refine hK281 _ _ ?_
     refine seq_any fun K284 hK284 => ?_
     refine reg_mid (e := 35) (sz := 1) (base := base) (n := n) (v := v) (Φ := phiL [(fun uz _ => uz = v), (fun uz _ => uz = (Value.int .i64 ((i2 : Nat) : Int))), (fun uz _ => uz = v), (fun uz _ => uz = (Value.int .i64 ((i2 : Nat) : Int))), (fun uz _ => uz = (Value.int .i64 (((i2 : Nat) : Int) - 1))), (fun uz _ => uz = v), (fun uz _ => uz = (Value.int .i64 ((i2 : Nat) : Int))), (fun uz _ => uz = (Value.int .i64 (((i2 : Nat) : Int) - 1))), (fun uz _ => ∃ bz oz, uz = ptr bz oz ∧ AtV v (i2 - 1) bz oz), (fun uz _ => uz = (Value.int .u16 (dk[(i2 - 1)]!.toNat : Int))), (fun uz _ => uz = v), (fun uz _ => uz = (Value.int .i64 ((i2 : Nat) : Int))), (fun uz _ => ∃ bz oz, uz = ptr bz oz ∧ AtV v i2 bz oz), (fun uz _ => uz = (Value.int .u16 (dk[i2]!.toNat : Int))), (fun uz _ => ∃ bz oz, uz = ptr bz oz ∧ AtV v i2 bz oz), (fun _ _ => True), (fun uz _ => ∃ bz oz, uz = ptr bz oz ∧ AtV v (i2 - 1) bz oz), (fun _ _ => True)]) [15, 17] [(dk.toList.map u16v), ((dk.setIfInBounds i2 dk[(i2 - 1)]!).toList.map u16v), (((dk.setIfInBounds i2 dk[(i2 - 1)]!).setIfInBounds (i2 - 1) dk[i2]!).toList.map u16v)] mixed (by kernel_rfl) (by kernel_rfl) (by kernel_rfl) (by kernel_rfl) hN265 hO261 (StL.get (StL.eq (StL.eq (StL.eq (StL.eq (StL.eq (StL.eq (StL.eq (StL.eq (StL.at (StL.eq (StL.eq (StL.eq (StL.at (StL.eq (StL.at (StL.cons (fun _ _ _ _ h => h) (StL.at (StL.cons (fun _ _ _ _ h => h) (StL.nil _)))))))))))))))))))) (ObRs.get (ObRs.cons ?_ (ObRs.cons ?_ (ObRs.cons ?_ (ObRs.cons ?_ (ObRs.cons ?_ (ObRs.cons ?_ (ObRs.cons ?_ (ObRs.cons ?_ (ObRs.cons ?_ (ObRs.cons ?_ (ObRs.cons ?_ (ObRs.cons ?_ (ObRs.cons ?_ (ObRs.cons ?_ (ObRs.cons ?_ (ObRs.pass rfl (ObRs.cons ?_ (ObRs.pass rfl (ObRs.nil)))))))))))))))))))) (ObWs.get (ObWs.cons ?_ (ObWs.cons ?_ (ObWs.nil)))) ?_
     ·
      intro aA wA cA hNA hRA hckA hOA hbsA hdpA
      have qA_0 := (hbsA 0 rfl).trans (sl_base hN265 rfl s265_0)
      clear hbsA hdpA
      refine op_move (ev_base hNA rfl qA_0) ?_
      exact obR_end rfl rfl (grown_refl _ _)
     ·
      intro aA wA cA hNA hRA hckA hOA hbsA hdpA
      have qA_7 := (hbsA 7 rfl).trans (sl_base hN265 rfl s265_7)
      clear hbsA hdpA
      refine op_move (ev_base hNA rfl qA_7) ?_
      exact obR_end rfl rfl (grown_refl _ _)
     ·
      intro aA wA cA hNA hRA hckA hOA hbsA hdpA
      have qA_0 := (hbsA 0 rfl).trans (sl_base hN265 rfl s265_0)
      clear hbsA hdpA
      refine op_move (ev_base hNA rfl qA_0) ?_
      exact obR_end rfl rfl (grown_refl _ _)
     ·
      intro aA wA cA hNA hRA hckA hOA hbsA hdpA
      have qA_7 := (hbsA 7 rfl).trans (sl_base hN265 rfl s265_7)
      clear hbsA hdpA
      refine op_move (ev_base hNA rfl qA_7) ?_
      exact obR_end rfl rfl (grown_refl _ _)
     ·
      intro aA wA cA hNA hRA hckA hOA hbsA hdpA
      have qA_45 : Sl aA 45 (Value.int .i64 ((i2 : Nat) : Int)) := hdpA 3 _ 45 (by kernel_rfl) rfl rfl
      clear hbsA hdpA
      refine op_sub (ev_base hNA rfl qA_45) rfl (sub64 (by omega)) ?_
      exact obR_end rfl rfl (grown_refl _ _)
     ·
      intro aA wA cA hNA hRA hckA hOA hbsA hdpA
      have qA_0 := (hbsA 0 rfl).trans (sl_base hN265 rfl s265_0)
      clear hbsA hdpA
      refine op_move (ev_base hNA rfl qA_0) ?_
      exact obR_end rfl rfl (grown_refl _ _)
     ·
      intro aA wA cA hNA hRA hckA hOA hbsA hdpA
      have qA_7 := (hbsA 7 rfl).trans (sl_base hN265 rfl s265_7)
      clear hbsA hdpA
      refine op_move (ev_base hNA rfl qA_7) ?_
      exact obR_end rfl rfl (grown_refl _ _)
     ·
      intro aA wA cA hNA hRA hckA hOA hbsA hdpA
      have qA_48 : Sl aA 48 (Value.int .i64 ((i2 : Nat) : Int)) := hdpA 6 _ 48 (by kernel_rfl) rfl rfl
      clear hbsA hdpA
      refine op_sub (ev_base hNA rfl qA_48) rfl (sub64 (by omega)) ?_
      exact obR_end rfl rfl (grown_refl _ _)
     ·
      intro aA wA cA hNA hRA hckA hOA hbsA hdpA
      have qA_47 : Sl aA 47 v := hdpA 5 _ 47 (by kernel_rfl) rfl rfl
      have qA_49 : Sl aA 49 (Value.int .i64 (((i2 : Nat) : Int) - 1)) := hdpA 7 _ 49 (by kernel_rfl) rfl rfl
      clear hbsA hdpA
      refine op_index_own (i := (i2 - 1)) slt22 (ev_base hNA rfl qA_47) hOA (ev_base hNA rfl qA_49) (by omega) (by omega) ?_
      intro b_ o_ _ hA_
      exact obR_end rfl ⟨b_, o_, rfl, by simpa using hA_⟩ (grown_refl _ _)
     ·
      intro aA wA cA hNA hRA hckA hOA hbsA hdpA
      obtain ⟨bA_50, oA_50, qA_50, hAA_50⟩ := hdpA 8 _ 50 (by kernel_rfl) rfl rfl
      clear hbsA hdpA
      obtain rfl : cA = 0 := Nat.le_zero.1 (hckA 0 15 rfl (by kernel_rfl))
      have hOA : Own wA base 35 1 v n (dk.toList.map u16v) := hOA
      refine op_load1 (v := (Value.int .u16 (dk[(i2 - 1)]!.toNat : Int))) one35 (ev_base hNA rfl qA_50) (by have := hOA.cellAt hAA_50 0 _ (el_at (i := (i2 - 1)) (by first | omega | (simp only [Array.size_setIfInBounds, swp_sz, siftDown_size]; omega))); simpa using this) ?_
      exact obR_end rfl rfl (grown_refl _ _)
     ·
      intro aA wA cA hNA hRA hckA hOA hbsA hdpA
      have qA_0 := (hbsA 0 rfl).trans (sl_base hN265 rfl s265_0)
      clear hbsA hdpA
      refine op_move (ev_base hNA rfl qA_0) ?_
      exact obR_end rfl rfl (grown_refl _ _)
     ·
      intro aA wA cA hNA hRA hckA hOA hbsA hdpA
      have qA_7 := (hbsA 7 rfl).trans (sl_base hN265 rfl s265_7)
      clear hbsA hdpA
      refine op_move (ev_base hNA rfl qA_7) ?_
      exact obR_end rfl rfl (grown_refl _ _)
     ·
      intro aA wA cA hNA hRA hckA hOA hbsA hdpA
      have qA_52 : Sl aA 52 v := hdpA 10 _ 52 (by kernel_rfl) rfl rfl
      have qA_53 : Sl aA 53 (Value.int .i64 ((i2 : Nat) : Int)) := hdpA 11 _ 53 (by kernel_rfl) rfl rfl
      clear hbsA hdpA
      refine op_index_own (i := i2) slt22 (ev_base hNA rfl qA_52) hOA (ev_base hNA rfl qA_53) (by omega) (by omega) ?_
      intro b_ o_ _ hA_
      exact obR_end rfl ⟨b_, o_, rfl, by simpa using hA_⟩ (grown_refl _ _)
     ·
      intro aA wA cA hNA hRA hckA hOA hbsA hdpA
      obtain ⟨bA_54, oA_54, qA_54, hAA_54⟩ := hdpA 12 _ 54 (by kernel_rfl) rfl rfl
      clear hbsA hdpA
      obtain rfl : cA = 0 := Nat.le_zero.1 (hckA 0 15 rfl (by kernel_rfl))
      have hOA : Own wA base 35 1 v n (dk.toList.map u16v) := hOA
      refine op_load1 (v := (Value.int .u16 (dk[i2]!.toNat : Int))) one35 (ev_base hNA rfl qA_54) (by have := hOA.cellAt hAA_54 0 _ (el_at (i := i2) (by first | omega | (simp only [Array.size_setIfInBounds, swp_sz, siftDown_size]; omega))); simpa using this) ?_
      exact obR_end rfl rfl (grown_refl _ _)
     ·
      intro aA wA cA hNA hRA hckA hOA hbsA hdpA
      have qA_42 : Sl aA 42 v := hdpA 0 _ 42 (by kernel_rfl) rfl rfl
      have qA_43 : Sl aA 43 (Value.int .i64 ((i2 : Nat) : Int)) := hdpA 1 _ 43 (by kernel_rfl) rfl rfl
      clear hbsA hdpA
      refine op_index_own (i := i2) slt22 (ev_base hNA rfl qA_42) hOA (ev_base hNA rfl qA_43) (by omega) (by omega) ?_
      intro b_ o_ _ hA_
      exact obR_end rfl ⟨b_, o_, rfl, by simpa using hA_⟩ (grown_refl _ _)
     ·
      intro aA wA cA hNA hRA hckA hOA hbsA hdpA
      have qA_44 : Sl aA 44 v := hdpA 2 _ 44 (by kernel_rfl) rfl rfl
      have qA_46 : Sl aA 46 (Value.int .i64 (((i2 : Nat) : Int) - 1)) := hdpA 4 _ 46 (by kernel_rfl) rfl rfl
      clear hbsA hdpA
      refine op_index_own (i := (i2 - 1)) slt22 (ev_base hNA rfl qA_44) hOA (ev_base hNA rfl qA_46) (by omega) (by omega) ?_
      intro b_ o_ _ hA_
      exact obR_end rfl ⟨b_, o_, rfl, by simpa using hA_⟩ (grown_refl _ _)
     ·
      intro o_ ho_; obtain rfl := Option.some.inj ho_; intro aA wA hNA hRA hbsA hdpA hOA
      obtain ⟨bA_56, oA_56, qA_56, hAA_56⟩ := hdpA 14 _ 56 (by kernel_rfl) rfl rfl
      have qA_51 : Sl aA 51 (Value.int .u16 (dk[(i2 - 1)]!.toNat : Int)) := hdpA 9 _ 51 (by kernel_rfl) rfl rfl
      clear hbsA hdpA
      have hOA : Own wA base 35 1 v n (dk.toList.map u16v) := hOA
      refine op_store_own (vs := [(Value.int .u16 (dk[(i2 - 1)]!.toNat : Int))]) size35 (ev_base hNA rfl qA_56) (ev_base hNA rfl qA_51) rfl rfl rfl hOA hAA_56 (by have := hOA.1; simp at this ⊢; omega) ?_
      intro w_ hO_ E_
      exact obW_end rfl (hO_.cast rfl (set_arr (by first | omega | (simp only [Array.size_setIfInBounds, swp_sz, siftDown_size]; omega)))) E_
     ·
      intro o_ ho_; obtain rfl := Option.some.inj ho_; intro aA wA hNA hRA hbsA hdpA hOA
      obtain ⟨bA_57, oA_57, qA_57, hAA_57⟩ := hdpA 16 _ 57 (by kernel_rfl) rfl rfl
      have qA_55 : Sl aA 55 (Value.int .u16 (dk[i2]!.toNat : Int)) := hdpA 13 _ 55 (by kernel_rfl) rfl rfl
      clear hbsA hdpA
      have hOA : Own wA base 35 1 v n ((dk.setIfInBounds i2 dk[(i2 - 1)]!).toList.map u16v) := hOA
      refine op_store_own (vs := [(Value.int .u16 (dk[i2]!.toNat : Int))]) size35 (ev_base hNA rfl qA_57) (ev_base hNA rfl qA_55) rfl rfl rfl hOA hAA_57 (by have := hOA.1; simp at this ⊢; omega) ?_
      intro w_ hO_ E_
      exact obW_end rfl (hO_.cast rfl (set_arr (by first | omega | (simp only [Array.size_setIfInBounds, swp_sz, siftDown_size]; omega)))) E_
     ·
      intro a285 w285 hN285 hd285 hbs285 hph285 hO285 E285
      have hd285 := hd285.trans hd265
      have s285_0 := (hbs285 0 rfl).trans (sl_base hN265 rfl s265_0)
      have s285_1 := (hbs285 1 rfl).trans (sl_base hN265 rfl s265_1)
      have s285_2 := (hbs285 2 rfl).trans (sl_base hN265 rfl s265_2)
      have s285_7 := (hbs285 7 rfl).trans (sl_base hN265 rfl s265_7)
      have s285_8 := (hbs285 8 rfl).trans (sl_base hN265 rfl s265_8)
      clear hbs285 hph285
      have hO285 : Own w285 base 35 1 v n (((dk.setIfInBounds i2 dk[(i2 - 1)]!).setIfInBounds (i2 - 1) dk[i2]!).toList.map u16v) := hO285
      have z_w285 := E285.size
      have hb := grow_stepX hb E285 rfl
      refine hK284 _ _ ?_
      refine seq_join1 (N := 133) (fun az_ w' => ∃ (d3 : Ar), (az_.tmps.getD 0 undef = v) ∧ (az_.tmps.getD 1 undef = (Value.int .i64 ((a : Nat) : Int))) ∧ (az_.tmps.getD 2 undef = (Value.int .i64 ((b : Nat) : Int))) ∧ (az_.tmps.getD 7 undef = (Value.int .i64 ((i2 : Nat) : Int))) ∧ (az_.tmps.getD 8 undef = (Value.int .i64 ((s : Nat) : Int))) ∧ (d3 = fixDown ltT a i2 (swp dk i2 (i2 - 1))) ∧ (d3.size = n) ∧ (w.grownBy w' v.ownBlock) ∧ (w285.heap.size ≤ w'.heap.size) ∧ (Own w' base 35 1 v n (d3.toList.map u16v))) (fun hJ286 => ?_) ?_
      ·
       refine seq_any fun K288 hK288 => ?_
       refine seq_any fun K289 hK289 => ?_
       refine one_reg ?_
       refine op_move (ev_base hN285 rfl s285_7) ?_
       refine op_move (ev_base hN285 rfl s285_1) ?_
       refine op_sub (ev_hit hN285 rfl) (ev_hit hN285 rfl) (sub64 (by omega)) ?_
       refine op_geq (ev_hit hN285 rfl) rfl (fun c61 => ?_) (fun c61 => ?_)
       · -- 61T
        refine reg_nil ?_
        refine hK289 _ _ ?_
        refine wp_cond_true (ev_hit hN285 rfl) ?_
        refine seq_any fun K290 hK290 => ?_
        refine one_reg ?_
        refine op_move (ev_base hN285 rfl s285_7) ?_
        refine op_sub (r := ((i2 - 1 : Nat) : Int)) (ev_hit hN285 rfl) rfl (by rw [IntKind.wrap_i64]; omega) ?_
        refine op_assign (ev_hit hN285 rfl) ?_
        refine reg_nil ?_
        refine hK290 _ _ ?_
        refine wp_block ?_
        refine loop_m (fun mz_ az_ w' => ∃ (j3 : Nat) (d2 : Ar), mz_ = (j3 + 1) ∧ (az_.tmps.getD 0 undef = v) ∧ (az_.tmps.getD 1 undef = (Value.int .i64 ((a : Nat) : Int))) ∧ (az_.tmps.getD 2 undef = (Value.int .i64 ((b : Nat) : Int))) ∧ (az_.tmps.getD 7 undef = (Value.int .i64 ((i2 : Nat) : Int))) ∧ (az_.tmps.getD 8 undef = (Value.int .i64 ((s : Nat) : Int))) ∧ (az_.tmps.getD 9 undef = (Value.int .i64 ((j3 : Nat) : Int))) ∧ (d2.size = n) ∧ (j3 ≤ i2 - 1) ∧ (shiftDown ltT (i2 - 1) (swp dk i2 (i2 - 1)) = shiftDown ltT j3 d2) ∧ (w.grownBy w' v.ownBlock) ∧ (w285.heap.size ≤ w'.heap.size) ∧ (Own w' base 35 1 v n (d2.toList.map u16v))) _ hN285 hd285 ⟨(i2 - 1), _, rfl, (sl_base hN285 rfl s285_0), (sl_base hN285 rfl s285_1), (sl_base hN285 rfl s285_2), (sl_base hN285 rfl s285_7), (sl_base hN285 rfl s285_8), (sl_hit hN285 rfl).trans (congrArg (Value.int .i64) (by omega)), (by first | assumption | (simp only [Array.size_setIfInBounds, swp_sz, siftDown_size]; assumption)), (by omega), rfl, hb, (Nat.le_refl _), hO285⟩ ?_
        rintro _ a291 w291 hN291 hd291 ⟨j3, d2, rfl, s291_0, s291_1, s291_2, s291_7, s291_8, s291_9, hd2, hr3, hdn, hb, zl_w291, hO292⟩
        have z_w291 := hb.size
        refine seq_any fun K293 hK293 => ?_
        refine seq_any fun K294 hK294 => ?_
        refine one_reg ?_
        refine op_move (ev_base hN291 rfl s291_9) ?_
        refine op_geq (ev_hit hN291 rfl) rfl (fun c65 => ?_) (fun c65 => ?_)
        · -- 65T
         refine reg_nil ?_
         refine hK294 _ _ ?_
         refine wp_cond_true (ev_hit hN291 rfl) ?_
         refine wp_skip ?_
         refine hK293 _ _ ?_
         refine seq_any fun K295 hK295 => ?_
         refine wp_block ?_
         refine seq_any fun K296 hK296 => ?_
         refine seq_any fun K297 hK297 => ?_
         refine reg_still mixed (by kernel_rfl) ?_
         intro w299 E298
         have z_w299 := E298.size
         have hO292 := hO292.keep0 E298
         have hb := grow_step0 hb E298
         refine st_step rfl (fun _ h9 => op_move (ev_base hN291 rfl s291_0) h9) ?_
         refine st_step rfl (fun _ h9 => op_move (ev_base hN291 rfl s291_9) h9) ?_
         refine st_index_rd slt22 (ev_hit hN291 rfl) hO292.rdw (ev_hit hN291 rfl) (by omega) (by omega) ?_
         intro b300 o301 h0b300 h1b300 hc302
         refine st_step rfl (fun _ h9 => op_load1 (v := (Value.int .u16 (d2[j3]!.toNat : Int))) one35 (ev_hit hN291 rfl) (by have := hc302 0 (Value.int .u16 (d2[j3]!.toNat : Int)) (by decide) (el_arr (i := j3) (by omega) (by first | omega | (simp only [Array.size_setIfInBounds, swp_sz, siftDown_size]; omega))); simpa using this) h9) ?_
         refine st_step rfl (fun _ h9 => op_move (ev_base hN291 rfl s291_0) h9) ?_
         refine st_step rfl (fun _ h9 => op_move (ev_base hN291 rfl s291_9) h9) ?_
         refine st_step rfl (fun _ h9 => op_sub (ev_hit hN291 rfl) rfl (sub64 (by omega)) h9) ?_
         refine st_index_rd slt22 (ev_hit hN291 rfl) hO292.rdw (ev_hit hN291 rfl) (by omega) (by omega) ?_
         intro b303 o304 h0b303 h1b303 hc305
         refine st_step rfl (fun _ h9 => op_load1 (v := (Value.int .u16 (d2[(j3 - 1)]!.toNat : Int))) one35 (ev_hit hN291 rfl) (by have := hc305 0 (Value.int .u16 (d2[(j3 - 1)]!.toNat : Int)) (by decide) (el_arr (i := (j3 - 1)) (by omega) (by first | omega | (simp only [Array.size_setIfInBounds, swp_sz, siftDown_size]; omega))); simpa using this) h9) ?_
         refine st_fn (vs := [(Value.int .u16 (d2[j3]!.toNat : Int)), (Value.int .u16 (d2[(j3 - 1)]!.toNat : Int))]) ok72 (⟨(ev_hit hN291 rfl), ⟨(ev_hit hN291 rfl), trivial⟩⟩) (Less16_ret d2[j3]! d2[(j3 - 1)]! _) ?_
         refine st_step rfl (fun _ h9 => op_not (ev_hit hN291 rfl) h9) ?_
         refine st_nil ?_
         refine hK297 _ _ ?_
         refine wp_cond_split (ev_hit hN291 rfl) (fun c78 => ?_) (fun c78 => ?_)
         · -- 78T
          refine wp_exit (then_exit (blk_miss (by decide) (then_exit (then_exit (blk_hit ?_)))))
          refine hK288 _ _ ?_
          exact hJ286 _ _ _ hN291 hd291 ⟨_, (sl_base hN291 rfl s291_0), (sl_base hN291 rfl s291_1), (sl_base hN291 rfl s291_2), (sl_base hN291 rfl s291_7), (sl_base hN291 rfl s291_8), ((fixDown_t (by omega)).trans (hdn.trans (shiftDown_stop (.inr (not_t c78))))).symm, (by first | assumption | (simp only [Array.size_setIfInBounds, swp_sz, siftDown_size]; assumption)), hb, (by omega), hO292⟩
         · -- 78F
          refine wp_skip ?_
          refine hK296 _ _ ?_
          refine reg_mid (e := 35) (sz := 1) (base := base) (n := n) (v := v) (Φ := phiL [(fun uz _ => uz = v), (fun uz _ => uz = (Value.int .i64 ((j3 : Nat) : Int))), (fun uz _ => uz = v), (fun uz _ => uz = (Value.int .i64 ((j3 : Nat) : Int))), (fun uz _ => uz = (Value.int .i64 (((j3 : Nat) : Int) - 1))), (fun uz _ => uz = v), (fun uz _ => uz = (Value.int .i64 ((j3 : Nat) : Int))), (fun uz _ => uz = (Value.int .i64 (((j3 : Nat) : Int) - 1))), (fun uz _ => ∃ bz oz, uz = ptr bz oz ∧ AtV v (j3 - 1) bz oz), (fun uz _ => uz = (Value.int .u16 (d2[(j3 - 1)]!.toNat : Int))), (fun uz _ => uz = v), (fun uz _ => uz = (Value.int .i64 ((j3 : Nat) : Int))), (fun uz _ => ∃ bz oz, uz = ptr bz oz ∧ AtV v j3 bz oz), (fun uz _ => uz = (Value.int .u16 (d2[j3]!.toNat : Int))), (fun uz _ => ∃ bz oz, uz = ptr bz oz ∧ AtV v j3 bz oz), (fun _ _ => True), (fun uz _ => ∃ bz oz, uz = ptr bz oz ∧ AtV v (j3 - 1) bz oz), (fun _ _ => True)]) [15, 17] [(d2.toList.map u16v), ((d2.setIfInBounds j3 d2[(j3 - 1)]!).toList.map u16v), (((d2.setIfInBounds j3 d2[(j3 - 1)]!).setIfInBounds (j3 - 1) d2[j3]!).toList.map u16v)] mixed (by kernel_rfl) (by kernel_rfl) (by kernel_rfl) (by kernel_rfl) hN291 hO292 (StL.get (StL.eq (StL.eq (StL.eq (StL.eq (StL.eq (StL.eq (StL.eq (StL.eq (StL.at (StL.eq (StL.eq (StL.eq (StL.at (StL.eq (StL.at (StL.cons (fun _ _ _ _ h => h) (StL.at (StL.cons (fun _ _ _ _ h => h) (StL.nil _)))))))))))))))))))) (ObRs.get (ObRs.cons ?_ (ObRs.cons ?_ (ObRs.cons ?_ (ObRs.cons ?_ (ObRs.cons ?_ (ObRs.cons ?_ (ObRs.cons ?_ (ObRs.cons ?_ (ObRs.cons ?_ (ObRs.cons ?_ (ObRs.cons ?_ (ObRs.cons ?_ (ObRs.cons ?_ (ObRs.cons ?_ (ObRs.cons ?_ (ObRs.pass rfl (ObRs.cons ?_ (ObRs.pass rfl (ObRs.nil)))))))))))))))))))) (ObWs.get (ObWs.cons ?_ (ObWs.cons ?_ (ObWs.nil)))) ?_
          ·
           intro aA wA cA hNA hRA hckA hOA hbsA hdpA
           have qA_0 := (hbsA 0 rfl).trans (sl_base hN291 rfl s291_0)
           clear hbsA hdpA
           refine op_move (ev_base hNA rfl qA_0) ?_
           exact obR_end rfl rfl (grown_refl _ _)
          ·
           intro aA wA cA hNA hRA hckA hOA hbsA hdpA
           have qA_9 := (hbsA 9 rfl).trans (sl_base hN291 rfl s291_9)
           clear hbsA hdpA
           refine op_move (ev_base hNA rfl qA_9) ?_
           exact obR_end rfl rfl (grown_refl _ _)
          ·
           intro aA wA cA hNA hRA hckA hOA hbsA hdpA
           have qA_0 := (hbsA 0 rfl).trans (sl_base hN291 rfl s291_0)
           clear hbsA hdpA
           refine op_move (ev_base hNA rfl qA_0) ?_
           exact obR_end rfl rfl (grown_refl _ _)
          ·
           intro aA wA cA hNA hRA hckA hOA hbsA hdpA
           have qA_9 := (hbsA 9 rfl).trans (sl_base hN291 rfl s291_9)
           clear hbsA hdpA
           refine op_move (ev_base hNA rfl qA_9) ?_
           exact obR_end rfl rfl (grown_refl _ _)
          ·
           intro aA wA cA hNA hRA hckA hOA hbsA hdpA
           have qA_82 : Sl aA 82 (Value.int .i64 ((j3 : Nat) : Int)) := hdpA 3 _ 82 (by kernel_rfl) rfl rfl
           clear hbsA hdpA
           refine op_sub (ev_base hNA rfl qA_82) rfl (sub64 (by omega)) ?_
           exact obR_end rfl rfl (grown_refl _ _)
          ·
           intro aA wA cA hNA hRA hckA hOA hbsA hdpA
           have qA_0 := (hbsA 0 rfl).trans (sl_base hN291 rfl s291_0)
           clear hbsA hdpA
           refine op_move (ev_base hNA rfl qA_0) ?_
           exact obR_end rfl rfl (grown_refl _ _)
          ·
           intro aA wA cA hNA hRA hckA hOA hbsA hdpA
           have qA_9 := (hbsA 9 rfl).trans (sl_base hN291 rfl s291_9)
           clear hbsA hdpA
           refine op_move (ev_base hNA rfl qA_9) ?_
           exact obR_end rfl rfl (grown_refl _ _)
          ·
           intro aA wA cA hNA hRA hckA hOA hbsA hdpA
           have qA_85 : Sl aA 85 (Value.int .i64 ((j3 : Nat) : Int)) := hdpA 6 _ 85 (by kernel_rfl) rfl rfl
           clear hbsA hdpA
           refine op_sub (ev_base hNA rfl qA_85) rfl (sub64 (by omega)) ?_
           exact obR_end rfl rfl (grown_refl _ _)
          ·
           intro aA wA cA hNA hRA hckA hOA hbsA hdpA
           have qA_84 : Sl aA 84 v := hdpA 5 _ 84 (by kernel_rfl) rfl rfl
           have qA_86 : Sl aA 86 (Value.int .i64 (((j3 : Nat) : Int) - 1)) := hdpA 7 _ 86 (by kernel_rfl) rfl rfl
           clear hbsA hdpA
           refine op_index_own (i := (j3 - 1)) slt22 (ev_base hNA rfl qA_84) hOA (ev_base hNA rfl qA_86) (by omega) (by omega) ?_
           intro b_ o_ _ hA_
           exact obR_end rfl ⟨b_, o_, rfl, by simpa using hA_⟩ (grown_refl _ _)
          ·
           intro aA wA cA hNA hRA hckA hOA hbsA hdpA
           obtain ⟨bA_87, oA_87, qA_87, hAA_87⟩ := hdpA 8 _ 87 (by kernel_rfl) rfl rfl
           clear hbsA hdpA
           obtain rfl : cA = 0 := Nat.le_zero.1 (hckA 0 15 rfl (by kernel_rfl))
           have hOA : Own wA base 35 1 v n (d2.toList.map u16v) := hOA
           refine op_load1 (v := (Value.int .u16 (d2[(j3 - 1)]!.toNat : Int))) one35 (ev_base hNA rfl qA_87) (by have := hOA.cellAt hAA_87 0 _ (el_at (i := (j3 - 1)) (by first | omega | (simp only [Array.size_setIfInBounds, swp_sz, siftDown_size]; omega))); simpa using this) ?_
           exact obR_end rfl rfl (grown_refl _ _)
          ·
           intro aA wA cA hNA hRA hckA hOA hbsA hdpA
           have qA_0 := (hbsA 0 rfl).trans (sl_base hN291 rfl s291_0)
           clear hbsA hdpA
           refine op_move (ev_base hNA rfl qA_0) ?_
           exact obR_end rfl rfl (grown_refl _ _)
          ·
           intro aA wA cA hNA hRA hckA hOA hbsA hdpA
           have qA_9 := (hbsA 9 rfl).trans (sl_base hN291 rfl s291_9)
           clear hbsA hdpA
           refine op_move (ev_base hNA rfl qA_9) ?_
           exact obR_end rfl rfl (grown_refl _ _)
          ·
           intro aA wA cA hNA hRA hckA hOA hbsA hdpA
           have qA_89 : Sl aA 89 v := hdpA 10 _ 89 (by kernel_rfl) rfl rfl
           have qA_90 : Sl aA 90 (Value.int .i64 ((j3 : Nat) : Int)) := hdpA 11 _ 90 (by kernel_rfl) rfl rfl
           clear hbsA hdpA
           refine op_index_own (i := j3) slt22 (ev_base hNA rfl qA_89) hOA (ev_base hNA rfl qA_90) (by omega) (by omega) ?_
           intro b_ o_ _ hA_
           exact obR_end rfl ⟨b_, o_, rfl, by simpa using hA_⟩ (grown_refl _ _)
          ·
           intro aA wA cA hNA hRA hckA hOA hbsA hdpA
           obtain ⟨bA_91, oA_91, qA_91, hAA_91⟩ := hdpA 12 _ 91 (by kernel_rfl) rfl rfl
           clear hbsA hdpA
           obtain rfl : cA = 0 := Nat.le_zero.1 (hckA 0 15 rfl (by kernel_rfl))
           have hOA : Own wA base 35 1 v n (d2.toList.map u16v) := hOA
           refine op_load1 (v := (Value.int .u16 (d2[j3]!.toNat : Int))) one35 (ev_base hNA rfl qA_91) (by have := hOA.cellAt hAA_91 0 _ (el_at (i := j3) (by first | omega | (simp only [Array.size_setIfInBounds, swp_sz, siftDown_size]; omega))); simpa using this) ?_
           exact obR_end rfl rfl (grown_refl _ _)
          ·
           intro aA wA cA hNA hRA hckA hOA hbsA hdpA
           have qA_79 : Sl aA 79 v := hdpA 0 _ 79 (by kernel_rfl) rfl rfl
           have qA_80 : Sl aA 80 (Value.int .i64 ((j3 : Nat) : Int)) := hdpA 1 _ 80 (by kernel_rfl) rfl rfl
           clear hbsA hdpA
           refine op_index_own (i := j3) slt22 (ev_base hNA rfl qA_79) hOA (ev_base hNA rfl qA_80) (by omega) (by omega) ?_
           intro b_ o_ _ hA_
           exact obR_end rfl ⟨b_, o_, rfl, by simpa using hA_⟩ (grown_refl _ _)
          ·
           intro aA wA cA hNA hRA hckA hOA hbsA hdpA
           have qA_81 : Sl aA 81 v := hdpA 2 _ 81 (by kernel_rfl) rfl rfl
           have qA_83 : Sl aA 83 (Value.int .i64 (((j3 : Nat) : Int) - 1)) := hdpA 4 _ 83 (by kernel_rfl) rfl rfl
           clear hbsA hdpA
           refine op_index_own (i := (j3 - 1)) slt22 (ev_base hNA rfl qA_81) hOA (ev_base hNA rfl qA_83) (by omega) (by omega) ?_
           intro b_ o_ _ hA_
           exact obR_end rfl ⟨b_, o_, rfl, by simpa using hA_⟩ (grown_refl _ _)
          ·
           intro o_ ho_; obtain rfl := Option.some.inj ho_; intro aA wA hNA hRA hbsA hdpA hOA
           obtain ⟨bA_93, oA_93, qA_93, hAA_93⟩ := hdpA 14 _ 93 (by kernel_rfl) rfl rfl
           have qA_88 : Sl aA 88 (Value.int .u16 (d2[(j3 - 1)]!.toNat : Int)) := hdpA 9 _ 88 (by kernel_rfl) rfl rfl
           clear hbsA hdpA
           have hOA : Own wA base 35 1 v n (d2.toList.map u16v) := hOA
           refine op_store_own (vs := [(Value.int .u16 (d2[(j3 - 1)]!.toNat : Int))]) size35 (ev_base hNA rfl qA_93) (ev_base hNA rfl qA_88) rfl rfl rfl hOA hAA_93 (by have := hOA.1; simp at this ⊢; omega) ?_
           intro w_ hO_ E_
           exact obW_end rfl (hO_.cast rfl (set_arr (by first | omega | (simp only [Array.size_setIfInBounds, swp_sz, siftDown_size]; omega)))) E_
          ·
           intro o_ ho_; obtain rfl := Option.some.inj ho_; intro aA wA hNA hRA hbsA hdpA hOA
           obtain ⟨bA_94, oA_94, qA_94, hAA_94⟩ := hdpA 16 _ 94 (by kernel_rfl) rfl rfl
           have qA_92 : Sl aA 92 (Value.int .u16 (d2[j3]!.toNat : Int)) := hdpA 13 _ 92 (by kernel_rfl) rfl rfl
           clear hbsA hdpA
           have hOA : Own wA base 35 1 v n ((d2.setIfInBounds j3 d2[(j3 - 1)]!).toList.map u16v) := hOA
           refine op_store_own (vs := [(Value.int .u16 (d2[j3]!.toNat : Int))]) size35 (ev_base hNA rfl qA_94) (ev_base hNA rfl qA_92) rfl rfl rfl hOA hAA_94 (by have := hOA.1; simp at this ⊢; omega) ?_
           intro w_ hO_ E_
           exact obW_end rfl (hO_.cast rfl (set_arr (by first | omega | (simp only [Array.size_setIfInBounds, swp_sz, siftDown_size]; omega)))) E_
          ·
           intro a306 w306 hN306 hd306 hbs306 hph306 hO306 E306
           have hd306 := hd306.trans hd291
           have s306_0 := (hbs306 0 rfl).trans (sl_base hN291 rfl s291_0)
           have s306_1 := (hbs306 1 rfl).trans (sl_base hN291 rfl s291_1)
           have s306_2 := (hbs306 2 rfl).trans (sl_base hN291 rfl s291_2)
           have s306_7 := (hbs306 7 rfl).trans (sl_base hN291 rfl s291_7)
           have s306_8 := (hbs306 8 rfl).trans (sl_base hN291 rfl s291_8)
           have s306_9 := (hbs306 9 rfl).trans (sl_base hN291 rfl s291_9)
           clear hbs306 hph306
           have hO306 : Own w306 base 35 1 v n (((d2.setIfInBounds j3 d2[(j3 - 1)]!).setIfInBounds (j3 - 1) d2[j3]!).toList.map u16v) := hO306
           have z_w306 := E306.size
           have hb := grow_stepX hb E306 rfl
           refine hK295 _ _ ?_
           refine one_reg ?_
           refine op_move (ev_base hN306 rfl s306_9) ?_
           refine op_sub (ev_hit hN306 rfl) rfl (sub64 (by omega)) ?_
           refine op_assign (ev_hit hN306 rfl) ?_
           refine reg_nil ?_
           -- round 14T 37F 41F 61T 65T 78F
           exact loop_next _ hN306 hd306 ⟨(j3 - 1), _, rfl, (sl_base hN306 rfl s306_0), (sl_base hN306 rfl s306_1), (sl_base hN306 rfl s306_2), (sl_base hN306 rfl s306_7), (sl_base hN306 rfl s306_8), (sl_hit hN306 rfl).trans (congrArg (Value.int .i64) (by omega)), (by first | assumption | (simp only [Array.size_setIfInBounds, swp_sz, siftDown_size]; assumption)), (by omega), (hdn.trans (shiftDown_go (by omega) (not_f c78))), hb, (by omega), hO306⟩ (by omega)
        · -- 65F
         refine reg_nil ?_
         refine hK294 _ _ ?_
         refine wp_cond_false (ev_hit hN291 rfl) ?_
         refine wp_exit (then_exit (then_exit (blk_hit ?_)))
         refine hK288 _ _ ?_
         exact hJ286 _ _ _ hN291 hd291 ⟨_, (sl_base hN291 rfl s291_0), (sl_base hN291 rfl s291_1), (sl_base hN291 rfl s291_2), (sl_base hN291 rfl s291_7), (sl_base hN291 rfl s291_8), ((fixDown_t (by omega)).trans (hdn.trans (shiftDown_stop (.inl (by omega))))).symm, (by first | assumption | (simp only [Array.size_setIfInBounds, swp_sz, siftDown_size]; assumption)), hb, (by omega), hO292⟩
       · -- 61F
        refine reg_nil ?_
        refine hK289 _ _ ?_
        refine wp_cond_false (ev_hit hN285 rfl) ?_
        refine wp_skip ?_
        refine hK288 _ _ ?_
        exact hJ286 _ _ _ hN285 hd285 ⟨_, (sl_base hN285 rfl s285_0), (sl_base hN285 rfl s285_1), (sl_base hN285 rfl s285_2), (sl_base hN285 rfl s285_7), (sl_base hN285 rfl s285_8), (fixDown_f (by omega)).symm, (by first | assumption | (simp only [Array.size_setIfInBounds, swp_sz, siftDown_size]; assumption)), hb, (by omega), hO285⟩
      ·
       rintro a286 w286 hN286 hd286 ⟨d3, s286_0, s286_1, s286_2, s286_7, s286_8, hdd, hz3, hb, zl_w286, hO287⟩
       have z_w286 := hb.size
       refine seq_any fun K307 hK307 => ?_
       refine one_reg ?_
       refine op_move (ev_base hN286 rfl s286_2) ?_
       refine op_move (ev_base hN286 rfl s286_7) ?_
       refine op_sub (ev_hit hN286 rfl) (ev_hit hN286 rfl) (sub64 (by omega)) ?_
       refine op_geq (ev_hit hN286 rfl) rfl (fun c98 => ?_) (fun c98 => ?_)
       · -- 98T
        refine reg_nil ?_
        refine hK307 _ _ ?_
        refine wp_cond_true (ev_hit hN286 rfl) ?_
        refine seq_any fun K308 hK308 => ?_
        refine one_reg ?_
        refine op_move (ev_base hN286 rfl s286_7) ?_
        refine op_add (ev_hit hN286 rfl) rfl (add64 (by omega)) ?_
        refine op_assign (ev_hit hN286 rfl) ?_
        refine reg_nil ?_
        refine hK308 _ _ ?_
        refine wp_block ?_
        refine loop_m (fun mz_ az_ w' => ∃ (j4 : Nat) (d4 : Ar), mz_ = (b + 1 - j4) ∧ (az_.tmps.getD 0 undef = v) ∧ (az_.tmps.getD 1 undef = (Value.int .i64 ((a : Nat) : Int))) ∧ (az_.tmps.getD 2 undef = (Value.int .i64 ((b : Nat) : Int))) ∧ (az_.tmps.getD 7 undef = (Value.int .i64 ((i2 : Nat) : Int))) ∧ (az_.tmps.getD 8 undef = (Value.int .i64 ((s : Nat) : Int))) ∧ (az_.tmps.getD 10 undef = (Value.int .i64 ((j4 : Nat) : Int))) ∧ (d4.size = n) ∧ (i2 + 1 ≤ j4 ∧ j4 ≤ b) ∧ (shiftUp ltT b (i2 + 1) d3 = shiftUp ltT b j4 d4) ∧ (w.grownBy w' v.ownBlock) ∧ (w286.heap.size ≤ w'.heap.size) ∧ (Own w' base 35 1 v n (d4.toList.map u16v))) _ hN286 hd286 ⟨(i2 + 1), _, rfl, (sl_base hN286 rfl s286_0), (sl_base hN286 rfl s286_1), (sl_base hN286 rfl s286_2), (sl_base hN286 rfl s286_7), (sl_base hN286 rfl s286_8), (sl_hit hN286 rfl).trans (congrArg (Value.int .i64) (by omega)), (by first | assumption | (simp only [Array.size_setIfInBounds, swp_sz, siftDown_size]; assumption)), (by omega), rfl, hb, (Nat.le_refl _), hO287⟩ ?_
        rintro _ a309 w309 hN309 hd309 ⟨j4, d4, rfl, s309_0, s309_1, s309_2, s309_7, s309_8, s309_10, hd4, hr4, hup, hb, zl_w309, hO310⟩
        have z_w309 := hb.size
        refine seq_any fun K311 hK311 => ?_
        refine seq_any fun K312 hK312 => ?_
        refine one_reg ?_
        refine op_move (ev_base hN309 rfl s309_10) ?_
        refine op_move (ev_base hN309 rfl s309_2) ?_
        refine op_lss (ev_hit hN309 rfl) (ev_hit hN309 rfl) (fun c103 => ?_) (fun c103 => ?_)
        · -- 103T
         refine reg_nil ?_
         refine hK312 _ _ ?_
         refine wp_cond_true (ev_hit hN309 rfl) ?_
         refine wp_skip ?_
         refine hK311 _ _ ?_
         refine seq_any fun K313 hK313 => ?_
         refine wp_block ?_
         refine seq_any fun K314 hK314 => ?_
         refine seq_any fun K315 hK315 => ?_
         refine reg_still mixed (by kernel_rfl) ?_
         intro w317 E316
         have z_w317 := E316.size
         have hO310 := hO310.keep0 E316
         have hb := grow_step0 hb E316
         refine st_step rfl (fun _ h9 => op_move (ev_base hN309 rfl s309_0) h9) ?_
         refine st_step rfl (fun _ h9 => op_move (ev_base hN309 rfl s309_10) h9) ?_
         refine st_index_rd slt22 (ev_hit hN309 rfl) hO310.rdw (ev_hit hN309 rfl) (by omega) (by omega) ?_
         intro b318 o319 h0b318 h1b318 hc320
         refine st_step rfl (fun _ h9 => op_load1 (v := (Value.int .u16 (d4[j4]!.toNat : Int))) one35 (ev_hit hN309 rfl) (by have := hc320 0 (Value.int .u16 (d4[j4]!.toNat : Int)) (by decide) (el_arr (i := j4) (by omega) (by first | omega | (simp only [Array.size_setIfInBounds, swp_sz, siftDown_size]; omega))); simpa using this) h9) ?_
         refine st_step rfl (fun _ h9 => op_move (ev_base hN309 rfl s309_0) h9) ?_
         refine st_step rfl (fun _ h9 => op_move (ev_base hN309 rfl s309_10) h9) ?_
         refine st_step rfl (fun _ h9 => op_sub (ev_hit hN309 rfl) rfl (sub64 (by omega)) h9) ?_
         refine st_index_rd slt22 (ev_hit hN309 rfl) hO310.rdw (ev_hit hN309 rfl) (by omega) (by omega) ?_
         intro b321 o322 h0b321 h1b321 hc323
         refine st_step rfl (fun _ h9 => op_load1 (v := (Value.int .u16 (d4[(j4 - 1)]!.toNat : Int))) one35 (ev_hit hN309 rfl) (by have := hc323 0 (Value.int .u16 (d4[(j4 - 1)]!.toNat : Int)) (by decide) (el_arr (i := (j4 - 1)) (by omega) (by first | omega | (simp only [Array.size_setIfInBounds, swp_sz, siftDown_size]; omega))); simpa using this) h9) ?_
         refine st_fn (vs := [(Value.int .u16 (d4[j4]!.toNat : Int)), (Value.int .u16 (d4[(j4 - 1)]!.toNat : Int))]) ok72 (⟨(ev_hit hN309 rfl), ⟨(ev_hit hN309 rfl), trivial⟩⟩) (Less16_ret d4[j4]! d4[(j4 - 1)]! _) ?_
         refine st_step rfl (fun _ h9 => op_not (ev_hit hN309 rfl) h9) ?_
         refine st_nil ?_
         refine hK315 _ _ ?_
         refine wp_cond_split (ev_hit hN309 rfl) (fun c116 => ?_) (fun c116 => ?_)
         · -- 116T
          refine wp_exit (then_exit (blk_miss (by decide) (then_exit (then_exit (blk_hit ?_)))))
          refine hK264 _ _ ?_
          refine one_reg ?_
          refine op_move (ev_base hN309 rfl s309_8) ?_
          refine op_add (ev_hit hN309 rfl) rfl (add64 (by omega)) ?_
          refine op_assign (ev_hit hN309 rfl) ?_
          refine reg_nil ?_
          -- round 14T 37F 41F 98T 103T 116T
          exact loop_next _ hN309 hd309 ⟨(s + 1), i2, _, rfl, (sl_base hN309 rfl s309_0), (sl_base hN309 rfl s309_1), (sl_base hN309 rfl s309_2), (sl_hit hN309 rfl).trans (congrArg (Value.int .i64) (by omega)), (sl_base hN309 rfl s309_7).trans (congrArg (Value.int .i64) (by omega)), (by first | assumption | (simp only [Array.size_setIfInBounds, swp_sz, siftDown_size]; assumption)), (by omega), (hs.trans (pi_go (by omega) hq2 (by omega) (by omega) hdd ((fixUp_t (by omega)).trans (hup.trans (shiftUp_stop (.inr (not_t c116))))).symm)), hb, (by omega), hO310⟩ (by omega)
         · -- 116F
          refine wp_skip ?_
          refine hK314 _ _ ?_
          refine reg_mid (e := 35) (sz := 1) (base := base) (n := n) (v := v) (Φ := phiL [(fun uz _ => uz = v), (fun uz _ => uz = (Value.int .i64 ((j4 : Nat) : Int))), (fun uz _ => uz = v), (fun uz _ => uz = (Value.int .i64 ((j4 : Nat) : Int))), (fun uz _ => uz = (Value.int .i64 (((j4 : Nat) : Int) - 1))), (fun uz _ => uz = v), (fun uz _ => uz = (Value.int .i64 ((j4 : Nat) : Int))), (fun uz _ => uz = (Value.int .i64 (((j4 : Nat) : Int) - 1))), (fun uz _ => ∃ bz oz, uz = ptr bz oz ∧ AtV v (j4 - 1) bz oz), (fun uz _ => uz = (Value.int .u16 (d4[(j4 - 1)]!.toNat : Int))), (fun uz _ => uz = v), (fun uz _ => uz = (Value.int .i64 ((j4 : Nat) : Int))), (fun uz _ => ∃ bz oz, uz = ptr bz oz ∧ AtV v j4 bz oz), (fun uz _ => uz = (Value.int .u16 (d4[j4]!.toNat : Int))), (fun uz _ => ∃ bz oz, uz = ptr bz oz ∧ AtV v j4 bz oz), (fun _ _ => True), (fun uz _ => ∃ bz oz, uz = ptr bz oz ∧ AtV v (j4 - 1) bz oz), (fun _ _ => True)]) [15, 17] [(d4.toList.map u16v), ((d4.setIfInBounds j4 d4[(j4 - 1)]!).toList.map u16v), (((d4.setIfInBounds j4 d4[(j4 - 1)]!).setIfInBounds (j4 - 1) d4[j4]!).toList.map u16v)] mixed (by kernel_rfl) (by kernel_rfl) (by kernel_rfl) (by kernel_rfl) hN309 hO310 (StL.get (StL.eq (StL.eq (StL.eq (StL.eq (StL.eq (StL.eq (StL.eq (StL.eq (StL.at (StL.eq (StL.eq (StL.eq (StL.at (StL.eq (StL.at (StL.cons (fun _ _ _ _ h => h) (StL.at (StL.cons (fun _ _ _ _ h => h) (StL.nil _)))))))))))))))))))) (ObRs.get (ObRs.cons ?_ (ObRs.cons ?_ (ObRs.cons ?_ (ObRs.cons ?_ (ObRs.cons ?_ (ObRs.cons ?_ (ObRs.cons ?_ (ObRs.cons ?_ (ObRs.cons ?_ (ObRs.cons ?_ (ObRs.cons ?_ (ObRs.cons ?_ (ObRs.cons ?_ (ObRs.cons ?_ (ObRs.cons ?_ (ObRs.pass rfl (ObRs.cons ?_ (ObRs.pass rfl (ObRs.nil)))))))))))))))))))) (ObWs.get (ObWs.cons ?_ (ObWs.cons ?_ (ObWs.nil)))) ?_
          ·
           intro aA wA cA hNA hRA hckA hOA hbsA hdpA
           have qA_0 := (hbsA 0 rfl).trans (sl_base hN309 rfl s309_0)
           clear hbsA hdpA
           refine op_move (ev_base hNA rfl qA_0) ?_
           exact obR_end rfl rfl (grown_refl _ _)
          ·
           intro aA wA cA hNA hRA hckA hOA hbsA hdpA
           have qA_10 := (hbsA 10 rfl).trans (sl_base hN309 rfl s309_10)
           clear hbsA hdpA
           refine op_move (ev_base hNA rfl qA_10) ?_
           exact obR_end rfl rfl (grown_refl _ _)
          ·
           intro aA wA cA hNA hRA hckA hOA hbsA hdpA
           have qA_0 := (hbsA 0 rfl).trans (sl_base hN309 rfl s309_0)
           clear hbsA hdpA
           refine op_move (ev_base hNA rfl qA_0) ?_
           exact obR_end rfl rfl (grown_refl _ _)
          ·
           intro aA wA cA hNA hRA hckA hOA hbsA hdpA
           have qA_10 := (hbsA 10 rfl).trans (sl_base hN309 rfl s309_10)
           clear hbsA hdpA
           refine op_move (ev_base hNA rfl qA_10) ?_
           exact obR_end rfl rfl (grown_refl _ _)
          ·
           intro aA wA cA hNA hRA hckA hOA hbsA hdpA
           have qA_120 : Sl aA 120 (Value.int .i64 ((j4 : Nat) : Int)) := hdpA 3 _ 120 (by kernel_rfl) rfl rfl
           clear hbsA hdpA
           refine op_sub (ev_base hNA rfl qA_120) rfl (sub64 (by omega)) ?_
           exact obR_end rfl rfl (grown_refl _ _)
          ·
           intro aA wA cA hNA hRA hckA hOA hbsA hdpA
           have qA_0 := (hbsA 0 rfl).trans (sl_base hN309 rfl s309_0)
           clear hbsA hdpA
           refine op_move (ev_base hNA rfl qA_0) ?_
           exact obR_end rfl rfl (grown_refl _ _)
          ·
           intro aA wA cA hNA hRA hckA hOA hbsA hdpA
           have qA_10 := (hbsA 10 rfl).trans (sl_base hN309 rfl s309_10)
           clear hbsA hdpA
           refine op_move (ev_base hNA rfl qA_10) ?_
           exact obR_end rfl rfl (grown_refl _ _)
          ·
           intro aA wA cA hNA hRA hckA hOA hbsA hdpA
           have qA_123 : Sl aA 123 (Value.int .i64 ((j4 : Nat) : Int)) := hdpA 6 _ 123 (by kernel_rfl) rfl rfl
           clear hbsA hdpA
           refine op_sub (ev_base hNA rfl qA_123) rfl (sub64 (by omega)) ?_
           exact obR_end rfl rfl (grown_refl _ _)
          ·
           intro aA wA cA hNA hRA hckA hOA hbsA hdpA
           have qA_122 : Sl aA 122 v := hdpA 5 _ 122 (by kernel_rfl) rfl rfl
           have qA_124 : Sl aA 124 (Value.int .i64 (((j4 : Nat) : Int) - 1)) := hdpA 7 _ 124 (by kernel_rfl) rfl rfl
           clear hbsA hdpA
           refine op_index_own (i := (j4 - 1)) slt22 (ev_base hNA rfl qA_122) hOA (ev_base hNA rfl qA_124) (by omega) (by omega) ?_
           intro b_ o_ _ hA_
           exact obR_end rfl ⟨b_, o_, rfl, by simpa using hA_⟩ (grown_refl _ _)
          ·
           intro aA wA cA hNA hRA hckA hOA hbsA hdpA
           obtain ⟨bA_125, oA_125, qA_125, hAA_125⟩ := hdpA 8 _ 125 (by kernel_rfl) rfl rfl
           clear hbsA hdpA
           obtain rfl : cA = 0 := Nat.le_zero.1 (hckA 0 15 rfl (by kernel_rfl))
           have hOA : Own wA base 35 1 v n (d4.toList.map u16v) := hOA
           refine op_load1 (v := (Value.int .u16 (d4[(j4 - 1)]!.toNat : Int))) one35 (ev_base hNA rfl qA_125) (by have := hOA.cellAt hAA_125 0 _ (el_at (i := (j4 - 1)) (by first | omega | (simp only [Array.size_setIfInBounds, swp_sz, siftDown_size]; omega))); simpa using this) ?_
           exact obR_end rfl rfl (grown_refl _ _)
          ·
           intro aA wA cA hNA hRA hckA hOA hbsA hdpA
           have qA_0 := (hbsA 0 rfl).trans (sl_base hN309 rfl s309_0)
           clear hbsA hdpA
           refine op_move (ev_base hNA rfl qA_0) ?_
           exact obR_end rfl rfl (grown_refl _ _)
          ·
           intro aA wA cA hNA hRA hckA hOA hbsA hdpA
           have qA_10 := (hbsA 10 rfl).trans (sl_base hN309 rfl s309_10)
           clear hbsA hdpA
           refine op_move (ev_base hNA rfl qA_10) ?_
           exact obR_end rfl rfl (grown_refl _ _)
          ·
           intro aA wA cA hNA hRA hckA hOA hbsA hdpA
           have qA_127 : Sl aA 127 v := hdpA 10 _ 127 (by kernel_rfl) rfl rfl
           have qA_128 : Sl aA 128 (Value.int .i64 ((j4 : Nat) : Int)) := hdpA 11 _ 128 (by kernel_rfl) rfl rfl
           clear hbsA hdpA
           refine op_index_own (i := j4) slt22 (ev_base hNA rfl qA_127) hOA (ev_base hNA rfl qA_128) (by omega) (by omega) ?_
           intro b_ o_ _ hA_
           exact obR_end rfl ⟨b_, o_, rfl, by simpa using hA_⟩ (grown_refl _ _)
          ·
           intro aA wA cA hNA hRA hckA hOA hbsA hdpA
           obtain ⟨bA_129, oA_129, qA_129, hAA_129⟩ := hdpA 12 _ 129 (by kernel_rfl) rfl rfl
           clear hbsA hdpA
           obtain rfl : cA = 0 := Nat.le_zero.1 (hckA 0 15 rfl (by kernel_rfl))
           have hOA : Own wA base 35 1 v n (d4.toList.map u16v) := hOA
           refine op_load1 (v := (Value.int .u16 (d4[j4]!.toNat : Int))) one35 (ev_base hNA rfl qA_129) (by have := hOA.cellAt hAA_129 0 _ (el_at (i := j4) (by first | omega | (simp only [Array.size_setIfInBounds, swp_sz, siftDown_size]; omega))); simpa using this) ?_
           exact obR_end rfl rfl (grown_refl _ _)
          ·
           intro aA wA cA hNA hRA hckA hOA hbsA hdpA
           have qA_117 : Sl aA 117 v := hdpA 0 _ 117 (by kernel_rfl) rfl rfl
           have qA_118 : Sl aA 118 (Value.int .i64 ((j4 : Nat) : Int)) := hdpA 1 _ 118 (by kernel_rfl) rfl rfl
           clear hbsA hdpA
           refine op_index_own (i := j4) slt22 (ev_base hNA rfl qA_117) hOA (ev_base hNA rfl qA_118) (by omega) (by omega) ?_
           intro b_ o_ _ hA_
           exact obR_end rfl ⟨b_, o_, rfl, by simpa using hA_⟩ (grown_refl _ _)
          ·
           intro aA wA cA hNA hRA hckA hOA hbsA hdpA
           have qA_119 : Sl aA 119 v := hdpA 2 _ 119 (by kernel_rfl) rfl rfl
           have qA_121 : Sl aA 121 (Value.int .i64 (((j4 : Nat) : Int) - 1)) := hdpA 4 _ 121 (by kernel_rfl) rfl rfl
           clear hbsA hdpA
           refine op_index_own (i := (j4 - 1)) slt22 (ev_base hNA rfl qA_119) hOA (ev_base hNA rfl qA_121) (by omega) (by omega) ?_
           intro b_ o_ _ hA_
           exact obR_end rfl ⟨b_, o_, rfl, by simpa using hA_⟩ (grown_refl _ _)
          ·
           intro o_ ho_; obtain rfl := Option.some.inj ho_; intro aA wA hNA hRA hbsA hdpA hOA
           obtain ⟨bA_131, oA_131, qA_131, hAA_131⟩ := hdpA 14 _ 131 (by kernel_rfl) rfl rfl
           have qA_126 : Sl aA 126 (Value.int .u16 (d4[(j4 - 1)]!.toNat : Int)) := hdpA 9 _ 126 (by kernel_rfl) rfl rfl
           clear hbsA hdpA
           have hOA : Own wA base 35 1 v n (d4.toList.map u16v) := hOA
           refine op_store_own (vs := [(Value.int .u16 (d4[(j4 - 1)]!.toNat : Int))]) size35 (ev_base hNA rfl qA_131) (ev_base hNA rfl qA_126) rfl rfl rfl hOA hAA_131 (by have := hOA.1; simp at this ⊢; omega) ?_
           intro w_ hO_ E_
           exact obW_end rfl (hO_.cast rfl (set_arr (by first | omega | (simp only [Array.size_setIfInBounds, swp_sz, siftDown_size]; omega)))) E_
          ·
           intro o_ ho_; obtain rfl := Option.some.inj ho_; intro aA wA hNA hRA hbsA hdpA hOA
           obtain ⟨bA_132, oA_132, qA_132, hAA_132⟩ := hdpA 16 _ 132 (by kernel_rfl) rfl rfl
           have qA_130 : Sl aA 130 (Value.int .u16 (d4[j4]!.toNat : Int)) := hdpA 13 _ 130 (by kernel_rfl) rfl rfl
           clear hbsA hdpA
           have hOA : Own wA base 35 1 v n ((d4.setIfInBounds j4 d4[(j4 - 1)]!).toList.map u16v) := hOA
           refine op_store_own (vs := [(Value.int .u16 (d4[j4]!.toNat : Int))]) size35 (ev_base hNA rfl qA_132) (ev_base hNA rfl qA_130) rfl rfl rfl hOA hAA_132 (by have := hOA.1; simp at this ⊢; omega) ?_
           intro w_ hO_ E_
           exact obW_end rfl (hO_.cast rfl (set_arr (by first | omega | (simp only [Array.size_setIfInBounds, swp_sz, siftDown_size]; omega)))) E_
          ·
           intro a324 w324 hN324 hd324 hbs324 hph324 hO324 E324
           have hd324 := hd324.trans hd309
           have s324_0 := (hbs324 0 rfl).trans (sl_base hN309 rfl s309_0)
           have s324_1 := (hbs324 1 rfl).trans (sl_base hN309 rfl s309_1)
           have s324_2 := (hbs324 2 rfl).trans (sl_base hN309 rfl s309_2)
           have s324_7 := (hbs324 7 rfl).trans (sl_base hN309 rfl s309_7)
           have s324_8 := (hbs324 8 rfl).trans (sl_base hN309 rfl s309_8)
           have s324_10 := (hbs324 10 rfl).trans (sl_base hN309 rfl s309_10)
           clear hbs324 hph324
           have hO324 : Own w324 base 35 1 v n (((d4.setIfInBounds j4 d4[(j4 - 1)]!).setIfInBounds (j4 - 1) d4[j4]!).toList.map u16v) := hO324
           have z_w324 := E324.size
           have hb := grow_stepX hb E324 rfl
           refine hK313 _ _ ?_
           refine one_reg ?_
           refine op_move (ev_base hN324 rfl s324_10) ?_
           refine op_add (ev_hit hN324 rfl) rfl (add64 (by omega)) ?_
           refine op_assign (ev_hit hN324 rfl) ?_
           refine reg_nil ?_
           -- round 14T 37F 41F 98T 103T 116F
           exact loop_next _ hN324 hd324 ⟨(j4 + 1), _, rfl, (sl_base hN324 rfl s324_0), (sl_base hN324 rfl s324_1), (sl_base hN324 rfl s324_2), (sl_base hN324 rfl s324_7), (sl_base hN324 rfl s324_8), (sl_hit hN324 rfl).trans (congrArg (Value.int .i64) (by omega)), (by first | assumption | (simp only [Array.size_setIfInBounds, swp_sz, siftDown_size]; assumption)), (by omega), (hup.trans (shiftUp_go (by omega) (not_f c116))), hb, (by omega), hO324⟩ (by omega)
        · -- 103F
         refine reg_nil ?_
         refine hK312 _ _ ?_
         refine wp_cond_false (ev_hit hN309 rfl) ?_
         refine wp_exit (then_exit (then_exit (blk_hit ?_)))
         refine hK264 _ _ ?_
         refine one_reg ?_
         refine op_move (ev_base hN309 rfl s309_8) ?_
         refine op_add (ev_hit hN309 rfl) rfl (add64 (by omega)) ?_
         refine op_assign (ev_hit hN309 rfl) ?_
         refine reg_nil ?_
         -- round 14T 37F 41F 98T 103F
         exact loop_next _ hN309 hd309 ⟨(s + 1), i2, _, rfl, (sl_base hN309 rfl s309_0), (sl_base hN309 rfl s309_1), (sl_base hN309 rfl s309_2), (sl_hit hN309 rfl).trans (congrArg (Value.int .i64) (by omega)), (sl_base hN309 rfl s309_7).trans (congrArg (Value.int .i64) (by omega)), (by first | assumption | (simp only [Array.size_setIfInBounds, swp_sz, siftDown_size]; assumption)), (by omega), (hs.trans (pi_go (by omega) hq2 (by omega) (by omega) hdd ((fixUp_t (by omega)).trans (hup.trans (shiftUp_stop (.inl (by omega))))).symm)), hb, (by omega), hO310⟩ (by omega)
       · -- 98F
        refine reg_nil ?_
        refine hK307 _ _ ?_
        refine wp_cond_false (ev_hit hN286 rfl) ?_
        refine wp_skip ?_
        refine hK264 _ _ ?_
        refine one_reg ?_
        refine op_move (ev_base hN286 rfl s286_8) ?_
        refine op_add (ev_hit hN286 rfl) rfl (add64 (by omega)) ?_
        refine op_assign (ev_hit hN286 rfl) ?_
        refine reg_nil ?_
        -- round 14T 37F 41F 98F
        exact loop_next _ hN286 hd286 ⟨(s + 1), i2, _, rfl, (sl_base hN286 rfl s286_0), (sl_base hN286 rfl s286_1), (sl_base hN286 rfl s286_2), (sl_hit hN286 rfl).trans (congrArg (Value.int .i64) (by omega)), (sl_base hN286 rfl s286_7).trans (congrArg (Value.int .i64) (by omega)), (by first | assumption | (simp only [Array.size_setIfInBounds, swp_sz, siftDown_size]; assumption)), (by omega), (hs.trans (pi_go (by omega) hq2 (by omega) (by omega) hdd (fixUp_f (by omega)).symm)), hb, (by omega), hO287⟩ (by omega)
 · -- 14F
  refine reg_nil ?_
  refine hK263 _ _ ?_
  refine wp_cond_false (ev_hit hN260 rfl) ?_
  refine wp_exit (then_exit (then_exit (blk_hit ?_)))
  refine hK258 _ _ ?_
  refine seq_any fun K325 hK325 => ?_
  refine one_reg ?_
  refine op_assign rfl ?_
  refine reg_nil ?_
  refine hK325 _ _ ?_
  refine wp_ret ?_
  refine ret1 rfl hd260 (ev_hit hN260 rfl) ⟨_, rfl, ?_⟩
  -- path 14F
  have hq : partialInsertionSort ltT d a b = (dk, false) := hs.trans (by rw [show 5 - s = 0 by omega]; rfl)
  exact ⟨hb, by rw [hq]; rfl, hO261.cast rfl (by rw [hq])⟩

end Go.Proofs.Ytpmnljffdofkeaa

/- Walks, written by a program: what each function of the translation hands back. -/
namespace Go.Proofs.Ytpmnljffdofkeaa
open Go.Gx Go.RowKit
attribute [local irreducible] wpList wpStill Code.wp Calls
open Go.Sort (insertionSort insOuter insInner swp siftDown heapSort heapBuild heapPop scanUp scanDown partition partLoop partitionEqual partEqLoop scanSorted partialIns bitsLen partialInsertionSort shiftDown shiftUp SortedIn reverseRange reverseLoop fixDown fixUp)
set_option maxHeartbeats 2000000 in
theorem bpW_ret (d : Ar) (v : Value) (n base : Nat) (a b : Nat) (w : World) (hd : d.size = n) (hn : n ≤ 4000000000000000000) (O : Own w base 35 1 v n (d.toList.map u16v)) (hab : a ≤ b) (hbn : b ≤ n) : Ret Try.prog 68 #[v, (Value.int .i64 ((a : Nat) : Int)), (Value.int .i64 ((b : Nat) : Int))] w (fun v' w' => w.grownBy w' v.ownBlock ∧ v' = .tuple #[] ∧ ∃ d', PI a b d d' ∧ Own w' base 35 1 v n (d'.toList.map u16v)) := by
 have hb := grown_refl w v.ownBlock
 refine enter (N := 65) Try.func68 rfl rfl (by simp) fun a0 hN hd hA => ?_
 have s0 : a0.tmps.getD 0 undef = v := hA 0 (by simp)
 have s1 : a0.tmps.getD 1 undef = (Value.int .i64 ((a : Nat) : Int)) := hA 1 (by simp)
 have s2 : a0.tmps.getD 2 undef = (Value.int .i64 ((b : Nat) : Int)) := hA 2 (by simp)
 clear hA
 refine seq_any fun K455 hK455 => ?_
 refine one_reg ?_
 refine op_move (ev_base hN rfl s2) ?_
 refine op_move (ev_base hN rfl s1) ?_
 refine op_sub (r := (((b - a) : Nat) : Int)) (ev_hit hN rfl) (ev_hit hN rfl) (by rw [IntKind.wrap_i64]; omega) ?_
 refine op_assign (ev_hit hN rfl) ?_
 refine reg_nil ?_
 refine hK455 _ _ ?_
 refine seq_any fun K456 hK456 => ?_
 refine one_reg ?_
 refine op_move (ev_hit hN rfl) ?_
 refine op_geq (ev_hit hN rfl) rfl (fun c15 => ?_) (fun c15 => ?_)
 · -- 15T
  refine reg_nil ?_
  refine hK456 _ _ ?_
  refine wp_cond_true (ev_hit hN rfl) ?_
  refine seq_any fun K457 hK457 => ?_
  refine one_reg ?_
  refine op_move (ev_hit hN rfl) ?_
  refine op_conv (r := (((b - a) : Nat) : Int)) (ev_hit hN rfl) us3 Try.underlying82 (wrap_u64 (by omega)) ?_
  refine op_alloc (cs := [(Value.int .u64 0)]) zero82 rfl ?_
  intro w458 b459 lo_b459 hi_b459 hB461 E460
  have z_w458 := E460.size
  have O := O.keep0 E460
  have hb := grow_step0 hb E460
  have hB461_old := hB461
  refine op_store (vs := [(Value.int .u64 (((b - a) : Nat) : Int))]) (cs' := [(Value.int .u64 (((b - a) : Nat) : Int))]) size82 (ev_hit hN rfl) (ev_hit hN rfl) rfl rfl rfl hB461 (Nat.le_of_ble_eq_true rfl) rfl ?_
  intro w464 hB461 E465
  have z_w464 := E465.size
  have O := O.keepX hB461_old E465 (by decide)
  have hb := grow_step1 hb E465 (by omega)
  refine reg_nil ?_
  refine hK457 _ _ ?_
  refine seq_any fun K466 hK466 => ?_
  refine one_reg ?_
  refine op_move (ev_hit hN rfl) ?_
  refine op_fn (vs := [(Value.int .i64 (((b - a) : Nat) : Int))]) ok78 ⟨(ev_hit hN rfl), trivial⟩ (npW_ret (b - a) _ (by omega)) ?_
  rintro _ w468 ⟨E469, M467, rfl, hM467, hM2467⟩
  have E469 := grown_of_below E469
  have z_w468 := E469.size
  have O := O.keep0 E469
  have hB461 := hB461.keep0 E469
  have hb := grow_step0 hb E469
  refine op_assign (ev_hit hN rfl) ?_
  refine reg_nil ?_
  refine hK466 _ _ ?_
  refine seq_any fun K470 hK470 => ?_
  refine one_reg ?_
  refine op_move (ev_base hN rfl s1) ?_
  refine op_move (ev_hit hN rfl) ?_
  refine op_quo (r := ((((b - a) / 4) : Nat) : Int)) (ev_hit hN rfl) rfl (by decide) (by rw [IntKind.wrap_i64, Int.tdiv_eq_ediv_of_nonneg (by omega)]; omega) ?_
  refine op_mul (r := ((((b - a) / 4 * 2) : Nat) : Int)) (ev_hit hN rfl) rfl (by rw [IntKind.wrap_i64]; omega) ?_
  refine op_add (ev_hit hN rfl) (ev_hit hN rfl) (add64 (by omega)) ?_
  refine op_sub (r := (((a + ((b - a) / 4 * 2) - 1) : Nat) : Int)) (ev_hit hN rfl) rfl (by rw [IntKind.wrap_i64]; omega) ?_
  refine op_assign (ev_hit hN rfl) ?_
  refine reg_nil ?_
  refine hK470 _ _ ?_
  refine wp_block ?_
  refine loop_m (fun mz_ az_ w' => ∃ (ix xs : Nat) (dk : Ar), mz_ = (a + b + 10 - ix) ∧ (az_.tmps.getD 0 undef = v) ∧ (az_.tmps.getD 1 undef = (Value.int .i64 ((a : Nat) : Int))) ∧ (az_.tmps.getD 6 undef = (Value.int .i64 (((b - a) : Nat) : Int))) ∧ (az_.tmps.getD 7 undef = (ptr b459 0)) ∧ (az_.tmps.getD 8 undef = (Value.int .u64 ((M467 : Nat) : Int))) ∧ (az_.tmps.getD 9 undef = (Value.int .i64 ((ix : Nat) : Int))) ∧ (dk.size = n) ∧ (a + ((b - a) / 4 * 2) - 1 ≤ ix ∧ ix ≤ a + ((b - a) / 4 * 2) + 2) ∧ (PI a b d dk) ∧ (w.grownBy w' v.ownBlock) ∧ (w468.heap.size ≤ w'.heap.size) ∧ (Bx w' b459 82 [(Value.int .u64 ((xs : Nat) : Int))]) ∧ (Own w' base 35 1 v n (dk.toList.map u16v))) _ hN hd ⟨(a + ((b - a) / 4 * 2) - 1), (b - a), _, rfl, (sl_base hN rfl s0), (sl_base hN rfl s1), (sl_hit hN rfl), (sl_hit hN rfl), (sl_hit hN rfl), (sl_hit hN rfl).trans (congrArg (Value.int .i64) (by omega)), (by first | assumption | (simp only [Array.size_setIfInBounds, swp_sz, siftDown_size]; assumption)), (by omega), (PI.rfl' _ _ _), hb, (Nat.le_refl _), hB461, O⟩ ?_
  rintro _ a471 w471 hN471 hd471 ⟨ix, xs, dk, rfl, s471_0, s471_1, s471_6, s471_7, s471_8, s471_9, hdk, hr1, hpi, hb, zl_w471, hxs, hO472⟩
  have z_w471 := hb.size
  refine seq_any fun K473 hK473 => ?_
  refine seq_any fun K474 hK474 => ?_
  refine one_reg ?_
  refine op_move (ev_base hN471 rfl s471_9) ?_
  refine op_move (ev_base hN471 rfl s471_1) ?_
  refine op_move (ev_base hN471 rfl s471_6) ?_
  refine op_quo (r := ((((b - a) / 4) : Nat) : Int)) (ev_hit hN471 rfl) rfl (by decide) (by rw [IntKind.wrap_i64, Int.tdiv_eq_ediv_of_nonneg (by omega)]; omega) ?_
  refine op_mul (r := ((((b - a) / 4 * 2) : Nat) : Int)) (ev_hit hN471 rfl) rfl (by rw [IntKind.wrap_i64]; omega) ?_
  refine op_add (ev_hit hN471 rfl) (ev_hit hN471 rfl) (add64 (by omega)) ?_
  refine op_add (ev_hit hN471 rfl) rfl (add64 (by omega)) ?_
  refine op_leq (ev_hit hN471 rfl) (ev_hit hN471 rfl) (fun c33 => ?_) (fun c33 => ?_)
  · -- 33T
   refine reg_nil ?_
   refine hK474 _ _ ?_
   refine wp_cond_true (ev_hit hN471 rfl) ?_
   refine wp_skip ?_
   refine hK473 _ _ ?_
   refine seq_any fun K475 hK475 => ?_
   refine wp_block ?_
   refine seq_any fun K476 hK476 => ?_
   refine one_reg ?_
   refine op_fn (vs := [(ptr b459 0)]) ok79 ⟨(ev_base hN471 rfl s471_7), trivial⟩ (xnextW_ret b459 _ _ hxs) ?_
   rintro _ w478 ⟨E479, rx477, rfl, hr477, hs477⟩
   have hxs_old := hxs
   have z_w478 := E479.size
   have hO472 := hO472.keepX hxs_old E479 (by decide)
   have hb := grow_step1 hb E479 (by omega)
   refine op_move (ev_base hN471 rfl s471_8) ?_
   refine op_sub (r := (((M467 - 1) : Nat) : Int)) (ev_hit hN471 rfl) rfl (by rw [show (M467 : Int) - 1 = ((M467 - 1 : Nat) : Int) by omega]; exact wrap_u64 (by omega)) ?_
   refine op_and (r := (((rx477 &&& (M467 - 1)) : Nat) : Int)) (ev_hit hN471 rfl) (ev_hit hN471 rfl) (and_64 (by omega) (by omega)) ?_
   have hand : (rx477 &&& (M467 - 1)) ≤ M467 - 1 := Nat.and_le_right
   refine op_conv (r := (((rx477 &&& (M467 - 1)) : Nat) : Int)) (ev_hit hN471 rfl) us60 Try.underlying3 (by rw [IntKind.wrap_i64]; omega) ?_
   refine op_assign (ev_hit hN471 rfl) ?_
   refine reg_nil ?_
   refine hK476 _ _ ?_
   refine seq_join1 (N := 65) (fun az_ w' => ∃ (ot : Nat), (az_.tmps.getD 0 undef = v) ∧ (az_.tmps.getD 1 undef = (Value.int .i64 ((a : Nat) : Int))) ∧ (az_.tmps.getD 6 undef = (Value.int .i64 (((b - a) : Nat) : Int))) ∧ (az_.tmps.getD 7 undef = (ptr b459 0)) ∧ (az_.tmps.getD 8 undef = (Value.int .u64 ((M467 : Nat) : Int))) ∧ (az_.tmps.getD 9 undef = (Value.int .i64 ((ix : Nat) : Int))) ∧ (az_.tmps.getD 10 undef = (Value.int .i64 ((ot : Nat) : Int))) ∧ (ot < b - a) ∧ (w.grownBy w' v.ownBlock) ∧ (w478.heap.size ≤ w'.heap.size) ∧ (Own w' base 35 1 v n (dk.toList.map u16v)) ∧ (Bx w' b459 82 [(Value.int .u64 ((rx477 : Nat) : Int))])) (fun hJ480 => ?_) ?_
   ·
    refine seq_any fun K481 hK481 => ?_
    refine seq_any fun K482 hK482 => ?_
    refine one_reg ?_
    refine op_move (ev_hit hN471 rfl) ?_
    refine op_move (ev_base hN471 rfl s471_6) ?_
    refine op_geq (ev_hit hN471 rfl) (ev_hit hN471 rfl) (fun c43 => ?_) (fun c43 => ?_)
    · -- 43T
     refine reg_nil ?_
     refine hK482 _ _ ?_
     refine wp_cond_true (ev_hit hN471 rfl) ?_
     refine one_reg ?_
     refine op_move (ev_hit hN471 rfl) ?_
     refine op_move (ev_base hN471 rfl s471_6) ?_
     refine op_sub (ev_hit hN471 rfl) (ev_hit hN471 rfl) (sub64 (by omega)) ?_
     refine op_assign (ev_hit hN471 rfl) ?_
     refine reg_nil ?_
     refine hK481 _ _ ?_
     exact hJ480 _ _ _ hN471 hd471 ⟨((rx477 &&& (M467 - 1)) - (b - a)), (sl_base hN471 rfl s471_0), (sl_base hN471 rfl s471_1), (sl_base hN471 rfl s471_6), (sl_base hN471 rfl s471_7), (sl_base hN471 rfl s471_8), (sl_base hN471 rfl s471_9), (sl_hit hN471 rfl).trans (congrArg (Value.int .i64) (by omega)), (by omega), hb, (by omega), hO472, hs477⟩
    · -- 43F
     refine reg_nil ?_
     refine hK482 _ _ ?_
     refine wp_cond_false (ev_hit hN471 rfl) ?_
     refine wp_skip ?_
     refine hK481 _ _ ?_
     exact hJ480 _ _ _ hN471 hd471 ⟨(rx477 &&& (M467 - 1)), (sl_base hN471 rfl s471_0), (sl_base hN471 rfl s471_1), (sl_base hN471 rfl s471_6), (sl_base hN471 rfl s471_7), (sl_base hN471 rfl s471_8), (sl_base hN471 rfl s471_9), (sl_hit hN471 rfl).trans (congrArg (Value.int .i64) (by omega)), (by omega), hb, (by omega), hO472, hs477⟩
   ·
    rintro a480 w480 hN480 hd480 ⟨ot, s480_0, s480_1, s480_6, s480_7, s480_8, s480_9, s480_10, hot, hb, zl_w480, hO472, hs477⟩
    have z_w480 := hb.size
    refine reg_mid (e := 35) (sz := 1) (base := base) (n := n) (v := v) (Φ := phiL [(fun uz _ => uz = v), (fun uz _ => uz = (Value.int .i64 ((ix : Nat) : Int))), (fun uz _ => uz = v), (fun uz _ => uz = (Value.int .i64 ((a : Nat) : Int))), (fun uz _ => uz = (Value.int .i64 ((ot : Nat) : Int))), (fun uz _ => uz = (Value.int .i64 (((a : Nat) : Int) + ((ot : Nat) : Int)))), (fun uz _ => uz = v), (fun uz _ => uz = (Value.int .i64 ((a : Nat) : Int))), (fun uz _ => uz = (Value.int .i64 ((ot : Nat) : Int))), (fun uz _ => uz = (Value.int .i64 (((a : Nat) : Int) + ((ot : Nat) : Int)))), (fun uz _ => ∃ bz oz, uz = ptr bz oz ∧ AtV v (a + ot) bz oz), (fun uz _ => uz = (Value.int .u16 (dk[(a + ot)]!.toNat : Int))), (fun uz _ => uz = v), (fun uz _ => uz = (Value.int .i64 ((ix : Nat) : Int))), (fun uz _ => ∃ bz oz, uz = ptr bz oz ∧ AtV v ix bz oz), (fun uz _ => uz = (Value.int .u16 (dk[ix]!.toNat : Int))), (fun uz _ => ∃ bz oz, uz = ptr bz oz ∧ AtV v ix bz oz), (fun _ _ => True), (fun uz _ => ∃ bz oz, uz = ptr bz oz ∧ AtV v (a + ot) bz oz), (fun _ _ => True)]) [17, 19] [(dk.toList.map u16v), ((dk.setIfInBounds ix dk[(a + ot)]!).toList.map u16v), (((dk.setIfInBounds ix dk[(a + ot)]!).setIfInBounds (a + ot) dk[ix]!).toList.map u16v)] mixed (by kernel_rfl) (by kernel_rfl) (by kernel_rfl) (by kernel_rfl) hN480 hO472 (StL.get (StL.eq (StL.eq (StL.eq (StL.eq (StL.eq (StL.eq (StL.eq (StL.eq (StL.eq (StL.eq (StL.at (StL.eq (StL.eq (StL.eq (StL.at (StL.eq (StL.at (StL.cons (fun _ _ _ _ h => h) (StL.at (StL.cons (fun _ _ _ _ h => h) (StL.nil _)))))))))))))))))))))) (ObRs.get (ObRs.cons ?_ (ObRs.cons ?_ (ObRs.cons ?_ (ObRs.cons ?_ (ObRs.cons ?_ (ObRs.cons ?_ (ObRs.cons ?_ (ObRs.cons ?_ (ObRs.cons ?_ (ObRs.cons ?_ (ObRs.cons ?_ (ObRs.cons ?_ (ObRs.cons ?_ (ObRs.cons ?_ (ObRs.cons ?_ (ObRs.cons ?_ (ObRs.cons ?_ (ObRs.pass rfl (ObRs.cons ?_ (ObRs.pass rfl (ObRs.nil)))))))))))))))))))))) (ObWs.get (ObWs.cons ?_ (ObWs.cons ?_ (ObWs.nil)))) ?_
    ·
     intro aA wA cA hNA hRA hckA hOA hbsA hdpA
     have qA_0 := (hbsA 0 rfl).trans (sl_base hN480 rfl s480_0)
     clear hbsA hdpA
     refine op_move (ev_base hNA rfl qA_0) ?_
     exact obR_end rfl rfl (grown_refl _ _)
    ·
     intro aA wA cA hNA hRA hckA hOA hbsA hdpA
     have qA_9 := (hbsA 9 rfl).trans (sl_base hN480 rfl s480_9)
     clear hbsA hdpA
     refine op_move (ev_base hNA rfl qA_9) ?_
     exact obR_end rfl rfl (grown_refl _ _)
    ·
     intro aA wA cA hNA hRA hckA hOA hbsA hdpA
     have qA_0 := (hbsA 0 rfl).trans (sl_base hN480 rfl s480_0)
     clear hbsA hdpA
     refine op_move (ev_base hNA rfl qA_0) ?_
     exact obR_end rfl rfl (grown_refl _ _)
    ·
     intro aA wA cA hNA hRA hckA hOA hbsA hdpA
     have qA_1 := (hbsA 1 rfl).trans (sl_base hN480 rfl s480_1)
     clear hbsA hdpA
     refine op_move (ev_base hNA rfl qA_1) ?_
     exact obR_end rfl rfl (grown_refl _ _)
    ·
     intro aA wA cA hNA hRA hckA hOA hbsA hdpA
     have qA_10 := (hbsA 10 rfl).trans (sl_base hN480 rfl s480_10)
     clear hbsA hdpA
     refine op_move (ev_base hNA rfl qA_10) ?_
     exact obR_end rfl rfl (grown_refl _ _)
    ·
     intro aA wA cA hNA hRA hckA hOA hbsA hdpA
     have qA_50 : Sl aA 50 (Value.int .i64 ((a : Nat) : Int)) := hdpA 3 _ 50 (by kernel_rfl) rfl rfl
     have qA_51 : Sl aA 51 (Value.int .i64 ((ot : Nat) : Int)) := hdpA 4 _ 51 (by kernel_rfl) rfl rfl
     clear hbsA hdpA
     refine op_add (ev_base hNA rfl qA_50) (ev_base hNA rfl qA_51) (add64 (by omega)) ?_
     exact obR_end rfl rfl (grown_refl _ _)
    ·
     intro aA wA cA hNA hRA hckA hOA hbsA hdpA
     have qA_0 := (hbsA 0 rfl).trans (sl_base hN480 rfl s480_0)
     clear hbsA hdpA
     refine op_move (ev_base hNA rfl qA_0) ?_
     exact obR_end rfl rfl (grown_refl _ _)
    ·
     intro aA wA cA hNA hRA hckA hOA hbsA hdpA
     have qA_1 := (hbsA 1 rfl).trans (sl_base hN480 rfl s480_1)
     clear hbsA hdpA
     refine op_move (ev_base hNA rfl qA_1) ?_
     exact obR_end rfl rfl (grown_refl _ _)
    ·
     intro aA wA cA hNA hRA hckA hOA hbsA hdpA
     have qA_10 := (hbsA 10 rfl).trans (sl_base hN480 rfl s480_10)
     clear hbsA hdpA
     refine op_move (ev_base hNA rfl qA_10) ?_
     exact obR_end rfl rfl (grown_refl _ _)
    ·
     intro aA wA cA hNA hRA hckA hOA hbsA hdpA
     have qA_54 : Sl aA 54 (Value.int .i64 ((a : Nat) : Int)) := hdpA 7 _ 54 (by kernel_rfl) rfl rfl
     have qA_55 : Sl aA 55 (Value.int .i64 ((ot : Nat) : Int)) := hdpA 8 _ 55 (by kernel_rfl) rfl rfl
     clear hbsA hdpA
     refine op_add (ev_base hNA rfl qA_54) (ev_base hNA rfl qA_55) (add64 (by omega)) ?_
     exact obR_end rfl rfl (grown_refl _ _)
    ·
     intro aA wA cA hNA hRA hckA hOA hbsA hdpA
     have qA_53 : Sl aA 53 v := hdpA 6 _ 53 (by kernel_rfl) rfl rfl
     have qA_56 : Sl aA 56 (Value.int .i64 (((a : Nat) : Int) + ((ot : Nat) : Int))) := hdpA 9 _ 56 (by kernel_rfl) rfl rfl
     clear hbsA hdpA
     refine op_index_own (i := (a + ot)) slt22 (ev_base hNA rfl qA_53) hOA (ev_base hNA rfl qA_56) (by omega) (by omega) ?_
     intro b_ o_ _ hA_
     exact obR_end rfl ⟨b_, o_, rfl, by simpa using hA_⟩ (grown_refl _ _)
    ·
     intro aA wA cA hNA hRA hckA hOA hbsA hdpA
     obtain ⟨bA_57, oA_57, qA_57, hAA_57⟩ := hdpA 10 _ 57 (by kernel_rfl) rfl rfl
     clear hbsA hdpA
     obtain rfl : cA = 0 := Nat.le_zero.1 (hckA 0 17 rfl (by kernel_rfl))
     have hOA : Own wA base 35 1 v n (dk.toList.map u16v) := hOA
     refine op_load1 (v := (Value.int .u16 (dk[(a + ot)]!.toNat : Int))) one35 (ev_base hNA rfl qA_57) (by have := hOA.cellAt hAA_57 0 _ (el_at (i := (a + ot)) (by first | omega | (simp only [Array.size_setIfInBounds, swp_sz, siftDown_size]; omega))); simpa using this) ?_
     exact obR_end rfl rfl (grown_refl _ _)
    ·
     intro aA wA cA hNA hRA hckA hOA hbsA hdpA
     have qA_0 := (hbsA 0 rfl).trans (sl_base hN480 rfl s480_0)
     clear hbsA hdpA
     refine op_move (ev_base hNA rfl qA_0) ?_
     exact obR_end rfl rfl (grown_refl _ _)
    ·
     intro aA wA cA hNA hRA hckA hOA hbsA hdpA
     have qA_9 := (hbsA 9 rfl).trans (sl_base hN480 rfl s480_9)
     clear hbsA hdpA
     refine op_move (ev_base hNA rfl qA_9) ?_
     exact obR_end rfl rfl (grown_refl _ _)
    ·
     intro aA wA cA hNA hRA hckA hOA hbsA hdpA
     have qA_59 : Sl aA 59 v := hdpA 12 _ 59 (by kernel_rfl) rfl rfl
     have qA_60 : Sl aA 60 (Value.int .i64 ((ix : Nat) : Int)) := hdpA 13 _ 60 (by kernel_rfl) rfl rfl
     clear hbsA hdpA
     refine op_index_own (i := ix) slt22 (ev_base hNA rfl qA_59) hOA (ev_base hNA rfl qA_60) (by omega) (by omega) ?_
     intro b_ o_ _ hA_
     exact obR_end rfl ⟨b_, o_, rfl, by simpa using hA_⟩ (grown_refl _ _)
    ·
     intro aA wA cA hNA hRA hckA hOA hbsA hdpA
     obtain ⟨bA_61, oA_61, qA_61, hAA_61⟩ := hdpA 14 _ 61 (by kernel_rfl) rfl rfl
     clear hbsA hdpA
     obtain rfl : cA = 0 := Nat.le_zero.1 (hckA 0 17 rfl (by kernel_rfl))
     have hOA : Own wA base 35 1 v n (dk.toList.map u16v) := hOA
     refine op_load1 (v := (Value.int .u16 (dk[ix]!.toNat : Int))) one35 (ev_base hNA rfl qA_61) (by have := hOA.cellAt hAA_61 0 _ (el_at (i := ix) (by first | omega | (simp only [Array.size_setIfInBounds, swp_sz, siftDown_size]; omega))); simpa using this) ?_
     exact obR_end rfl rfl (grown_refl _ _)
    ·
     intro aA wA cA hNA hRA hckA hOA hbsA hdpA
     have qA_47 : Sl aA 47 v := hdpA 0 _ 47 (by kernel_rfl) rfl rfl
     have qA_48 : Sl aA 48 (Value.int .i64 ((ix : Nat) : Int)) := hdpA 1 _ 48 (by kernel_rfl) rfl rfl
     clear hbsA hdpA
     refine op_index_own (i := ix) slt22 (ev_base hNA rfl qA_47) hOA (ev_base hNA rfl qA_48) (by omega) (by omega) ?_
     intro b_ o_ _ hA_
     exact obR_end rfl ⟨b_, o_, rfl, by simpa using hA_⟩ (grown_refl _ _)
    ·
     intro aA wA cA hNA hRA hckA hOA hbsA hdpA
     have qA_49 : Sl aA 49 v := hdpA 2 _ 49 (by kernel_rfl) rfl rfl
     have qA_52 : Sl aA 52 (Value.int .i64 (((a : Nat) : Int) + ((ot : Nat) : Int))) := hdpA 5 _ 52 (by kernel_rfl) rfl rfl
     clear hbsA hdpA
     refine op_index_own (i := (a + ot)) slt22 (ev_base hNA rfl qA_49) hOA (ev_base hNA rfl qA_52) (by omega) (by omega) ?_
     intro b_ o_ _ hA_
     exact obR_end rfl ⟨b_, o_, rfl, by simpa using hA_⟩ (grown_refl _ _)
    ·
     intro o_ ho_; obtain rfl := Option.some.inj ho_; intro aA wA hNA hRA hbsA hdpA hOA
     obtain ⟨bA_63, oA_63, qA_63, hAA_63⟩ := hdpA 16 _ 63 (by kernel_rfl) rfl rfl
     have qA_58 : Sl aA 58 (Value.int .u16 (dk[(a + ot)]!.toNat : Int)) := hdpA 11 _ 58 (by kernel_rfl) rfl rfl
     clear hbsA hdpA
     have hOA : Own wA base 35 1 v n (dk.toList.map u16v) := hOA
     refine op_store_own (vs := [(Value.int .u16 (dk[(a + ot)]!.toNat : Int))]) size35 (ev_base hNA rfl qA_63) (ev_base hNA rfl qA_58) rfl rfl rfl hOA hAA_63 (by have := hOA.1; simp at this ⊢; omega) ?_
     intro w_ hO_ E_
     exact obW_end rfl (hO_.cast rfl (set_arr (by first | omega | (simp only [Array.size_setIfInBounds, swp_sz, siftDown_size]; omega)))) E_
    ·
     intro o_ ho_; obtain rfl := Option.some.inj ho_; intro aA wA hNA hRA hbsA hdpA hOA
     obtain ⟨bA_64, oA_64, qA_64, hAA_64⟩ := hdpA 18 _ 64 (by kernel_rfl) rfl rfl
     have qA_62 : Sl aA 62 (Value.int .u16 (dk[ix]!.toNat : Int)) := hdpA 15 _ 62 (by kernel_rfl) rfl rfl
     clear hbsA hdpA
     have hOA : Own wA base 35 1 v n ((dk.setIfInBounds ix dk[(a + ot)]!).toList.map u16v) := hOA
     refine op_store_own (vs := [(Value.int .u16 (dk[ix]!.toNat : Int))]) size35 (ev_base hNA rfl qA_64) (ev_base hNA rfl qA_62) rfl rfl rfl hOA hAA_64 (by have := hOA.1; simp at this ⊢; omega) ?_
     intro w_ hO_ E_
     exact obW_end rfl (hO_.cast rfl (set_arr (by first | omega | (simp only [Array.size_setIfInBounds, swp_sz, siftDown_size]; omega)))) E_
    ·
     intro a483 w483 hN483 hd483 hbs483 hph483 hO483 E483
     have hd483 := hd483.trans hd480
     have s483_0 := (hbs483 0 rfl).trans (sl_base hN480 rfl s480_0)
     have s483_1 := (hbs483 1 rfl).trans (sl_base hN480 rfl s480_1)
     have s483_6 := (hbs483 6 rfl).trans (sl_base hN480 rfl s480_6)
     have s483_7 := (hbs483 7 rfl).trans (sl_base hN480 rfl s480_7)
     have s483_8 := (hbs483 8 rfl).trans (sl_base hN480 rfl s480_8)
     have s483_9 := (hbs483 9 rfl).trans (sl_base hN480 rfl s480_9)
     clear hbs483 hph483
     have hO483 : Own w483 base 35 1 v n (((dk.setIfInBounds ix dk[(a + ot)]!).setIfInBounds (a + ot) dk[ix]!).toList.map u16v) := hO483
     have z_w483 := E483.size
     have hs477 := hs477.keepO hO472 E483 (by decide)
     have hb := grow_stepX hb E483 rfl
     refine hK475 _ _ ?_
     refine one_reg ?_
     refine op_move (ev_base hN483 rfl s483_9) ?_
     refine op_add (ev_hit hN483 rfl) rfl (add64 (by omega)) ?_
     refine op_assign (ev_hit hN483 rfl) ?_
     refine reg_nil ?_
     -- round 15T 33T
     exact loop_next _ hN483 hd483 ⟨(ix + 1), rx477, _, rfl, (sl_base hN483 rfl s483_0), (sl_base hN483 rfl s483_1), (sl_base hN483 rfl s483_6), (sl_base hN483 rfl s483_7), (sl_base hN483 rfl s483_8), (sl_hit hN483 rfl).trans (congrArg (Value.int .i64) (by omega)), (by first | assumption | (simp only [Array.size_setIfInBounds, swp_sz, siftDown_size]; assumption)), (by omega), (hpi.tr (PI.swp (by omega) (by omega) (by omega) (by omega) (by first | omega | (simp only [Array.size_setIfInBounds, swp_sz]; omega)))), hb, (by omega), hs477, hO483⟩ (by omega)
  · -- 33F
   refine reg_nil ?_
   refine hK474 _ _ ?_
   refine wp_cond_false (ev_hit hN471 rfl) ?_
   refine wp_exit (then_exit (then_exit (blk_hit ?_)))
   refine end_ret ?_
   refine ret0 rfl hd471  ⟨_, rfl, ?_⟩
   -- path 15T 33F
   exact ⟨hb, rfl, _, hpi, hO472⟩
 · -- 15F
  refine reg_nil ?_
  refine hK456 _ _ ?_
  refine wp_cond_false (ev_hit hN rfl) ?_
  refine wp_skip ?_
  refine end_ret ?_
  refine ret0 rfl hd  ⟨_, rfl, ?_⟩
  -- path 15F
  exact ⟨hb, rfl, _, PI.rfl' _ _ _, O⟩

end Go.Proofs.Ytpmnljffdofkeaa

/- What the sort keeps from round to round. -/
namespace Go.Proofs.Ytpmnljffdofkeaa
open Go.Gx Go.Sort Go.RowKit
def Inv (a b x y : Nat) (d0 d : Ar) : Prop := a ≤ x ∧ x ≤ y ∧ y ≤ b ∧ b ≤ d0.size ∧ PI a b d0 d ∧ Go.Sort.Below ltT x y d ∧ Left a b x y d
theorem Inv.start {a b : Nat} {d : Ar} (h : Go.Sort.Below ltT a b d) (hab : a ≤ b) (hb : b ≤ d.size) : Inv a b a b d d := ⟨Nat.le_refl _, hab, Nat.le_refl _, hb, PI.rfl' _ _ _, h, Left.start _ _ _⟩
theorem Inv.rng {a b x y : Nat} {d0 d : Ar} (h : Inv a b x y d0 d) : a ≤ x ∧ x ≤ y ∧ y ≤ b := ⟨h.1, h.2.1, h.2.2.1⟩
theorem Inv.sz {a b x y : Nat} {d0 d : Ar} (h : Inv a b x y d0 d) : d.size = d0.size := h.2.2.2.2.1.sz
theorem Inv.hi {a b x y : Nat} {d0 d : Ar} (h : Inv a b x y d0 d) : y ≤ d.size := by have := h.sz; have := h.2.2.1; have := h.2.2.2.1; omega
theorem Inv.below {a b x y : Nat} {d0 d : Ar} (h : Inv a b x y d0 d) : Go.Sort.Below ltT x y d := h.2.2.2.2.2.1
theorem Inv.perm {a b x y : Nat} {d0 d d1 : Ar} (h : Inv a b x y d0 d) (hp : PI x y d d1) : Inv a b x y d0 d1 := by
  have hi := h.hi; have hs := h.sz
  obtain ⟨h1, h2, h3, h4, h5, h6, h7⟩ := h
  exact ⟨h1, h2, h3, h4, h5.tr (hp.mono h1 h3 (by omega)), hp.below hi h6, h7.perm hp⟩
theorem Inv.done {a b x y : Nat} {d0 d d1 : Ar} (h : Inv a b x y d0 d) (hp : PI x y d d1) (hs : SortedIn ltT x y d1) : PI a b d0 d1 ∧ SortedIn ltT a b d1 :=
  ⟨(h.perm hp).2.2.2.2.1, h.2.2.2.2.2.2 d1 hp hs⟩
theorem Inv.equal {a b x y pv : Nat} {d0 d : Ar} (h : Inv a b x y d0 d) (hx : x ≤ pv) (hy : pv < y) (h0 : 0 < x) (hl : ltT d[x - 1]! d[pv]! = false) :
    x < (partitionEqual ltT d x y pv).1 ∧ Inv a b (partitionEqual ltT d x y pv).1 y d0 (partitionEqual ltT d x y pv).2 := by
  have hi := h.hi; have hs := h.sz
  obtain ⟨h1, h2, h3, h4, h5, h6, h7⟩ := h
  have hall : ∀ i, x ≤ i → i < y → ltT d[i]! d[pv]! = false := fun i hi1 hi2 => by
    have g := (h6.resolve_left (by omega)) i hi1 hi2
    simp [ltT] at *; omega
  obtain ⟨g1, g2, g3, g4, g5⟩ := partitionEqual_holds ltT swoT d x y pv hx hy hi hall
  have g3 : PI x y d (partitionEqual ltT d x y pv).2 := g3
  have hall' := PI.all g3 hi (fun z => ltT z d[pv]! = false) hall
  generalize partitionEqual ltT d x y pv = q at *
  refine ⟨g1, by omega, g2, h3, h4, h5.tr (g3.mono h1 h3 (by omega)), .inr fun i hi1 hi2 => ?_, Left.equal h7 g3 (by omega) g2 hi g4 hall' g5⟩
  have k1 := g5 i hi1 hi2; have k2 := g4 (q.1 - 1) (by omega) (by omega)
  simp [ltT] at *; omega
theorem Inv.part {a b x y pv : Nat} {d0 d : Ar} (h : Inv a b x y d0 d) (hx : x ≤ pv) (hy : pv < y) :
    x ≤ (partition ltT d x y pv).1 ∧ (partition ltT d x y pv).1 < y ∧ (partition ltT d x y pv).2.2.size = d.size ∧ Go.Sort.Below ltT x (partition ltT d x y pv).1 (partition ltT d x y pv).2.2 ∧ Go.Sort.Below ltT ((partition ltT d x y pv).1 + 1) y (partition ltT d x y pv).2.2 ∧
    (∀ d2, PI x (partition ltT d x y pv).1 (partition ltT d x y pv).2.2 d2 → SortedIn ltT x (partition ltT d x y pv).1 d2 → Inv a b ((partition ltT d x y pv).1 + 1) y d0 d2) ∧
    (∀ d2, PI ((partition ltT d x y pv).1 + 1) y (partition ltT d x y pv).2.2 d2 → SortedIn ltT ((partition ltT d x y pv).1 + 1) y d2 → Inv a b x (partition ltT d x y pv).1 d0 d2) := by
  have hi := h.hi; have hs := h.sz
  obtain ⟨g1, g2, g3, g4, g5⟩ := partition_holds ltT swoT d x y pv hx hy hi
  have g3 : PI x y d (partition ltT d x y pv).2.2 := g3
  have hp := h.perm g3
  obtain ⟨h1, h2, h3, h4, h5, h6, h7⟩ := h
  generalize partition ltT d x y pv = q at *
  have hsq := g3.sz
  refine ⟨g1, g2, hsq, ?_, ?_, ?_, ?_⟩
  · rcases hp.below with hB | hB
    · exact .inl hB
    · exact .inr fun i hi1 hi2 => hB i hi1 (by omega)
  · exact .inr fun i hi1 hi2 => by rw [Nat.add_sub_cancel]; exact g5 i (by omega) hi2
  · intro d2 hq hso
    refine ⟨by omega, by omega, h3, h4, hp.2.2.2.2.1.tr (hq.mono h1 (by omega) (by omega)), ?_, Left.right h7 g3 g1 g2 hi g4 g5 hq hso⟩
    refine .inr fun i hi1 hi2 => ?_
    have e0 : d2[q.1]! = q.2.2[q.1]! := hq.2.1 q.1 (.inr (Nat.le_refl _))
    have e1 : d2[i]! = q.2.2[i]! := hq.2.1 i (.inr (by omega))
    rw [Nat.add_sub_cancel, e0, e1]; exact g5 i (by omega) hi2
  · intro d2 hq hso
    refine ⟨h1, g1, by omega, h4, hp.2.2.2.2.1.tr (hq.mono (by omega) h3 (by omega)), ?_, Left.left h7 g3 g1 g2 hi g4 g5 hq hso⟩
    rcases hp.below with hB | hB
    · exact .inl hB
    · by_cases hx0 : x = 0
      · exact .inl hx0
      · refine .inr fun i hi1 hi2 => ?_
        have e0 : d2[x - 1]! = q.2.2[x - 1]! := hq.2.1 (x - 1) (.inl (by omega))
        have e1 : d2[i]! = q.2.2[i]! := hq.2.1 i (.inl (by omega))
        rw [e0, e1]; exact hB i hi1 (by omega)
theorem Inv.lt {a b x y : Nat} {d0 d : Ar} (h : Inv a b x y d0 d) : PI a b d0 d := h.2.2.2.2.1
theorem Inv.ins {a b x y : Nat} {d0 d : Ar} (h : Inv a b x y d0 d) : PI a b d0 (insertionSort ltT d x y) ∧ SortedIn ltT a b (insertionSort ltT d x y) :=
  have g := insertionSort_holds swoT d x y h.2.1 h.hi
  h.done g.1 g.2
theorem Inv.heap {a b x y : Nat} {d0 d : Ar} (h : Inv a b x y d0 d) : PI a b d0 (heapSort ltT d x y) ∧ SortedIn ltT a b (heapSort ltT d x y) :=
  have g := heapSort_holds swoT d x y h.2.1 h.hi
  h.done g.1 g.2
theorem Inv.rev {a b x y : Nat} {d0 d : Ar} (h : Inv a b x y d0 d) : Inv a b x y d0 (reverseRange d x y) := h.perm (reverseRange_holds d x y h.2.1 h.hi)
theorem Inv.pins {a b x y : Nat} {d0 d : Ar} (h : Inv a b x y d0 d) (hxy : x < y) : Inv a b x y d0 (partialInsertionSort ltT d x y).1 ∧ ((partialInsertionSort ltT d x y).2 = true → PI a b d0 (partialInsertionSort ltT d x y).1 ∧ SortedIn ltT a b (partialInsertionSort ltT d x y).1) :=
  have g := partialInsertionSort_holds swoT d x y hxy h.hi h.below
  ⟨h.perm g.1, fun e => h.done g.1 (g.2 e)⟩
end Go.Proofs.Ytpmnljffdofkeaa

/- Walks, written by a program: what each function of the translation hands back. -/
namespace Go.Proofs.Ytpmnljffdofkeaa
open Go.Gx Go.RowKit
attribute [local irreducible] wpList wpStill Code.wp Calls
open Go.Sort (insertionSort insOuter insInner swp siftDown heapSort heapBuild heapPop scanUp scanDown partition partLoop partitionEqual partEqLoop scanSorted partialIns bitsLen partialInsertionSort shiftDown shiftUp SortedIn reverseRange reverseLoop fixDown fixUp)
def PdqIH (z : Nat) (v : Value) (n base : Nat) : Prop := ∀ (d : Ar) (a b lim : Nat) (w : World), d.size = n → a ≤ b → b ≤ n → lim ≤ 100 → b - a < z → Go.Sort.Below ltT a b d → Own w base 35 1 v n (d.toList.map u16v) → Ret Try.prog 63 #[v, .int .i64 (a : Int), .int .i64 (b : Int), .int .i64 (lim : Int)] w (fun v' w' => w.grownBy w' v.ownBlock ∧ v' = .tuple #[] ∧ ∃ d', PI a b d d' ∧ SortedIn ltT a b d' ∧ Own w' base 35 1 v n (d'.toList.map u16v))

set_option maxHeartbeats 4000000 in
theorem pdqW_step (z : Nat) (v : Value) (n base : Nat) (hn : n ≤ 4000000000000000000) (ih : PdqIH z v n base) (d : Ar) (a b lim : Nat) (w : World) (hd : d.size = n) (hab : a ≤ b) (hbn : b ≤ n) (hlim : lim ≤ 100) (hz : b - a = z) (hB : Go.Sort.Below ltT a b d) (O : Own w base 35 1 v n (d.toList.map u16v)) : Ret Try.prog 63 #[v, (Value.int .i64 ((a : Nat) : Int)), (Value.int .i64 ((b : Nat) : Int)), (Value.int .i64 ((lim : Nat) : Int))] w (fun v' w' => w.grownBy w' v.ownBlock ∧ v' = .tuple #[] ∧ ∃ d', PI a b d d' ∧ SortedIn ltT a b d' ∧ Own w' base 35 1 v n (d'.toList.map u16v)) := by
 have hb := grown_refl w v.ownBlock
 refine enter (N := 134) Try.func63 rfl rfl (by simp) fun a0 hN hd hA => ?_
 have s0 : a0.tmps.getD 0 undef = v := hA 0 (by simp)
 have s1 : a0.tmps.getD 1 undef = (Value.int .i64 ((a : Nat) : Int)) := hA 1 (by simp)
 have s2 : a0.tmps.getD 2 undef = (Value.int .i64 ((b : Nat) : Int)) := hA 2 (by simp)
 have s3 : a0.tmps.getD 3 undef = (Value.int .i64 ((lim : Nat) : Int)) := hA 3 (by simp)
 clear hA
 refine seq_any fun K484 hK484 => ?_
 refine one_reg ?_
 refine op_assign rfl ?_
 refine reg_nil ?_
 refine hK484 _ _ ?_
 refine seq_any fun K485 hK485 => ?_
 refine one_reg ?_
 refine op_assign rfl ?_
 refine reg_nil ?_
 refine hK485 _ _ ?_
 refine wp_block ?_
 refine loop_m (fun mz_ az_ w' => ∃ (x y lm : Nat) (wb wp : Bool) (dk : Ar), mz_ = (y - x) ∧ (az_.tmps.getD 0 undef = v) ∧ (az_.tmps.getD 1 undef = (Value.int .i64 ((x : Nat) : Int))) ∧ (az_.tmps.getD 2 undef = (Value.int .i64 ((y : Nat) : Int))) ∧ (az_.tmps.getD 3 undef = (Value.int .i64 ((lm : Nat) : Int))) ∧ (az_.tmps.getD 8 undef = (Value.bool wb)) ∧ (az_.tmps.getD 9 undef = (Value.bool wp)) ∧ (dk.size = n) ∧ (lm ≤ lim) ∧ (Inv a b x y d dk) ∧ (w.grownBy w' v.ownBlock) ∧ (w.heap.size ≤ w'.heap.size) ∧ (Own w' base 35 1 v n (dk.toList.map u16v))) _ hN hd ⟨a, b, lim, true, true, _, rfl, (sl_base hN rfl s0), (sl_base hN rfl s1).trans (congrArg (Value.int .i64) (by omega)), (sl_base hN rfl s2).trans (congrArg (Value.int .i64) (by omega)), (sl_base hN rfl s3).trans (congrArg (Value.int .i64) (by omega)), (sl_hit hN rfl), (sl_hit hN rfl), (by first | assumption | (simp only [Array.size_setIfInBounds, swp_sz, siftDown_size]; assumption)), Nat.le_refl _, (Inv.start hB hab (by omega)), hb, (Nat.le_refl _), O⟩ ?_
 rintro _ a486 w486 hN486 hd486 ⟨x, y, lm, wb, wp, dk, rfl, s486_0, s486_1, s486_2, s486_3, s486_8, s486_9, hdk, hlm, hinv, hb, zl_w486, hO487⟩
 have z_w486 := hb.size
 refine wp_block ?_
 refine seq_any fun K488 hK488 => ?_
 refine one_reg ?_
 have hrg := hinv.rng
 have hzk := hinv.sz
 refine op_move (ev_base hN486 rfl s486_2) ?_
 refine op_move (ev_base hN486 rfl s486_1) ?_
 refine op_sub (r := (((y - x) : Nat) : Int)) (ev_hit hN486 rfl) (ev_hit hN486 rfl) (by rw [IntKind.wrap_i64]; omega) ?_
 refine op_assign (ev_hit hN486 rfl) ?_
 refine reg_nil ?_
 refine hK488 _ _ ?_
 refine seq_any fun K489 hK489 => ?_
 refine seq_any fun K490 hK490 => ?_
 refine one_reg ?_
 refine op_move (ev_hit hN486 rfl) ?_
 refine op_leq (ev_hit hN486 rfl) rfl (fun c23 => ?_) (fun c23 => ?_)
 · -- 23T
  refine reg_nil ?_
  refine hK490 _ _ ?_
  refine wp_cond_true (ev_hit hN486 rfl) ?_
  refine seq_any fun K491 hK491 => ?_
  refine one_reg ?_
  refine op_move (ev_base hN486 rfl s486_0) ?_
  refine op_move (ev_base hN486 rfl s486_1) ?_
  refine op_move (ev_base hN486 rfl s486_2) ?_
  refine op_fn (vs := [v, (Value.int .i64 ((x : Nat) : Int)), (Value.int .i64 ((y : Nat) : Int))]) ok66 ⟨(ev_hit hN486 rfl), ⟨(ev_hit hN486 rfl), ⟨(ev_hit hN486 rfl), trivial⟩⟩⟩ (insSort_ret dk _ _ _ x y _ (by first | assumption | (simp only [Array.size_setIfInBounds, swp_sz, siftDown_size]; assumption)) (by omega) hO487 (by omega) (by omega)) ?_
  rintro _ w493 ⟨E494, rfl, hO492⟩
  have z_w493 := E494.size
  have hb := grow_stepX hb E494 rfl
  refine reg_nil ?_
  refine hK491 _ _ ?_
  refine wp_ret (then_ret (blk_ret (then_ret (blk_ret ( ?_)))))
  refine ret0 rfl hd486  ⟨_, rfl, ?_⟩
  -- path 23T
  exact ⟨hb, rfl, _, hinv.ins.1, hinv.ins.2, hO492⟩
 · -- 23F
  refine reg_nil ?_
  refine hK490 _ _ ?_
  refine wp_cond_false (ev_hit hN486 rfl) ?_
  refine wp_skip ?_
  refine hK489 _ _ ?_
  refine seq_any fun K495 hK495 => ?_
  refine seq_any fun K496 hK496 => ?_
  refine one_reg ?_
  refine op_move (ev_base hN486 rfl s486_3) ?_
  refine op_eql (ev_hit hN486 rfl) rfl (fun c29 => ?_) (fun c29 => ?_)
  · -- 29T
   refine reg_nil ?_
   refine hK496 _ _ ?_
   refine wp_cond_true (ev_hit hN486 rfl) ?_
   refine seq_any fun K497 hK497 => ?_
   refine one_reg ?_
   refine op_move (ev_base hN486 rfl s486_0) ?_
   refine op_move (ev_base hN486 rfl s486_1) ?_
   refine op_move (ev_base hN486 rfl s486_2) ?_
   refine op_fn (vs := [v, (Value.int .i64 ((x : Nat) : Int)), (Value.int .i64 ((y : Nat) : Int))]) ok67 ⟨(ev_hit hN486 rfl), ⟨(ev_hit hN486 rfl), ⟨(ev_hit hN486 rfl), trivial⟩⟩⟩ (heapW_ret dk _ _ _ x y _ (by first | assumption | (simp only [Array.size_setIfInBounds, swp_sz, siftDown_size]; assumption)) (by omega) hO487 (by omega) (by omega)) ?_
   rintro _ w499 ⟨E500, rfl, hO498⟩
   have z_w499 := E500.size
   have hb := grow_stepX hb E500 rfl
   refine reg_nil ?_
   refine hK497 _ _ ?_
   refine wp_ret (then_ret (blk_ret (then_ret (blk_ret ( ?_)))))
   refine ret0 rfl hd486  ⟨_, rfl, ?_⟩
   -- path 23F 29T
   exact ⟨hb, rfl, _, hinv.heap.1, hinv.heap.2, hO498⟩
  · -- 29F
   refine reg_nil ?_
   refine hK496 _ _ ?_
   refine wp_cond_false (ev_hit hN486 rfl) ?_
   refine wp_skip ?_
   refine hK495 _ _ ?_
   refine seq_join1 (N := 134) (fun az_ w' => ∃ (d1 : Ar) (l1 : Nat), (az_.tmps.getD 0 undef = v) ∧ (az_.tmps.getD 1 undef = (Value.int .i64 ((x : Nat) : Int))) ∧ (az_.tmps.getD 2 undef = (Value.int .i64 ((y : Nat) : Int))) ∧ (az_.tmps.getD 8 undef = (Value.bool wb)) ∧ (az_.tmps.getD 9 undef = (Value.bool wp)) ∧ (az_.tmps.getD 10 undef = (Value.int .i64 (((y - x) : Nat) : Int))) ∧ (az_.tmps.getD 3 undef = (Value.int .i64 ((l1 : Nat) : Int))) ∧ (l1 ≤ lm) ∧ (Inv a b x y d d1) ∧ (d1.size = n) ∧ (w.grownBy w' v.ownBlock) ∧ (w486.heap.size ≤ w'.heap.size) ∧ (Own w' base 35 1 v n (d1.toList.map u16v))) (fun hJ501 => ?_) ?_
   ·
    refine seq_any fun K503 hK503 => ?_
    refine seq_any fun K504 hK504 => ?_
    refine one_reg ?_
    refine op_move (ev_base hN486 rfl s486_8) ?_
    refine op_not (ev_hit hN486 rfl) ?_
    refine reg_nil ?_
    refine hK504 _ _ ?_
    refine wp_cond_split (ev_hit hN486 rfl) (fun c35 => ?_) (fun c35 => ?_)
    · -- 35T
     refine seq_any fun K505 hK505 => ?_
     refine one_reg ?_
     refine op_move (ev_base hN486 rfl s486_0) ?_
     refine op_move (ev_base hN486 rfl s486_1) ?_
     refine op_move (ev_base hN486 rfl s486_2) ?_
     refine op_fn (vs := [v, (Value.int .i64 ((x : Nat) : Int)), (Value.int .i64 ((y : Nat) : Int))]) ok68 ⟨(ev_hit hN486 rfl), ⟨(ev_hit hN486 rfl), ⟨(ev_hit hN486 rfl), trivial⟩⟩⟩ (bpW_ret dk _ _ _ x y _ (by first | assumption | (simp only [Array.size_setIfInBounds, swp_sz, siftDown_size]; assumption)) (by omega) hO487 (by omega) (by omega)) ?_
     rintro _ w507 ⟨E508, rfl, dd506, hpi506, hO506⟩
     have z_w507 := E508.size
     have hb := grow_stepX hb E508 rfl
     have hz506 : dd506.size = n := by first | exact (PI.sz hpi506).trans (by assumption) | (have hq := PI.sz hpi506; simp only [Array.size_setIfInBounds, swp_sz] at hq; omega)
     refine reg_nil ?_
     refine hK505 _ _ ?_
     refine one_reg ?_
     refine op_move (ev_base hN486 rfl s486_3) ?_
     refine op_sub (r := (((lm - 1) : Nat) : Int)) (ev_hit hN486 rfl) rfl (by rw [IntKind.wrap_i64]; omega) ?_
     refine op_assign (ev_hit hN486 rfl) ?_
     refine reg_nil ?_
     refine hK503 _ _ ?_
     exact hJ501 _ _ _ hN486 hd486 ⟨_, (lm - 1), (sl_base hN486 rfl s486_0), (sl_base hN486 rfl s486_1), (sl_base hN486 rfl s486_2), (sl_base hN486 rfl s486_8), (sl_base hN486 rfl s486_9), (sl_hit hN486 rfl), (sl_hit hN486 rfl).trans (congrArg (Value.int .i64) (by omega)), (by omega), (hinv.perm hpi506), (by first | assumption | (simp only [Array.size_setIfInBounds, swp_sz, siftDown_size]; assumption)), hb, (by omega), hO506⟩
    · -- 35F
     refine wp_skip ?_
     refine hK503 _ _ ?_
     exact hJ501 _ _ _ hN486 hd486 ⟨_, lm, (sl_base hN486 rfl s486_0), (sl_base hN486 rfl s486_1), (sl_base hN486 rfl s486_2), (sl_base hN486 rfl s486_8), (sl_base hN486 rfl s486_9), (sl_hit hN486 rfl), (sl_base hN486 rfl s486_3).trans (congrArg (Value.int .i64) (by omega)), (by omega), hinv, (by first | assumption | (simp only [Array.size_setIfInBounds, swp_sz, siftDown_size]; assumption)), hb, (by omega), hO487⟩
   ·
    rintro a501 w501 hN501 hd501 ⟨d1, l1, s501_0, s501_1, s501_2, s501_8, s501_9, s501_10, s501_3, hl1, hi1, hz1, hb, zl_w501, hO502⟩
    have z_w501 := hb.size
    refine seq_any fun K509 hK509 => ?_
    refine one_reg ?_
    refine op_move (ev_base hN501 rfl s501_0) ?_
    refine op_move (ev_base hN501 rfl s501_1) ?_
    refine op_move (ev_base hN501 rfl s501_2) ?_
    refine op_fn (vs := [v, (Value.int .i64 ((x : Nat) : Int)), (Value.int .i64 ((y : Nat) : Int))]) ok69 ⟨(ev_hit hN501 rfl), ⟨(ev_hit hN501 rfl), ⟨(ev_hit hN501 rfl), trivial⟩⟩⟩ (choosePW_ret d1 v _ x y _ (by first | assumption | (simp only [Array.size_setIfInBounds, swp_sz, siftDown_size]; assumption)) (by omega) (hO502.rdw.mono (Nat.zero_le _) (Nat.le_refl _)) (by omega) (by omega)) ?_
    rintro _ w511 ⟨E512, pv510, hn510, rfl, hx510, hy510⟩
    have E512 := grown_of_below E512
    have z_w511 := E512.size
    have hO502 := hO502.keep0 E512
    have hb := grow_step0 hb E512
    refine op_move (ev_hit hN501 rfl) ?_
    refine op_extract (ev_hit hN501 rfl) rfl ?_
    refine op_extract (ev_hit hN501 rfl) rfl ?_
    refine op_assign (ev_hit hN501 rfl) ?_
    refine op_assign (ev_hit hN501 rfl) ?_
    refine reg_nil ?_
    refine hK509 _ _ ?_
    refine seq_join1 (N := 134) (fun az_ w' => ∃ (d2 : Ar) (pv2 : Nat) (hn2 : Int), (az_.tmps.getD 0 undef = v) ∧ (az_.tmps.getD 1 undef = (Value.int .i64 ((x : Nat) : Int))) ∧ (az_.tmps.getD 2 undef = (Value.int .i64 ((y : Nat) : Int))) ∧ (az_.tmps.getD 3 undef = (Value.int .i64 ((l1 : Nat) : Int))) ∧ (az_.tmps.getD 8 undef = (Value.bool wb)) ∧ (az_.tmps.getD 9 undef = (Value.bool wp)) ∧ (az_.tmps.getD 10 undef = (Value.int .i64 (((y - x) : Nat) : Int))) ∧ (az_.tmps.getD 11 undef = (Value.int .i64 ((pv2 : Nat) : Int))) ∧ (az_.tmps.getD 12 undef = (Value.int .i64 hn2)) ∧ (x ≤ pv2 ∧ pv2 < y) ∧ (Inv a b x y d d2) ∧ (d2.size = n) ∧ (w.grownBy w' v.ownBlock) ∧ (w511.heap.size ≤ w'.heap.size) ∧ (Own w' base 35 1 v n (d2.toList.map u16v))) (fun hJ513 => ?_) ?_
    ·
     refine seq_any fun K515 hK515 => ?_
     refine seq_any fun K516 hK516 => ?_
     refine one_reg ?_
     refine op_move (ev_hit hN501 rfl) ?_
     refine op_eql (ev_hit hN501 rfl) rfl (fun c50 => ?_) (fun c50 => ?_)
     · -- 50T
      refine reg_nil ?_
      refine hK516 _ _ ?_
      refine wp_cond_true (ev_hit hN501 rfl) ?_
      refine seq_any fun K517 hK517 => ?_
      refine one_reg ?_
      refine op_move (ev_base hN501 rfl s501_0) ?_
      refine op_move (ev_base hN501 rfl s501_1) ?_
      refine op_move (ev_base hN501 rfl s501_2) ?_
      refine op_fn (vs := [v, (Value.int .i64 ((x : Nat) : Int)), (Value.int .i64 ((y : Nat) : Int))]) ok70 ⟨(ev_hit hN501 rfl), ⟨(ev_hit hN501 rfl), ⟨(ev_hit hN501 rfl), trivial⟩⟩⟩ (revW_ret d1 _ _ _ x y _ (by first | assumption | (simp only [Array.size_setIfInBounds, swp_sz, siftDown_size]; assumption)) (by omega) hO502 (by omega) (by omega)) ?_
      rintro _ w519 ⟨E520, rfl, hO518⟩
      have z_w519 := E520.size
      have hb := grow_stepX hb E520 rfl
      refine reg_nil ?_
      refine hK517 _ _ ?_
      refine seq_any fun K521 hK521 => ?_
      refine one_reg ?_
      refine op_move (ev_base hN501 rfl s501_2) ?_
      refine op_sub (r := (((y - 1) : Nat) : Int)) (ev_hit hN501 rfl) rfl (by rw [IntKind.wrap_i64]; omega) ?_
      refine op_move (ev_hit hN501 rfl) ?_
      refine op_move (ev_base hN501 rfl s501_1) ?_
      refine op_sub (r := (((pv510 - x) : Nat) : Int)) (ev_hit hN501 rfl) (ev_hit hN501 rfl) (by rw [IntKind.wrap_i64]; omega) ?_
      refine op_sub (r := (((y - 1 - (pv510 - x)) : Nat) : Int)) (ev_hit hN501 rfl) (ev_hit hN501 rfl) (by rw [IntKind.wrap_i64]; omega) ?_
      refine op_assign (ev_hit hN501 rfl) ?_
      refine reg_nil ?_
      refine hK521 _ _ ?_
      refine one_reg ?_
      refine op_assign rfl ?_
      refine reg_nil ?_
      refine hK515 _ _ ?_
      exact hJ513 _ _ _ hN501 hd501 ⟨_, (y - 1 - (pv510 - x)), _, (sl_base hN501 rfl s501_0), (sl_base hN501 rfl s501_1), (sl_base hN501 rfl s501_2), (sl_base hN501 rfl s501_3), (sl_base hN501 rfl s501_8), (sl_base hN501 rfl s501_9), (sl_base hN501 rfl s501_10), (sl_hit hN501 rfl).trans (congrArg (Value.int .i64) (by omega)), (sl_hit hN501 rfl), (by omega), hi1.rev, (by rw [Inv.sz (by first | exact hi1.rev | exact hi1)]; assumption), hb, (by omega), hO518⟩
     · -- 50F
      refine reg_nil ?_
      refine hK516 _ _ ?_
      refine wp_cond_false (ev_hit hN501 rfl) ?_
      refine wp_skip ?_
      refine hK515 _ _ ?_
      exact hJ513 _ _ _ hN501 hd501 ⟨_, pv510, _, (sl_base hN501 rfl s501_0), (sl_base hN501 rfl s501_1), (sl_base hN501 rfl s501_2), (sl_base hN501 rfl s501_3), (sl_base hN501 rfl s501_8), (sl_base hN501 rfl s501_9), (sl_base hN501 rfl s501_10), (sl_hit hN501 rfl).trans (congrArg (Value.int .i64) (by omega)), (sl_hit hN501 rfl), (by omega), hi1, (by rw [Inv.sz (by first | exact hi1.rev | exact hi1)]; assumption), hb, (by omega), hO502⟩
    ·
     rintro a513 w513 hN513 hd513 ⟨d2, pv2, hn2, s513_0, s513_1, s513_2, s513_3, s513_8, s513_9, s513_10, s513_11, s513_12, hp2, hi2, hz2, hb, zl_w513, hO514⟩
     have z_w513 := hb.size
     refine seq_join1 (N := 134) (fun az_ w' => ∃ (d3 : Ar), (az_.tmps.getD 0 undef = v) ∧ (az_.tmps.getD 1 undef = (Value.int .i64 ((x : Nat) : Int))) ∧ (az_.tmps.getD 2 undef = (Value.int .i64 ((y : Nat) : Int))) ∧ (az_.tmps.getD 3 undef = (Value.int .i64 ((l1 : Nat) : Int))) ∧ (az_.tmps.getD 8 undef = (Value.bool wb)) ∧ (az_.tmps.getD 9 undef = (Value.bool wp)) ∧ (az_.tmps.getD 10 undef = (Value.int .i64 (((y - x) : Nat) : Int))) ∧ (az_.tmps.getD 11 undef = (Value.int .i64 ((pv2 : Nat) : Int))) ∧ (Inv a b x y d d3) ∧ (d3.size = n) ∧ (w.grownBy w' v.ownBlock) ∧ (w513.heap.size ≤ w'.heap.size) ∧ (Own w' base 35 1 v n (d3.toList.map u16v))) (fun hJ522 => ?_) ?_
     ·
      refine seq_any fun K524 hK524 => ?_
      refine seq_any fun K525 hK525 => ?_
      refine one_reg ?_
      refine op_move (ev_base hN513 rfl s513_8) ?_
      refine op_move (ev_hit hN513 rfl) ?_
      rcases Bool.eq_false_or_eq_true (wb) with g62 | g62
      · -- 62T
       rw [g62]
       refine g_true (j := 1) (dj := 62) (b := true) rfl rfl rfl (ev_hit hN513 rfl) ?_
       refine op_move (ev_base hN513 rfl s513_9) ?_
       refine op_pick_t (ev_hit hN513 rfl) (ev_hit hN513 rfl) ?_
       refine op_move (ev_hit hN513 rfl) ?_
       rcases Bool.eq_false_or_eq_true (wp) with g65 | g65
       · -- 65T
        rw [g65]
        refine g_true (j := 4) (dj := 65) (b := true) rfl rfl rfl (ev_hit hN513 rfl) ?_
        refine op_move (ev_base hN513 rfl s513_12) ?_
        refine g_true (j := 4) (dj := 65) (b := true) rfl rfl rfl (ev_hit hN513 rfl) ?_
        refine op_eql (ev_hit hN513 rfl) rfl (fun c67 => ?_) (fun c67 => ?_)
        · -- 67T
         refine op_pick_t (ev_hit hN513 rfl) (ev_hit hN513 rfl) ?_
         refine reg_nil ?_
         refine hK525 _ _ ?_
         refine wp_cond_true (ev_hit hN513 rfl) ?_
         refine seq_any fun K526 hK526 => ?_
         refine one_reg ?_
         refine op_move (ev_base hN513 rfl s513_0) ?_
         refine op_move (ev_base hN513 rfl s513_1) ?_
         refine op_move (ev_base hN513 rfl s513_2) ?_
         refine op_fn (vs := [v, (Value.int .i64 ((x : Nat) : Int)), (Value.int .i64 ((y : Nat) : Int))]) ok71 ⟨(ev_hit hN513 rfl), ⟨(ev_hit hN513 rfl), ⟨(ev_hit hN513 rfl), trivial⟩⟩⟩ (partialW_ret d2 _ _ _ x y _ (by first | assumption | (simp only [Array.size_setIfInBounds, swp_sz, siftDown_size]; assumption)) (by omega) hO514 (by omega) (by omega)) ?_
         rintro _ w528 ⟨E529, rfl, hO527⟩
         have z_w528 := E529.size
         have hb := grow_stepX hb E529 rfl
         rcases Bool.eq_false_or_eq_true ((partialInsertionSort ltT d2 x y).2) with c72 | c72
         · -- 72T
          rw [c72]
          refine reg_nil ?_
          refine hK526 _ _ ?_
          refine wp_cond_true (ev_hit hN513 rfl) ?_
          refine wp_ret (then_ret (blk_ret (then_ret (blk_ret ( ?_)))))
          refine ret0 rfl hd513  ⟨_, rfl, ?_⟩
          -- path 23F 29F 62T 65T 67T 72T
          exact ⟨hb, rfl, _, ((hi2.pins (by omega)).2 (by first | assumption | simpa using c72)).1, ((hi2.pins (by omega)).2 (by first | assumption | simpa using c72)).2, hO527⟩
         · -- 72F
          rw [c72]
          refine reg_nil ?_
          refine hK526 _ _ ?_
          refine wp_cond_false (ev_hit hN513 rfl) ?_
          refine wp_skip ?_
          refine hK524 _ _ ?_
          exact hJ522 _ _ _ hN513 hd513 ⟨_, (sl_base hN513 rfl s513_0), (sl_base hN513 rfl s513_1), (sl_base hN513 rfl s513_2), (sl_base hN513 rfl s513_3), (sl_base hN513 rfl s513_8), (sl_base hN513 rfl s513_9), (sl_base hN513 rfl s513_10), (sl_base hN513 rfl s513_11), (hi2.pins (by omega)).1, (by rw [Inv.sz (by first | exact (hi2.pins (by omega)).1 | exact hi2)]; assumption), hb, (by omega), hO527⟩
        · -- 67F
         refine op_pick_t (ev_hit hN513 rfl) (ev_hit hN513 rfl) ?_
         refine reg_nil ?_
         refine hK525 _ _ ?_
         refine wp_cond_false (ev_hit hN513 rfl) ?_
         refine wp_skip ?_
         refine hK524 _ _ ?_
         exact hJ522 _ _ _ hN513 hd513 ⟨_, (sl_base hN513 rfl s513_0), (sl_base hN513 rfl s513_1), (sl_base hN513 rfl s513_2), (sl_base hN513 rfl s513_3), (sl_base hN513 rfl s513_8), (sl_base hN513 rfl s513_9), (sl_base hN513 rfl s513_10), (sl_base hN513 rfl s513_11), hi2, (by rw [Inv.sz (by first | exact (hi2.pins (by omega)).1 | exact hi2)]; assumption), hb, (by omega), hO514⟩
       · -- 65F
        rw [g65]
        refine g_false (j := 4) (dj := 65) (b := true) rfl rfl rfl (ev_hit hN513 rfl) rfl rfl ?_
        refine g_false (j := 4) (dj := 65) (b := true) rfl rfl rfl (ev_hit hN513 rfl) rfl rfl ?_
        refine op_pick_f (ev_hit hN513 rfl) rfl ?_
        refine reg_nil ?_
        refine hK525 _ _ ?_
        refine wp_cond_false (ev_hit hN513 rfl) ?_
        refine wp_skip ?_
        refine hK524 _ _ ?_
        exact hJ522 _ _ _ hN513 hd513 ⟨_, (sl_base hN513 rfl s513_0), (sl_base hN513 rfl s513_1), (sl_base hN513 rfl s513_2), (sl_base hN513 rfl s513_3), (sl_base hN513 rfl s513_8), (sl_base hN513 rfl s513_9), (sl_base hN513 rfl s513_10), (sl_base hN513 rfl s513_11), hi2, (by rw [Inv.sz (by first | exact (hi2.pins (by omega)).1 | exact hi2)]; assumption), hb, (by omega), hO514⟩
      · -- 62F
       rw [g62]
       refine g_false (j := 1) (dj := 62) (b := true) rfl rfl rfl (ev_hit hN513 rfl) rfl rfl ?_
       refine op_pick_f (ev_hit hN513 rfl) rfl ?_
       refine op_move (ev_hit hN513 rfl) ?_
       refine g_false (j := 4) (dj := 65) (b := true) rfl rfl rfl (ev_hit hN513 rfl) rfl rfl ?_
       refine g_false (j := 4) (dj := 65) (b := true) rfl rfl rfl (ev_hit hN513 rfl) rfl rfl ?_
       refine op_pick_f (ev_hit hN513 rfl) rfl ?_
       refine reg_nil ?_
       refine hK525 _ _ ?_
       refine wp_cond_false (ev_hit hN513 rfl) ?_
       refine wp_skip ?_
       refine hK524 _ _ ?_
       exact hJ522 _ _ _ hN513 hd513 ⟨_, (sl_base hN513 rfl s513_0), (sl_base hN513 rfl s513_1), (sl_base hN513 rfl s513_2), (sl_base hN513 rfl s513_3), (sl_base hN513 rfl s513_8), (sl_base hN513 rfl s513_9), (sl_base hN513 rfl s513_10), (sl_base hN513 rfl s513_11), hi2, (by rw [Inv.sz (by first | exact (hi2.pins (by omega)).1 | exact hi2)]; assumption), hb, (by omega), hO514⟩
     ·
      rintro a522 w522 hN522 hd522 ⟨d3, s522_0, s522_1, s522_2, s522_3, s522_8, s522_9, s522_10, s522_11, hi3, hz3, hb, zl_w522, hO523⟩
      have z_w522 := hb.size
      refine seq_join1 (N := 134) (fun az_ w' => (az_.tmps.getD 0 undef = v) ∧ (az_.tmps.getD 2 undef = (Value.int .i64 ((y : Nat) : Int))) ∧ (az_.tmps.getD 3 undef = (Value.int .i64 ((l1 : Nat) : Int))) ∧ (az_.tmps.getD 8 undef = (Value.bool wb)) ∧ (az_.tmps.getD 9 undef = (Value.bool wp)) ∧ (az_.tmps.getD 10 undef = (Value.int .i64 (((y - x) : Nat) : Int))) ∧ (az_.tmps.getD 11 undef = (Value.int .i64 ((pv2 : Nat) : Int))) ∧ (az_.tmps.getD 1 undef = (Value.int .i64 ((x : Nat) : Int))) ∧ (w.grownBy w' v.ownBlock) ∧ (w522.heap.size ≤ w'.heap.size) ∧ (Own w' base 35 1 v n (d3.toList.map u16v))) (fun hJ530 => ?_) ?_
      ·
       refine seq_any fun K531 hK531 => ?_
       refine seq_any fun K532 hK532 => ?_
       refine reg_still mixed (by kernel_rfl) ?_
       intro w534 E533
       have z_w534 := E533.size
       have hO523 := hO523.keep0 E533
       have hb := grow_step0 hb E533
       refine st_step rfl (fun _ h9 => op_move (ev_base hN522 rfl s522_1) h9) ?_
       by_cases g74 : 0 < ((x : Nat) : Int)
       · -- 74T
        refine st_step rfl (fun _ h9 => op_cmp (b := true) (ev_hit hN522 rfl) rfl (b_gtr (decide_eq_true g74)) h9) ?_
        refine st_step rfl (fun _ h9 => op_move (ev_hit hN522 rfl) h9) ?_
        refine st_g_true (j := 2) (dj := 75) (b := true) rfl rfl rfl (ev_hit hN522 rfl) ?_
        refine st_step rfl (fun _ h9 => op_move (ev_base hN522 rfl s522_0) h9) ?_
        refine st_g_true (j := 2) (dj := 75) (b := true) rfl rfl rfl (ev_hit hN522 rfl) ?_
        refine st_step rfl (fun _ h9 => op_move (ev_base hN522 rfl s522_1) h9) ?_
        refine st_g_true (j := 2) (dj := 75) (b := true) rfl rfl rfl (ev_hit hN522 rfl) ?_
        refine st_step rfl (fun _ h9 => op_sub (r := (((x - 1) : Nat) : Int)) (ev_hit hN522 rfl) rfl (by rw [IntKind.wrap_i64]; omega) h9) ?_
        refine st_g_true (j := 2) (dj := 75) (b := true) rfl rfl rfl (ev_hit hN522 rfl) ?_
        refine st_index_rd slt22 (ev_hit hN522 rfl) hO523.rdw (ev_hit hN522 rfl) (by omega) (by omega) ?_
        intro b535 o536 h0b535 h1b535 hc537
        refine st_g_true (j := 2) (dj := 75) (b := true) rfl rfl rfl (ev_hit hN522 rfl) ?_
        refine st_step rfl (fun _ h9 => op_load1 (v := (Value.int .u16 (d3[(x - 1)]!.toNat : Int))) one35 (ev_hit hN522 rfl) (by have := hc537 0 (Value.int .u16 (d3[(x - 1)]!.toNat : Int)) (by decide) (el_arr (i := (x - 1)) (by omega) (by first | omega | (simp only [Array.size_setIfInBounds, swp_sz, siftDown_size]; omega))); simpa using this) h9) ?_
        refine st_g_true (j := 2) (dj := 75) (b := true) rfl rfl rfl (ev_hit hN522 rfl) ?_
        refine st_step rfl (fun _ h9 => op_move (ev_base hN522 rfl s522_0) h9) ?_
        refine st_g_true (j := 2) (dj := 75) (b := true) rfl rfl rfl (ev_hit hN522 rfl) ?_
        refine st_step rfl (fun _ h9 => op_move (ev_base hN522 rfl s522_11) h9) ?_
        refine st_g_true (j := 2) (dj := 75) (b := true) rfl rfl rfl (ev_hit hN522 rfl) ?_
        refine st_index_rd slt22 (ev_hit hN522 rfl) hO523.rdw (ev_hit hN522 rfl) (by omega) (by omega) ?_
        intro b538 o539 h0b538 h1b538 hc540
        refine st_g_true (j := 2) (dj := 75) (b := true) rfl rfl rfl (ev_hit hN522 rfl) ?_
        refine st_step rfl (fun _ h9 => op_load1 (v := (Value.int .u16 (d3[pv2]!.toNat : Int))) one35 (ev_hit hN522 rfl) (by have := hc540 0 (Value.int .u16 (d3[pv2]!.toNat : Int)) (by decide) (el_arr (i := pv2) (by omega) (by first | omega | (simp only [Array.size_setIfInBounds, swp_sz, siftDown_size]; omega))); simpa using this) h9) ?_
        refine st_g_true (j := 2) (dj := 75) (b := true) rfl rfl rfl (ev_hit hN522 rfl) ?_
        refine st_fn (vs := [(Value.int .u16 (d3[(x - 1)]!.toNat : Int)), (Value.int .u16 (d3[pv2]!.toNat : Int))]) ok72 (⟨(ev_hit hN522 rfl), ⟨(ev_hit hN522 rfl), trivial⟩⟩) (Less16_ret d3[(x - 1)]! d3[pv2]! _) ?_
        refine st_g_true (j := 2) (dj := 75) (b := true) rfl rfl rfl (ev_hit hN522 rfl) ?_
        refine st_step rfl (fun _ h9 => op_not (ev_hit hN522 rfl) h9) ?_
        refine st_step rfl (fun _ h9 => op_pick_t (ev_hit hN522 rfl) (ev_hit hN522 rfl) h9) ?_
        refine st_nil ?_
        refine hK532 _ _ ?_
        refine wp_cond_split (ev_hit hN522 rfl) (fun c87 => ?_) (fun c87 => ?_)
        · -- 87T
         refine seq_any fun K541 hK541 => ?_
         refine one_reg ?_
         have heq5 := hi3.equal hp2.1 hp2.2 (by omega) (not_t c87)
         refine op_move (ev_base hN522 rfl s522_0) ?_
         refine op_move (ev_base hN522 rfl s522_1) ?_
         refine op_move (ev_base hN522 rfl s522_2) ?_
         refine op_move (ev_base hN522 rfl s522_11) ?_
         refine op_fn (vs := [v, (Value.int .i64 ((x : Nat) : Int)), (Value.int .i64 ((y : Nat) : Int)), (Value.int .i64 ((pv2 : Nat) : Int))]) ok73 ⟨(ev_hit hN522 rfl), ⟨(ev_hit hN522 rfl), ⟨(ev_hit hN522 rfl), ⟨(ev_hit hN522 rfl), trivial⟩⟩⟩⟩ (partEqW_ret d3 _ _ _ x y pv2 _ (by first | assumption | (simp only [Array.size_setIfInBounds, swp_sz, siftDown_size]; assumption)) (by omega) hO523 (by omega) (by omega) (by omega)) ?_
         rintro _ w544 ⟨E545, rfl, hO543⟩
         have z_w544 := E545.size
         have hb := grow_stepX hb E545 rfl
         refine op_assign (ev_hit hN522 rfl) ?_
         refine reg_nil ?_
         refine hK541 _ _ ?_
         refine seq_any fun K546 hK546 => ?_
         refine one_reg ?_
         refine op_move (ev_hit hN522 rfl) ?_
         refine op_assign (ev_hit hN522 rfl) ?_
         refine reg_nil ?_
         refine hK546 _ _ ?_
         refine wp_exit (then_exit (blk_hit ?_))
         -- round 23F 29F 74T 87T
         have hinv5 := heq5.2
         have hz5 : (partitionEqual ltT d3 x y pv2).2.size = n := by rw [Inv.sz hinv5]; assumption
         exact loop_next _ hN522 hd522 ⟨(partitionEqual ltT d3 x y pv2).1, y, l1, wb, wp, _, rfl, (sl_base hN522 rfl s522_0), (sl_hit hN522 rfl).trans (congrArg (Value.int .i64) (by omega)), (sl_base hN522 rfl s522_2).trans (congrArg (Value.int .i64) (by omega)), (sl_base hN522 rfl s522_3).trans (congrArg (Value.int .i64) (by omega)), (sl_base hN522 rfl s522_8), (sl_base hN522 rfl s522_9), (by first | assumption | (simp only [Array.size_setIfInBounds, swp_sz, siftDown_size]; assumption)), (by omega), hinv5, hb, (by omega), hO543⟩ (by omega)
        · -- 87F
         refine wp_skip ?_
         refine hK531 _ _ ?_
         exact hJ530 _ _ _ hN522 hd522 ⟨(sl_base hN522 rfl s522_0), (sl_base hN522 rfl s522_2), (sl_base hN522 rfl s522_3), (sl_base hN522 rfl s522_8), (sl_base hN522 rfl s522_9), (sl_base hN522 rfl s522_10), (sl_base hN522 rfl s522_11), (sl_base hN522 rfl s522_1), hb, (by omega), hO523⟩
       · -- 74F
        refine st_step rfl (fun _ h9 => op_cmp (b := false) (ev_hit hN522 rfl) rfl (b_gtr (decide_eq_false g74)) h9) ?_
        refine st_step rfl (fun _ h9 => op_move (ev_hit hN522 rfl) h9) ?_
        refine st_g_false (j := 2) (dj := 75) (b := true) rfl rfl rfl (ev_hit hN522 rfl) rfl rfl ?_
        refine st_g_false (j := 2) (dj := 75) (b := true) rfl rfl rfl (ev_hit hN522 rfl) rfl rfl ?_
        refine st_g_false (j := 2) (dj := 75) (b := true) rfl rfl rfl (ev_hit hN522 rfl) rfl rfl ?_
        refine st_g_false (j := 2) (dj := 75) (b := true) rfl rfl rfl (ev_hit hN522 rfl) rfl rfl ?_
        refine st_g_false (j := 2) (dj := 75) (b := true) rfl rfl rfl (ev_hit hN522 rfl) rfl rfl ?_
        refine st_g_false (j := 2) (dj := 75) (b := true) rfl rfl rfl (ev_hit hN522 rfl) rfl rfl ?_
        refine st_g_false (j := 2) (dj := 75) (b := true) rfl rfl rfl (ev_hit hN522 rfl) rfl rfl ?_
        refine st_g_false (j := 2) (dj := 75) (b := true) rfl rfl rfl (ev_hit hN522 rfl) rfl rfl ?_
        refine st_g_false (j := 2) (dj := 75) (b := true) rfl rfl rfl (ev_hit hN522 rfl) rfl rfl ?_
        refine st_g_false (j := 2) (dj := 75) (b := true) rfl rfl rfl (ev_hit hN522 rfl) rfl rfl ?_
        refine st_g_false (j := 2) (dj := 75) (b := true) rfl rfl rfl (ev_hit hN522 rfl) rfl rfl ?_
        refine st_step rfl (fun _ h9 => op_pick_f (ev_hit hN522 rfl) rfl h9) ?_
        refine st_nil ?_
        refine hK532 _ _ ?_
        refine wp_cond_false (ev_hit hN522 rfl) ?_
        refine wp_skip ?_
        refine hK531 _ _ ?_
        exact hJ530 _ _ _ hN522 hd522 ⟨(sl_base hN522 rfl s522_0), (sl_base hN522 rfl s522_2), (sl_base hN522 rfl s522_3), (sl_base hN522 rfl s522_8), (sl_base hN522 rfl s522_9), (sl_base hN522 rfl s522_10), (sl_base hN522 rfl s522_11), (sl_base hN522 rfl s522_1), hb, (by omega), hO523⟩
      ·
       rintro a530 w530 hN530 hd530 ⟨s530_0, s530_2, s530_3, s530_8, s530_9, s530_10, s530_11, s530_1, hb, zl_w530, hO523⟩
       have z_w530 := hb.size
       refine seq_any fun K547 hK547 => ?_
       refine one_reg ?_
       have hpt := hi3.part hp2.1 hp2.2
       refine op_move (ev_base hN530 rfl s530_0) ?_
       refine op_move (ev_base hN530 rfl s530_1) ?_
       refine op_move (ev_base hN530 rfl s530_2) ?_
       refine op_move (ev_base hN530 rfl s530_11) ?_
       refine op_fn (vs := [v, (Value.int .i64 ((x : Nat) : Int)), (Value.int .i64 ((y : Nat) : Int)), (Value.int .i64 ((pv2 : Nat) : Int))]) ok74 ⟨(ev_hit hN530 rfl), ⟨(ev_hit hN530 rfl), ⟨(ev_hit hN530 rfl), ⟨(ev_hit hN530 rfl), trivial⟩⟩⟩⟩ (partW_ret d3 _ _ _ x y pv2 _ (by first | assumption | (simp only [Array.size_setIfInBounds, swp_sz, siftDown_size]; assumption)) (by omega) hO523 (by omega) (by omega) (by omega)) ?_
       rintro _ w549 ⟨E550, rfl, hO548⟩
       have z_w549 := E550.size
       have hb := grow_stepX hb E550 rfl
       refine op_move (ev_hit hN530 rfl) ?_
       refine op_extract (ev_hit hN530 rfl) rfl ?_
       refine op_extract (ev_hit hN530 rfl) rfl ?_
       refine op_assign (ev_hit hN530 rfl) ?_
       refine op_assign (ev_hit hN530 rfl) ?_
       refine reg_nil ?_
       refine hK547 _ _ ?_
       refine seq_any fun K551 hK551 => ?_
       refine one_reg ?_
       refine op_move (ev_hit hN530 rfl) ?_
       refine op_assign (ev_hit hN530 rfl) ?_
       refine reg_nil ?_
       refine hK551 _ _ ?_
       refine seq_any fun K552 hK552 => ?_
       refine one_reg ?_
       refine op_move (ev_hit hN530 rfl) ?_
       refine op_move (ev_base hN530 rfl s530_1) ?_
       refine op_sub (r := ((((partition ltT d3 x y pv2).1 - x) : Nat) : Int)) (ev_hit hN530 rfl) (ev_hit hN530 rfl) (by rw [IntKind.wrap_i64]; omega) ?_
       refine op_move (ev_base hN530 rfl s530_2) ?_
       refine op_move (ev_hit hN530 rfl) ?_
       refine op_sub (r := (((y - (partition ltT d3 x y pv2).1) : Nat) : Int)) (ev_hit hN530 rfl) (ev_hit hN530 rfl) (by rw [IntKind.wrap_i64]; omega) ?_
       refine op_assign (ev_hit hN530 rfl) ?_
       refine op_assign (ev_hit hN530 rfl) ?_
       refine reg_nil ?_
       refine hK552 _ _ ?_
       refine seq_any fun K553 hK553 => ?_
       refine one_reg ?_
       refine op_move (ev_base hN530 rfl s530_10) ?_
       refine op_quo (r := ((((y - x) / 8) : Nat) : Int)) (ev_hit hN530 rfl) rfl (by decide) (by rw [IntKind.wrap_i64, Int.tdiv_eq_ediv_of_nonneg (by omega)]; omega) ?_
       refine op_assign (ev_hit hN530 rfl) ?_
       refine reg_nil ?_
       refine hK553 _ _ ?_
       refine seq_any fun K554 hK554 => ?_
       refine one_reg ?_
       refine op_move (ev_hit hN530 rfl) ?_
       refine op_move (ev_hit hN530 rfl) ?_
       refine op_lss (ev_hit hN530 rfl) (ev_hit hN530 rfl) (fun c113 => ?_) (fun c113 => ?_)
       · -- 113T
        refine reg_nil ?_
        refine hK554 _ _ ?_
        refine wp_cond_true (ev_hit hN530 rfl) ?_
        refine seq_any fun K555 hK555 => ?_
        refine one_reg ?_
        refine op_move (ev_hit hN530 rfl) ?_
        refine op_move (ev_hit hN530 rfl) ?_
        refine op_geq (ev_hit hN530 rfl) (ev_hit hN530 rfl) (fun c116 => ?_) (fun c116 => ?_)
        · -- 116T
         refine op_assign (ev_hit hN530 rfl) ?_
         refine reg_nil ?_
         refine hK555 _ _ ?_
         refine seq_any fun K556 hK556 => ?_
         refine one_reg ?_
         have hbl := hpt.2.2.2.1
         have hmz : (partition ltT d3 x y pv2).1 - x < z := by omega
         refine op_move (ev_base hN530 rfl s530_0) ?_
         refine op_move (ev_base hN530 rfl s530_1) ?_
         refine op_move (ev_hit hN530 rfl) ?_
         refine op_move (ev_base hN530 rfl s530_3) ?_
         refine op_fn (vs := [v, (Value.int .i64 ((x : Nat) : Int)), (Value.int .i64 (((partition ltT d3 x y pv2).1 : Nat) : Int)), (Value.int .i64 ((l1 : Nat) : Int))]) ok63 ⟨(ev_hit hN530 rfl), ⟨(ev_hit hN530 rfl), ⟨(ev_hit hN530 rfl), ⟨(ev_hit hN530 rfl), trivial⟩⟩⟩⟩ (ih (partition ltT d3 x y pv2).2.2 x ((partition ltT d3 x y pv2).1) l1 _ (hpt.2.2.1.trans hz3) (by omega) (by omega) (by omega) (by omega) hbl hO548) ?_
         rintro _ w558 ⟨E559, rfl, dd557, hpi557, hso557, hO557⟩
         have z_w558 := E559.size
         have hb := grow_stepX hb E559 rfl
         refine reg_nil ?_
         refine hK556 _ _ ?_
         refine one_reg ?_
         refine op_move (ev_hit hN530 rfl) ?_
         refine op_add (r := ((((partition ltT d3 x y pv2).1 + 1) : Nat) : Int)) (ev_hit hN530 rfl) rfl (by rw [IntKind.wrap_i64]; omega) ?_
         refine op_assign (ev_hit hN530 rfl) ?_
         refine reg_nil ?_
         refine blk_normal ?_
         -- round 23F 29F 113T 116T
         have hinv5 := hpt.2.2.2.2.2.1 _ hpi557 hso557
         have hz5 : dd557.size = n := by rw [Inv.sz hinv5]; assumption
         exact loop_next _ hN530 hd530 ⟨((partition ltT d3 x y pv2).1 + 1), y, l1, true, (partition ltT d3 x y pv2).2.1, _, rfl, (sl_base hN530 rfl s530_0), (sl_hit hN530 rfl).trans (congrArg (Value.int .i64) (by omega)), (sl_base hN530 rfl s530_2).trans (congrArg (Value.int .i64) (by omega)), (sl_base hN530 rfl s530_3).trans (congrArg (Value.int .i64) (by omega)), (sl_hit hN530 rfl), (sl_hit hN530 rfl), (by first | assumption | (simp only [Array.size_setIfInBounds, swp_sz, siftDown_size]; assumption)), (by omega), hinv5, hb, (by omega), hO557⟩ (by omega)
        · -- 116F
         refine op_assign (ev_hit hN530 rfl) ?_
         refine reg_nil ?_
         refine hK555 _ _ ?_
         refine seq_any fun K560 hK560 => ?_
         refine one_reg ?_
         have hbl := hpt.2.2.2.1
         have hmz : (partition ltT d3 x y pv2).1 - x < z := by omega
         refine op_move (ev_base hN530 rfl s530_0) ?_
         refine op_move (ev_base hN530 rfl s530_1) ?_
         refine op_move (ev_hit hN530 rfl) ?_
         refine op_move (ev_base hN530 rfl s530_3) ?_
         refine op_fn (vs := [v, (Value.int .i64 ((x : Nat) : Int)), (Value.int .i64 (((partition ltT d3 x y pv2).1 : Nat) : Int)), (Value.int .i64 ((l1 : Nat) : Int))]) ok63 ⟨(ev_hit hN530 rfl), ⟨(ev_hit hN530 rfl), ⟨(ev_hit hN530 rfl), ⟨(ev_hit hN530 rfl), trivial⟩⟩⟩⟩ (ih (partition ltT d3 x y pv2).2.2 x ((partition ltT d3 x y pv2).1) l1 _ (hpt.2.2.1.trans hz3) (by omega) (by omega) (by omega) (by omega) hbl hO548) ?_
         rintro _ w562 ⟨E563, rfl, dd561, hpi561, hso561, hO561⟩
         have z_w562 := E563.size
         have hb := grow_stepX hb E563 rfl
         refine reg_nil ?_
         refine hK560 _ _ ?_
         refine one_reg ?_
         refine op_move (ev_hit hN530 rfl) ?_
         refine op_add (r := ((((partition ltT d3 x y pv2).1 + 1) : Nat) : Int)) (ev_hit hN530 rfl) rfl (by rw [IntKind.wrap_i64]; omega) ?_
         refine op_assign (ev_hit hN530 rfl) ?_
         refine reg_nil ?_
         refine blk_normal ?_
         -- round 23F 29F 113T 116F
         have hinv5 := hpt.2.2.2.2.2.1 _ hpi561 hso561
         have hz5 : dd561.size = n := by rw [Inv.sz hinv5]; assumption
         exact loop_next _ hN530 hd530 ⟨((partition ltT d3 x y pv2).1 + 1), y, l1, false, (partition ltT d3 x y pv2).2.1, _, rfl, (sl_base hN530 rfl s530_0), (sl_hit hN530 rfl).trans (congrArg (Value.int .i64) (by omega)), (sl_base hN530 rfl s530_2).trans (congrArg (Value.int .i64) (by omega)), (sl_base hN530 rfl s530_3).trans (congrArg (Value.int .i64) (by omega)), (sl_hit hN530 rfl), (sl_hit hN530 rfl), (by first | assumption | (simp only [Array.size_setIfInBounds, swp_sz, siftDown_size]; assumption)), (by omega), hinv5, hb, (by omega), hO561⟩ (by omega)
       · -- 113F
        refine reg_nil ?_
        refine hK554 _ _ ?_
        refine wp_cond_false (ev_hit hN530 rfl) ?_
        refine seq_any fun K564 hK564 => ?_
        refine one_reg ?_
        refine op_move (ev_hit hN530 rfl) ?_
        refine op_move (ev_hit hN530 rfl) ?_
        refine op_geq (ev_hit hN530 rfl) (ev_hit hN530 rfl) (fun c126 => ?_) (fun c126 => ?_)
        · -- 126T
         refine op_assign (ev_hit hN530 rfl) ?_
         refine reg_nil ?_
         refine hK564 _ _ ?_
         refine seq_any fun K565 hK565 => ?_
         refine one_reg ?_
         have hbr := hpt.2.2.2.2.1
         have hmz : y - ((partition ltT d3 x y pv2).1 + 1) < z := by omega
         refine op_move (ev_base hN530 rfl s530_0) ?_
         refine op_move (ev_hit hN530 rfl) ?_
         refine op_add (r := ((((partition ltT d3 x y pv2).1 + 1) : Nat) : Int)) (ev_hit hN530 rfl) rfl (by rw [IntKind.wrap_i64]; omega) ?_
         refine op_move (ev_base hN530 rfl s530_2) ?_
         refine op_move (ev_base hN530 rfl s530_3) ?_
         refine op_fn (vs := [v, (Value.int .i64 ((((partition ltT d3 x y pv2).1 + 1) : Nat) : Int)), (Value.int .i64 ((y : Nat) : Int)), (Value.int .i64 ((l1 : Nat) : Int))]) ok63 ⟨(ev_hit hN530 rfl), ⟨(ev_hit hN530 rfl), ⟨(ev_hit hN530 rfl), ⟨(ev_hit hN530 rfl), trivial⟩⟩⟩⟩ (ih (partition ltT d3 x y pv2).2.2 ((partition ltT d3 x y pv2).1 + 1) y l1 _ (hpt.2.2.1.trans hz3) (by omega) (by omega) (by omega) (by omega) hbr hO548) ?_
         rintro _ w567 ⟨E568, rfl, dd566, hpi566, hso566, hO566⟩
         have z_w567 := E568.size
         have hb := grow_stepX hb E568 rfl
         refine reg_nil ?_
         refine hK565 _ _ ?_
         refine one_reg ?_
         refine op_move (ev_hit hN530 rfl) ?_
         refine op_assign (ev_hit hN530 rfl) ?_
         refine reg_nil ?_
         refine blk_normal ?_
         -- round 23F 29F 113F 126T
         have hinv5 := hpt.2.2.2.2.2.2 _ hpi566 hso566
         have hz5 : dd566.size = n := by rw [Inv.sz hinv5]; assumption
         exact loop_next _ hN530 hd530 ⟨x, (partition ltT d3 x y pv2).1, l1, true, (partition ltT d3 x y pv2).2.1, _, rfl, (sl_base hN530 rfl s530_0), (sl_base hN530 rfl s530_1).trans (congrArg (Value.int .i64) (by omega)), (sl_hit hN530 rfl).trans (congrArg (Value.int .i64) (by omega)), (sl_base hN530 rfl s530_3).trans (congrArg (Value.int .i64) (by omega)), (sl_hit hN530 rfl), (sl_hit hN530 rfl), (by first | assumption | (simp only [Array.size_setIfInBounds, swp_sz, siftDown_size]; assumption)), (by omega), hinv5, hb, (by omega), hO566⟩ (by omega)
        · -- 126F
         refine op_assign (ev_hit hN530 rfl) ?_
         refine reg_nil ?_
         refine hK564 _ _ ?_
         refine seq_any fun K569 hK569 => ?_
         refine one_reg ?_
         have hbr := hpt.2.2.2.2.1
         have hmz : y - ((partition ltT d3 x y pv2).1 + 1) < z := by omega
         refine op_move (ev_base hN530 rfl s530_0) ?_
         refine op_move (ev_hit hN530 rfl) ?_
         refine op_add (r := ((((partition ltT d3 x y pv2).1 + 1) : Nat) : Int)) (ev_hit hN530 rfl) rfl (by rw [IntKind.wrap_i64]; omega) ?_
         refine op_move (ev_base hN530 rfl s530_2) ?_
         refine op_move (ev_base hN530 rfl s530_3) ?_
         refine op_fn (vs := [v, (Value.int .i64 ((((partition ltT d3 x y pv2).1 + 1) : Nat) : Int)), (Value.int .i64 ((y : Nat) : Int)), (Value.int .i64 ((l1 : Nat) : Int))]) ok63 ⟨(ev_hit hN530 rfl), ⟨(ev_hit hN530 rfl), ⟨(ev_hit hN530 rfl), ⟨(ev_hit hN530 rfl), trivial⟩⟩⟩⟩ (ih (partition ltT d3 x y pv2).2.2 ((partition ltT d3 x y pv2).1 + 1) y l1 _ (hpt.2.2.1.trans hz3) (by omega) (by omega) (by omega) (by omega) hbr hO548) ?_
         rintro _ w571 ⟨E572, rfl, dd570, hpi570, hso570, hO570⟩
         have z_w571 := E572.size
         have hb := grow_stepX hb E572 rfl
         refine reg_nil ?_
         refine hK569 _ _ ?_
         refine one_reg ?_
         refine op_move (ev_hit hN530 rfl) ?_
         refine op_assign (ev_hit hN530 rfl) ?_
         refine reg_nil ?_
         refine blk_normal ?_
         -- round 23F 29F 113F 126F
         have hinv5 := hpt.2.2.2.2.2.2 _ hpi570 hso570
         have hz5 : dd570.size = n := by rw [Inv.sz hinv5]; assumption
         exact loop_next _ hN530 hd530 ⟨x, (partition ltT d3 x y pv2).1, l1, false, (partition ltT d3 x y pv2).2.1, _, rfl, (sl_base hN530 rfl s530_0), (sl_base hN530 rfl s530_1).trans (congrArg (Value.int .i64) (by omega)), (sl_hit hN530 rfl).trans (congrArg (Value.int .i64) (by omega)), (sl_base hN530 rfl s530_3).trans (congrArg (Value.int .i64) (by omega)), (sl_hit hN530 rfl), (sl_hit hN530 rfl), (by first | assumption | (simp only [Array.size_setIfInBounds, swp_sz, siftDown_size]; assumption)), (by omega), hinv5, hb, (by omega), hO570⟩ (by omega)

theorem pdqW_ret (d : Ar) (v : Value) (n base a b lim : Nat) (w : World) (hd : d.size = n) (hn : n ≤ 4000000000000000000) (hab : a ≤ b) (hbn : b ≤ n) (hlim : lim ≤ 100) (hB : Go.Sort.Below ltT a b d) (O : Own w base 35 1 v n (d.toList.map u16v)) : Ret Try.prog 63 #[v, .int .i64 (a : Int), .int .i64 (b : Int), .int .i64 (lim : Int)] w (fun v' w' => w.grownBy w' v.ownBlock ∧ v' = .tuple #[] ∧ ∃ d', PI a b d d' ∧ SortedIn ltT a b d' ∧ Own w' base 35 1 v n (d'.toList.map u16v)) := by
  have key : ∀ z, PdqIH z v n base := by
    intro z
    induction z with
    | zero => intro d a b lim w _ _ _ _ h; omega
    | succ z ih =>
      intro d a b lim w hd hab hbn hlim hz hB O
      exact pdqW_step (b - a) v n base hn (fun d a b lim w g1 g2 g3 g4 g5 => ih d a b lim w g1 g2 g3 g4 (by omega)) d a b lim w hd hab hbn hlim rfl hB O
  exact key (b - a + 1) d a b lim w hd hab hbn hlim (by omega) hB O

end Go.Proofs.Ytpmnljffdofkeaa

/- What values are, plainly. -/
namespace Go.Proofs.Ytpmnljffdofkeaa
open Go.Gx
/-- A value. -/
structure Vl where
  k : Int
  n : Int
  s : List UInt8
def okB (c : UInt8) : Bool := decide (32 ≤ c.toNat ∧ c.toNat ≤ 126)
def mayV (x : Vl) : Bool := if x.k = 1 then x.s.isEmpty else x.s.all okB && decide (x.k = 2) && decide (x.n = 0) && decide (x.s.length ≤ 30)
theorem take_snoc {l : List UInt8} {i : Nat} (h : i < l.length) : l.take (i + 1) = l.take i ++ [l.getD i 0] := by
  rw [List.take_succ_eq_append_getElem h]; simp [List.getD_eq_getElem?_getD, h]
theorem all_snoc {p : UInt8 → Bool} {l : List UInt8} {i : Nat} (h : i < l.length) (ha : (l.take i).all p = true) (hb : p (l.getD i 0) = true) : (l.take (i + 1)).all p = true := by
  rw [take_snoc h, List.all_append, ha]; simp only [List.all_cons, hb, List.all_nil]; rfl
theorem all_bad {p : UInt8 → Bool} {l : List UInt8} {i : Nat} (h : i < l.length) (hb : p (l.getD i 0) = false) : l.all p = false := by
  rw [List.all_eq_false]
  exact ⟨l.getD i 0, by rw [List.getD_eq_getElem?_getD, List.getElem?_eq_getElem h]; exact List.getElem_mem h, by rw [hb]; simp⟩
theorem all_whole {p : UInt8 → Bool} {l : List UInt8} {i : Nat} (h : l.length ≤ i) (ha : (l.take i).all p = true) : l.all p = true := by
  rwa [List.take_of_length_le h] at ha
/-- How values stand. -/
def cmpV (x y : Vl) : Int := if x.k < y.k then -1 else if y.k < x.k then 1 else if x.k = 1 then cmpI x.n y.n else cmpT x.s y.s
def cmpW (x y : Vl) : Int := if cmpI x.k y.k ≠ 0 then cmpI x.k y.k else if cmpI x.n y.n ≠ 0 then cmpI x.n y.n else cmpT x.s y.s
theorem el_one {cs : List Value} {e : Int} {i j n : Nat} {u : Value} (he : e = (i : Int)) (hi : i = 0) (h : cs[j]? = some u) : cs[e.toNat * n + j]? = some u := by subst he; subst hi; simpa using h
theorem twin_copy (bl : List UInt8) : bl.map u8v ++ ((List.replicate (bl.length + 3) (0 : UInt8)).map u8v).drop (bl.map u8v).length = (bl ++ [0, 0, 0]).map u8v := by
  simp only [List.map_replicate, List.length_map, List.drop_replicate, List.map_append, Nat.add_sub_cancel_left]; rfl
theorem getD_tail (bl t : List UInt8) (k : Nat) : (bl ++ t).getD (bl.length + k) 0 = t.getD k 0 := by
  rw [List.getD_eq_getElem?_getD, List.getElem?_append_right (by omega), Nat.add_sub_cancel_left, List.getD_eq_getElem?_getD]
/-- A value's key. -/
def keyV (x : Vl) : List UInt8 := if x.k = 1 then 1 :: be8 (upN x.n) else 2 :: (x.s ++ [0])
/-- The same, as the document tells it: the number as it stands, its highest bit turned. -/
def upU (n : Int) : Nat := if n < 0 then (n + 18446744073709551616).toNat else n.toNat
def keyU (m : Nat) : List UInt8 := (List.range 8).map fun i => if i = 0 then UInt8.ofNat (m / 2 ^ (56 - 8 * i) % 256) ^^^ 128 else UInt8.ofNat (m / 2 ^ (56 - 8 * i) % 256)
theorem keyU_take {m i : Nat} (hi : i < 8) : (keyU m).take (i + 1) = (keyU m).take i ++ [if i = 0 then UInt8.ofNat (m / 2 ^ (56 - 8 * i) % 256) ^^^ 128 else UInt8.ofNat (m / 2 ^ (56 - 8 * i) % 256)] := by
  unfold keyU
  rw [List.take_succ_eq_append_getElem (by simpa using hi)]
  simp
theorem keyU_len (m : Nat) : (keyU m).length = 8 := by simp [keyU]
def keyR (x : Vl) : List UInt8 := if x.k = 1 then 1 :: keyU (upU x.n) else 2 :: (x.s ++ [0])
def V0 : Vl := ⟨0, 0, []⟩
/-- The bytes behind a text's first byte: at which place the text ends, or why there is none. -/
def scanT : List UInt8 → Nat → Int ⊕ Nat
  | [], _ => .inl 2
  | c :: r, i => if c.toNat = 0 then .inr i else if i = 30 ∨ okB c = false then .inl 3 else scanT r (i + 1)
def triT (b : List UInt8) : Int ⊕ Nat → Vl × Int × Int
  | .inr i => (⟨2, 0, b.take i⟩, (i : Int) + 2, 0)
  | .inl e => (V0, 0, e)
def textR (b : List UInt8) : Vl × Int × Int := triT b (scanT b 0)
/-- What is read of bytes: a value, how many, and the error. -/
def takeV (b : List UInt8) : Vl × Int × Int := match b with
  | [] => (V0, 0, 2)
  | c :: r => if c.toNat = 1 then (if b.length < 9 then (V0, 0, 2) else (⟨1, (ofBe (r.take 8) : Int) - 9223372036854775808, []⟩, 9, 0)) else if c.toNat = 2 then textR r else (V0, 0, 3)
theorem scan_step {b : List UInt8} {i : Nat} (h : i < b.length) : scanT (b.drop i) i = if (b.getD i 0).toNat = 0 then .inr i else if i = 30 ∨ okB (b.getD i 0) = false then .inl 3 else scanT (b.drop (i + 1)) (i + 1) := by
  rw [List.drop_eq_getElem_cons h]
  simp [scanT, List.getD_eq_getElem?_getD, h]
theorem scan_end {b : List UInt8} {i : Nat} (h : b.length ≤ i) : scanT (b.drop i) i = .inl 2 := by
  rw [List.drop_of_length_le h]; rfl
theorem ofBe_small {l : List UInt8} (h : l.length ≤ 7) : ofBe l < 72057594037927936 := by
  have h1 := ofBe_lt l
  have h2 : 256 ^ l.length ≤ 256 ^ 7 := Nat.pow_le_pow_right (by decide) h
  have h3 : (256 : Nat) ^ 7 = 72057594037927936 := by decide
  omega
theorem ofBe_8 {l : List UInt8} (h : l.length ≤ 8) : ofBe l < 18446744073709551616 := by
  have h1 := ofBe_lt l
  have h2 : 256 ^ l.length ≤ 256 ^ 8 := Nat.pow_le_pow_right (by decide) h
  have h3 : (256 : Nat) ^ 8 = 18446744073709551616 := by decide
  omega
theorem u8_rng (c : UInt8) : 0 ≤ (c.toNat : Int) ∧ (c.toNat : Int) ≤ 18446744073709551615 := by have := c.toNat_lt; omega
theorem take_lo {b : List UInt8} (h : b = []) : takeV b = (V0, 0, 2) := by subst h; rfl
theorem take_cons {b : List UInt8} (h : 0 < b.length) : takeV b = if (b.getD 0 0).toNat = 1 then (if b.length < 9 then (V0, 0, 2) else (⟨1, (ofBe ((b.drop 1).take 8) : Int) - 9223372036854775808, []⟩, 9, 0)) else if (b.getD 0 0).toNat = 2 then textR (b.drop 1) else (V0, 0, 3) := by
  cases b with
  | nil => simp at h
  | cons c r => rfl
theorem textR_of {b : List UInt8} {q : Int ⊕ Nat} (h : scanT b 0 = q) : textR b = triT b q := by rw [textR, h]
theorem drop1_get (b : List UInt8) (i : Nat) : (b.drop 1).getD i 0 = b.getD (1 + i) 0 := by
  simp [List.getD_eq_getElem?_getD, List.getElem?_drop, Nat.add_comm]
theorem okB_t {c : UInt8} (h : 32 ≤ c.toNat ∧ c.toNat ≤ 126) : okB c = true := decide_eq_true h
theorem okB_f {c : UInt8} (h : ¬ (32 ≤ c.toNat ∧ c.toNat ≤ 126)) : okB c = false := decide_eq_false h
end Go.Proofs.Ytpmnljffdofkeaa
