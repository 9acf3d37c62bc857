/- Walks, written by a program: what each function of the translation hands back. -/
import Derived.Test.YthflnkfghogaoaaB4
set_option linter.unusedVariables false
set_option linter.unusedSimpArgs false

namespace Go.Proofs.Ythflnkfghogaoaa
open Go.Gx Go.RowKit
attribute [local irreducible] wpList wpStill Code.wp Calls
open Go.Sort (insertionSort insOuter insInner swp siftDown heapSort heapBuild heapPop scanUp scanDown partition partLoop partitionEqual partEqLoop scanSorted partialIns bitsLen partialInsertionSort shiftDown shiftUp SortedIn reverseRange reverseLoop fixDown fixUp)
set_option maxHeartbeats 2000000 in
theorem bpW_ret (d : Ar) (v : Value) (n base : Nat) (a b : Nat) (w : World) (hd : d.size = n) (hn : n ≤ 4000000000000000000) (O : Own w base 74 1 v n (d.toList.map u16v)) (hab : a ≤ b) (hbn : b ≤ n) : Ret Try.prog 128 #[v, (.int .i64 ((a : Nat) : Int)), (.int .i64 ((b : Nat) : Int))] w (fun v' w' => w.grownBy w' v.ownBlock ∧ v' = .tuple #[] ∧ ∃ d', PI a b d d' ∧ Own w' base 74 1 v n (d'.toList.map u16v)) := by
 have hb := grown_refl w v.ownBlock
 refine enter (N := 65) Try.func128 rfl rfl (by simp) fun a0 hN hd hA => ?_
 have s0 : a0.tmps.getD 0 undef = v := hA 0 (by simp)
 have s1 : a0.tmps.getD 1 undef = (.int .i64 ((a : Nat) : Int)) := hA 1 (by simp)
 have s2 : a0.tmps.getD 2 undef = (.int .i64 ((b : Nat) : Int)) := hA 2 (by simp)
 clear hA
 refine zF fun K1 hK1 => ?_
 refine zH ?_
 refine zG (zC hN rfl s2) ?_
 refine zG (zC hN rfl s1) ?_
 refine op_sub (r := (((b - a) : Nat) : Int)) (zA hN rfl) (zA hN rfl) (by rw [IntKind.wrap_i64]; omega) ?_
 refine zD (zA hN rfl) ?_
 refine zB ?_
 refine hK1 _ _ (zF fun K2 hK2 => ?_)
 refine zH ?_
 refine zG (zA hN rfl) ?_
 refine op_geq (zA hN rfl) rfl (fun c15 => ?_) (fun c15 => ?_)
 ·
  refine zB ?_
  refine hK2 _ _ (wp_cond_true (zA hN rfl) (zF fun K3 hK3 => ?_))
  refine zH ?_
  refine zG (zA hN rfl) ?_
  refine op_conv (r := (((b - a) : Nat) : Int)) (zA hN rfl) us3 Try.underlying179 (wrap_u64 zx) ?_
  refine op_alloc (cs := [(.int .u64 0)]) zero179 rfl ?_
  intro w4 b5 lo_b5 hi_b5 hB7 E6
  have := E6.size
  have O := O.keep0 E6
  have hb := grow_step0 hb E6
  have hB7_old := hB7
  refine za (vs := [(.int .u64 (((b - a) : Nat) : Int))]) (cs' := [(.int .u64 (((b - a) : Nat) : Int))]) size179 (zA hN rfl) (zA hN rfl) rfl rfl rfl hB7 (zI rfl) rfl ?_
  intro w10 hB7 E11
  have := E11.size
  have O := O.keepX hB7_old E11 zz
  have hb := grow_step1 hb E11 zx
  refine zB ?_
  refine hK3 _ _ (zF fun K12 hK12 => ?_)
  refine zH ?_
  refine zG (zA hN rfl) ?_
  refine zj ok138 (npW_ret (b - a) _ zx) ⟨(zA hN rfl), trivial⟩ ?_
  rintro _ w14 ⟨E15, M13, rfl, hM13, hM213⟩
  have E15 := zQ E15
  have := E15.size
  have O := O.keep0 E15
  have hB7 := hB7.keep0 E15
  have hb := grow_step0 hb E15
  refine zD (zA hN rfl) ?_
  refine zB ?_
  refine hK12 _ _ (zF fun K16 hK16 => ?_)
  refine zH ?_
  refine zG (zC hN rfl s1) ?_
  refine zG (zA hN rfl) ?_
  refine op_quo (r := ((((b - a) / 4) : Nat) : Int)) (zA hN rfl) rfl zz (by rw [IntKind.wrap_i64, Int.tdiv_eq_ediv_of_nonneg zx]; omega) ?_
  refine op_mul (r := ((((b - a) / 4 * 2) : Nat) : Int)) (zA hN rfl) rfl (by rw [IntKind.wrap_i64]; omega) ?_
  refine op_add (zA hN rfl) (zA hN rfl) (add64 zx) ?_
  refine op_sub (r := (((a + ((b - a) / 4 * 2) - 1) : Nat) : Int)) (zA hN rfl) rfl (by rw [IntKind.wrap_i64]; omega) ?_
  refine zD (zA hN rfl) ?_
  refine zB ?_
  refine hK16 _ _ (wp_block ?_)
  refine loop_m (fun mz_ az_ w' => ∃ (ix xs : Nat) (dk : Ar), mz_ = (a + b + 10 - ix) ∧ (az_.tmps.getD 0 undef = v) ∧ (az_.tmps.getD 1 undef = (.int .i64 ((a : Nat) : Int))) ∧ (az_.tmps.getD 6 undef = (.int .i64 (((b - a) : Nat) : Int))) ∧ (az_.tmps.getD 7 undef = (ptr b5 0)) ∧ (az_.tmps.getD 8 undef = (.int .u64 ((M13 : Nat) : Int))) ∧ (az_.tmps.getD 9 undef = (.int .i64 ((ix : Nat) : Int))) ∧ (dk.size = n) ∧ (a + ((b - a) / 4 * 2) - 1 ≤ ix ∧ ix ≤ a + ((b - a) / 4 * 2) + 2) ∧ (PI a b d dk) ∧ (w.grownBy w' v.ownBlock) ∧ (w14.heap.size ≤ w'.heap.size) ∧ (Bx w' b5 179 [(.int .u64 ((xs : Nat) : Int))]) ∧ (Own w' base 74 1 v n (dk.toList.map u16v))) _ hN hd ⟨(a + ((b - a) / 4 * 2) - 1), (b - a), _, rfl, (zL hN rfl s0), (zL hN rfl s1), (zU hN rfl), (zU hN rfl), (zU hN rfl), (zU hN rfl).trans (congrArg (Value.int .i64) zx), (by first | assumption | (simp only [Array.size_setIfInBounds, swp_sz, siftDown_size]; assumption)), zx, (PI.rfl' _ _ _), hb, (Nat.le_refl _), hB7, O⟩ ?_
  rintro _ a17 w17 hN17 hd17 ⟨ix, xs, dk, rfl, s17_0, s17_1, s17_6, s17_7, s17_8, s17_9, hdk, hr1, hpi, hb, zl_w17, hxs, hO18⟩
  have := hb.size
  refine zF fun K19 hK19 => ?_
  refine zF fun K20 hK20 => ?_
  refine zH ?_
  refine zG (zC hN17 rfl s17_9) ?_
  refine zG (zC hN17 rfl s17_1) ?_
  refine zG (zC hN17 rfl s17_6) ?_
  refine op_quo (r := ((((b - a) / 4) : Nat) : Int)) (zA hN17 rfl) rfl zz (by rw [IntKind.wrap_i64, Int.tdiv_eq_ediv_of_nonneg zx]; omega) ?_
  refine op_mul (r := ((((b - a) / 4 * 2) : Nat) : Int)) (zA hN17 rfl) rfl (by rw [IntKind.wrap_i64]; omega) ?_
  refine op_add (zA hN17 rfl) (zA hN17 rfl) (add64 zx) ?_
  refine op_add (zA hN17 rfl) rfl (add64 zx) ?_
  refine op_leq (zA hN17 rfl) (zA hN17 rfl) (fun c33 => ?_) (fun c33 => ?_)
  ·
   refine zB ?_
   refine hK20 _ _ (wp_cond_true (zA hN17 rfl) (wp_skip (hK19 _ _ (zF fun K21 hK21 => ?_))))
   refine wp_block ?_
   refine zF fun K22 hK22 => ?_
   refine zH ?_
   refine zj ok139 (xnextW_ret b5 _ _ hxs) ⟨(zC hN17 rfl s17_7), trivial⟩ ?_
   rintro _ w24 ⟨E25, rx23, rfl, hr23, hs23⟩
   have hxs_old := hxs
   have := E25.size
   have hO18 := hO18.keepX hxs_old E25 zz
   have hb := grow_step1 hb E25 zx
   refine zG (zC hN17 rfl s17_8) ?_
   refine op_sub (r := (((M13 - 1) : Nat) : Int)) (zA hN17 rfl) rfl (by rw [show (M13 : Int) - 1 = ((M13 - 1 : Nat) : Int) by omega]; exact wrap_u64 zx) ?_
   refine op_and (r := (((rx23 &&& (M13 - 1)) : Nat) : Int)) (zA hN17 rfl) (zA hN17 rfl) (and_64 zx zx) ?_
   have hand : (rx23 &&& (M13 - 1)) ≤ M13 - 1 := Nat.and_le_right
   refine op_conv (r := (((rx23 &&& (M13 - 1)) : Nat) : Int)) (zA hN17 rfl) us164 Try.underlying3 (by rw [IntKind.wrap_i64]; omega) ?_
   refine zD (zA hN17 rfl) ?_
   refine zB ?_
   refine hK22 _ _ (seq_join1 (N := 65) (fun az_ w' => ∃ (ot : Nat), (az_.tmps.getD 0 undef = v) ∧ (az_.tmps.getD 1 undef = (.int .i64 ((a : Nat) : Int))) ∧ (az_.tmps.getD 6 undef = (.int .i64 (((b - a) : Nat) : Int))) ∧ (az_.tmps.getD 7 undef = (ptr b5 0)) ∧ (az_.tmps.getD 8 undef = (.int .u64 ((M13 : Nat) : Int))) ∧ (az_.tmps.getD 9 undef = (.int .i64 ((ix : Nat) : Int))) ∧ (az_.tmps.getD 10 undef = (.int .i64 ((ot : Nat) : Int))) ∧ (ot < b - a) ∧ (w.grownBy w' v.ownBlock) ∧ (w24.heap.size ≤ w'.heap.size) ∧ (Own w' base 74 1 v n (dk.toList.map u16v)) ∧ (Bx w' b5 179 [(.int .u64 ((rx23 : Nat) : Int))])) (fun hJ26 => ?_) ?_)
   ·
    refine zF fun K27 hK27 => ?_
    refine zF fun K28 hK28 => ?_
    refine zH ?_
    refine zG (zA hN17 rfl) ?_
    refine zG (zC hN17 rfl s17_6) ?_
    refine op_geq (zA hN17 rfl) (zA hN17 rfl) (fun c43 => ?_) (fun c43 => ?_)
    ·
     refine zB ?_
     refine hK28 _ _ (wp_cond_true (zA hN17 rfl) (zH ?_))
     refine zG (zA hN17 rfl) ?_
     refine zG (zC hN17 rfl s17_6) ?_
     refine op_sub (zA hN17 rfl) (zA hN17 rfl) (sub64 zx) ?_
     refine zD (zA hN17 rfl) ?_
     refine zB ?_
     refine hK27 _ _ ?_
     exact hJ26 _ _ _ hN17 hd17 ⟨((rx23 &&& (M13 - 1)) - (b - a)), (zL hN17 rfl s17_0), (zL hN17 rfl s17_1), (zL hN17 rfl s17_6), (zL hN17 rfl s17_7), (zL hN17 rfl s17_8), (zL hN17 rfl s17_9), (zU hN17 rfl).trans (congrArg (Value.int .i64) zx), zx, hb, zx, hO18, hs23⟩
    refine zB ?_
    refine hK28 _ _ (wp_cond_false (zA hN17 rfl) (wp_skip (hK27 _ _ ?_)))
    exact hJ26 _ _ _ hN17 hd17 ⟨(rx23 &&& (M13 - 1)), (zL hN17 rfl s17_0), (zL hN17 rfl s17_1), (zL hN17 rfl s17_6), (zL hN17 rfl s17_7), (zL hN17 rfl s17_8), (zL hN17 rfl s17_9), (zU hN17 rfl).trans (congrArg (Value.int .i64) zx), zx, hb, zx, hO18, hs23⟩
   rintro a26 w26 hN26 hd26 ⟨ot, s26_0, s26_1, s26_6, s26_7, s26_8, s26_9, s26_10, hot, hb, zl_w26, hO18, hs23⟩
   have := hb.size
   refine reg_mid (e := 74) (sz := 1) (base := base) (n := n) (v := v) (Φ := phiL [(fun uz _ => uz = v), (fun uz _ => uz = (.int .i64 ((ix : Nat) : Int))), (fun uz _ => uz = v), (fun uz _ => uz = (.int .i64 ((a : Nat) : Int))), (fun uz _ => uz = (.int .i64 ((ot : Nat) : Int))), (fun uz _ => uz = (.int .i64 (((a : Nat) : Int) + ((ot : Nat) : Int)))), (fun uz _ => uz = v), (fun uz _ => uz = (.int .i64 ((a : Nat) : Int))), (fun uz _ => uz = (.int .i64 ((ot : Nat) : Int))), (fun uz _ => uz = (.int .i64 (((a : Nat) : Int) + ((ot : Nat) : Int)))), (fun uz _ => ∃ bz oz, uz = ptr bz oz ∧ AtV v (a + ot) bz oz), (fun uz _ => uz = (.int .u16 (dk[(a + ot)]!.toNat : Int))), (fun uz _ => uz = v), (fun uz _ => uz = (.int .i64 ((ix : Nat) : Int))), (fun uz _ => ∃ bz oz, uz = ptr bz oz ∧ AtV v ix bz oz), (fun uz _ => uz = (.int .u16 (dk[ix]!.toNat : Int))), (fun uz _ => ∃ bz oz, uz = ptr bz oz ∧ AtV v ix bz oz), (fun _ _ => True), (fun uz _ => ∃ bz oz, uz = ptr bz oz ∧ AtV v (a + ot) bz oz), (fun _ _ => True)]) [17, 19] [(dk.toList.map u16v), ((dk.setIfInBounds ix dk[(a + ot)]!).toList.map u16v), (((dk.setIfInBounds ix dk[(a + ot)]!).setIfInBounds (a + ot) dk[ix]!).toList.map u16v)] mixed zy zy zy zy hN26 hO18 (StL.get (StL.eq (StL.eq (StL.eq (StL.eq (StL.eq (StL.eq (StL.eq (StL.eq (StL.eq (StL.eq (StL.at (StL.eq (StL.eq (StL.eq (StL.at (StL.eq (StL.at (StL.cons (fun _ _ _ _ h => h) (StL.at (StL.cons (fun _ _ _ _ h => h) (StL.nil _)))))))))))))))))))))) (ObRs.get (ObRs.cons ?_ (ObRs.cons ?_ (ObRs.cons ?_ (ObRs.cons ?_ (ObRs.cons ?_ (ObRs.cons ?_ (ObRs.cons ?_ (ObRs.cons ?_ (ObRs.cons ?_ (ObRs.cons ?_ (ObRs.cons ?_ (ObRs.cons ?_ (ObRs.cons ?_ (ObRs.cons ?_ (ObRs.cons ?_ (ObRs.cons ?_ (ObRs.cons ?_ (ObRs.pass rfl (ObRs.cons ?_ (ObRs.pass rfl (ObRs.nil)))))))))))))))))))))) (ObWs.get (ObWs.cons ?_ (ObWs.cons ?_ (ObWs.nil)))) ?_
   ·
    intro aA wA cA hNA hRA hckA hOA hbsA hdpA
    have qA_0 := (hbsA 0 rfl).trans (zL hN26 rfl s26_0)
    clear hbsA hdpA
    refine zG (zC hNA rfl qA_0) ?_
    exact obR_end rfl rfl (grown_refl _ _)
   ·
    intro aA wA cA hNA hRA hckA hOA hbsA hdpA
    have qA_9 := (hbsA 9 rfl).trans (zL hN26 rfl s26_9)
    clear hbsA hdpA
    refine zG (zC hNA rfl qA_9) ?_
    exact obR_end rfl rfl (grown_refl _ _)
   ·
    intro aA wA cA hNA hRA hckA hOA hbsA hdpA
    have qA_0 := (hbsA 0 rfl).trans (zL hN26 rfl s26_0)
    clear hbsA hdpA
    refine zG (zC hNA rfl qA_0) ?_
    exact obR_end rfl rfl (grown_refl _ _)
   ·
    intro aA wA cA hNA hRA hckA hOA hbsA hdpA
    have qA_1 := (hbsA 1 rfl).trans (zL hN26 rfl s26_1)
    clear hbsA hdpA
    refine zG (zC hNA rfl qA_1) ?_
    exact obR_end rfl rfl (grown_refl _ _)
   ·
    intro aA wA cA hNA hRA hckA hOA hbsA hdpA
    have qA_10 := (hbsA 10 rfl).trans (zL hN26 rfl s26_10)
    clear hbsA hdpA
    refine zG (zC hNA rfl qA_10) ?_
    exact obR_end rfl rfl (grown_refl _ _)
   ·
    intro aA wA cA hNA hRA hckA hOA hbsA hdpA
    have qA_50 : Sl aA 50 (.int .i64 ((a : Nat) : Int)) := hdpA 3 _ 50 zy rfl rfl
    have qA_51 : Sl aA 51 (.int .i64 ((ot : Nat) : Int)) := hdpA 4 _ 51 zy rfl rfl
    clear hbsA hdpA
    refine op_add (zC hNA rfl qA_50) (zC hNA rfl qA_51) (add64 zx) ?_
    exact obR_end rfl rfl (grown_refl _ _)
   ·
    intro aA wA cA hNA hRA hckA hOA hbsA hdpA
    have qA_0 := (hbsA 0 rfl).trans (zL hN26 rfl s26_0)
    clear hbsA hdpA
    refine zG (zC hNA rfl qA_0) ?_
    exact obR_end rfl rfl (grown_refl _ _)
   ·
    intro aA wA cA hNA hRA hckA hOA hbsA hdpA
    have qA_1 := (hbsA 1 rfl).trans (zL hN26 rfl s26_1)
    clear hbsA hdpA
    refine zG (zC hNA rfl qA_1) ?_
    exact obR_end rfl rfl (grown_refl _ _)
   ·
    intro aA wA cA hNA hRA hckA hOA hbsA hdpA
    have qA_10 := (hbsA 10 rfl).trans (zL hN26 rfl s26_10)
    clear hbsA hdpA
    refine zG (zC hNA rfl qA_10) ?_
    exact obR_end rfl rfl (grown_refl _ _)
   ·
    intro aA wA cA hNA hRA hckA hOA hbsA hdpA
    have qA_54 : Sl aA 54 (.int .i64 ((a : Nat) : Int)) := hdpA 7 _ 54 zy rfl rfl
    have qA_55 : Sl aA 55 (.int .i64 ((ot : Nat) : Int)) := hdpA 8 _ 55 zy rfl rfl
    clear hbsA hdpA
    refine op_add (zC hNA rfl qA_54) (zC hNA rfl qA_55) (add64 zx) ?_
    exact obR_end rfl rfl (grown_refl _ _)
   ·
    intro aA wA cA hNA hRA hckA hOA hbsA hdpA
    have qA_53 : Sl aA 53 v := hdpA 6 _ 53 zy rfl rfl
    have qA_56 : Sl aA 56 (.int .i64 (((a : Nat) : Int) + ((ot : Nat) : Int))) := hdpA 9 _ 56 zy rfl rfl
    clear hbsA hdpA
    refine op_index_own (i := (a + ot)) slt42 (zC hNA rfl qA_53) hOA (zC hNA rfl qA_56) zx zx ?_
    intro b_ o_ _ hA_
    exact obR_end rfl ⟨b_, o_, rfl, by simpa using hA_⟩ (grown_refl _ _)
   ·
    intro aA wA cA hNA hRA hckA hOA hbsA hdpA
    obtain ⟨bA_57, oA_57, qA_57, hAA_57⟩ := hdpA 10 _ 57 zy rfl rfl
    clear hbsA hdpA
    obtain rfl : cA = 0 := Nat.le_zero.1 (hckA 0 17 rfl zy)
    have hOA : Own wA base 74 1 v n (dk.toList.map u16v) := hOA
    refine zN (v := (Value.int .u16 (dk[(a + ot)]!.toNat : Int))) one74 (zC hNA rfl qA_57) (by have := hOA.cellAt hAA_57 0 _ (el_at (i := (a + ot)) (by first | omega | (simp only [Array.size_setIfInBounds, swp_sz, siftDown_size]; omega))); simpa using this) ?_
    exact obR_end rfl rfl (grown_refl _ _)
   ·
    intro aA wA cA hNA hRA hckA hOA hbsA hdpA
    have qA_0 := (hbsA 0 rfl).trans (zL hN26 rfl s26_0)
    clear hbsA hdpA
    refine zG (zC hNA rfl qA_0) ?_
    exact obR_end rfl rfl (grown_refl _ _)
   ·
    intro aA wA cA hNA hRA hckA hOA hbsA hdpA
    have qA_9 := (hbsA 9 rfl).trans (zL hN26 rfl s26_9)
    clear hbsA hdpA
    refine zG (zC hNA rfl qA_9) ?_
    exact obR_end rfl rfl (grown_refl _ _)
   ·
    intro aA wA cA hNA hRA hckA hOA hbsA hdpA
    have qA_59 : Sl aA 59 v := hdpA 12 _ 59 zy rfl rfl
    have qA_60 : Sl aA 60 (.int .i64 ((ix : Nat) : Int)) := hdpA 13 _ 60 zy rfl rfl
    clear hbsA hdpA
    refine op_index_own (i := ix) slt42 (zC hNA rfl qA_59) hOA (zC hNA rfl qA_60) zx zx ?_
    intro b_ o_ _ hA_
    exact obR_end rfl ⟨b_, o_, rfl, by simpa using hA_⟩ (grown_refl _ _)
   ·
    intro aA wA cA hNA hRA hckA hOA hbsA hdpA
    obtain ⟨bA_61, oA_61, qA_61, hAA_61⟩ := hdpA 14 _ 61 zy rfl rfl
    clear hbsA hdpA
    obtain rfl : cA = 0 := Nat.le_zero.1 (hckA 0 17 rfl zy)
    have hOA : Own wA base 74 1 v n (dk.toList.map u16v) := hOA
    refine zN (v := (Value.int .u16 (dk[ix]!.toNat : Int))) one74 (zC hNA rfl qA_61) (by have := hOA.cellAt hAA_61 0 _ (el_at (i := ix) (by first | omega | (simp only [Array.size_setIfInBounds, swp_sz, siftDown_size]; omega))); simpa using this) ?_
    exact obR_end rfl rfl (grown_refl _ _)
   ·
    intro aA wA cA hNA hRA hckA hOA hbsA hdpA
    have qA_47 : Sl aA 47 v := hdpA 0 _ 47 zy rfl rfl
    have qA_48 : Sl aA 48 (.int .i64 ((ix : Nat) : Int)) := hdpA 1 _ 48 zy rfl rfl
    clear hbsA hdpA
    refine op_index_own (i := ix) slt42 (zC hNA rfl qA_47) hOA (zC hNA rfl qA_48) zx zx ?_
    intro b_ o_ _ hA_
    exact obR_end rfl ⟨b_, o_, rfl, by simpa using hA_⟩ (grown_refl _ _)
   ·
    intro aA wA cA hNA hRA hckA hOA hbsA hdpA
    have qA_49 : Sl aA 49 v := hdpA 2 _ 49 zy rfl rfl
    have qA_52 : Sl aA 52 (.int .i64 (((a : Nat) : Int) + ((ot : Nat) : Int))) := hdpA 5 _ 52 zy rfl rfl
    clear hbsA hdpA
    refine op_index_own (i := (a + ot)) slt42 (zC hNA rfl qA_49) hOA (zC hNA rfl qA_52) zx zx ?_
    intro b_ o_ _ hA_
    exact obR_end rfl ⟨b_, o_, rfl, by simpa using hA_⟩ (grown_refl _ _)
   ·
    intro o_ ho_; obtain rfl := zE ho_; intro aA wA hNA hRA hbsA hdpA hOA
    obtain ⟨bA_63, oA_63, qA_63, hAA_63⟩ := hdpA 16 _ 63 zy rfl rfl
    have qA_58 : Sl aA 58 (.int .u16 (dk[(a + ot)]!.toNat : Int)) := hdpA 11 _ 58 zy rfl rfl
    clear hbsA hdpA
    have hOA : Own wA base 74 1 v n (dk.toList.map u16v) := hOA
    refine op_store_own (vs := [(.int .u16 (dk[(a + ot)]!.toNat : Int))]) size74 (zC hNA rfl qA_63) (zC hNA rfl qA_58) rfl rfl rfl hOA hAA_63 (by have := hOA.1; simp at this ⊢; omega) ?_
    intro w_ hO_ E_
    exact obW_end rfl (hO_.cast rfl (set_arr (by first | omega | (simp only [Array.size_setIfInBounds, swp_sz, siftDown_size]; omega)))) E_
   ·
    intro o_ ho_; obtain rfl := zE ho_; intro aA wA hNA hRA hbsA hdpA hOA
    obtain ⟨bA_64, oA_64, qA_64, hAA_64⟩ := hdpA 18 _ 64 zy rfl rfl
    have qA_62 : Sl aA 62 (.int .u16 (dk[ix]!.toNat : Int)) := hdpA 15 _ 62 zy rfl rfl
    clear hbsA hdpA
    have hOA : Own wA base 74 1 v n ((dk.setIfInBounds ix dk[(a + ot)]!).toList.map u16v) := hOA
    refine op_store_own (vs := [(.int .u16 (dk[ix]!.toNat : Int))]) size74 (zC hNA rfl qA_64) (zC hNA rfl qA_62) rfl rfl rfl hOA hAA_64 (by have := hOA.1; simp at this ⊢; omega) ?_
    intro w_ hO_ E_
    exact obW_end rfl (hO_.cast rfl (set_arr (by first | omega | (simp only [Array.size_setIfInBounds, swp_sz, siftDown_size]; omega)))) E_
   intro a29 w29 hN29 hd29 hbs29 hph29 hO29 E29
   have hd29 := hd29.trans hd26
   have s29_0 := (hbs29 0 rfl).trans (zL hN26 rfl s26_0)
   have s29_1 := (hbs29 1 rfl).trans (zL hN26 rfl s26_1)
   have s29_6 := (hbs29 6 rfl).trans (zL hN26 rfl s26_6)
   have s29_7 := (hbs29 7 rfl).trans (zL hN26 rfl s26_7)
   have s29_8 := (hbs29 8 rfl).trans (zL hN26 rfl s26_8)
   have s29_9 := (hbs29 9 rfl).trans (zL hN26 rfl s26_9)
   clear hbs29 hph29
   have hO29 : Own w29 base 74 1 v n (((dk.setIfInBounds ix dk[(a + ot)]!).setIfInBounds (a + ot) dk[ix]!).toList.map u16v) := hO29
   have := E29.size
   have hs23 := hs23.keepO hO18 E29 zz
   have hb := grow_stepX hb E29 rfl
   refine hK21 _ _ (zH ?_)
   refine zG (zC hN29 rfl s29_9) ?_
   refine op_add (zA hN29 rfl) rfl (add64 zx) ?_
   refine zD (zA hN29 rfl) ?_
   refine zB ?_
   -- round 15T 33T
   exact zg _ hN29 hd29 ⟨(ix + 1), rx23, _, rfl, (zL hN29 rfl s29_0), (zL hN29 rfl s29_1), (zL hN29 rfl s29_6), (zL hN29 rfl s29_7), (zL hN29 rfl s29_8), (zU hN29 rfl).trans (congrArg (Value.int .i64) zx), (by first | assumption | (simp only [Array.size_setIfInBounds, swp_sz, siftDown_size]; assumption)), zx, (hpi.tr (PI.swp zx zx zx zx (by first | omega | (simp only [Array.size_setIfInBounds, swp_sz]; omega)))), hb, zx, hs23, hO29⟩ zx
  refine zB ?_
  refine hK20 _ _ (wp_cond_false (zA hN17 rfl) (wp_exit (then_exit (then_exit (blk_hit ?_)))))
  refine end_ret ?_
  refine ret0 rfl hd17  ⟨_, rfl, ?_⟩
  exact ⟨hb, rfl, _, hpi, hO18⟩
 refine zB ?_
 refine hK2 _ _ (wp_cond_false (zA hN rfl) (wp_skip (end_ret ?_)))
 refine ret0 rfl hd  ⟨_, rfl, ?_⟩
 exact ⟨hb, rfl, _, PI.rfl' _ _ _, O⟩
open Go.Sort (insertionSort insOuter insInner swp siftDown heapSort heapBuild heapPop scanUp scanDown partition partLoop partitionEqual partEqLoop scanSorted partialIns bitsLen partialInsertionSort shiftDown shiftUp SortedIn reverseRange reverseLoop fixDown fixUp)
def PdqIH (z : Nat) (v : Value) (n base : Nat) : Prop := ∀ (d : Ar) (a b lim : Nat) (w : World), d.size = n → a ≤ b → b ≤ n → lim ≤ 100 → b - a < z → Go.Sort.Below ltT a b d → Own w base 74 1 v n (d.toList.map u16v) → Ret Try.prog 123 #[v, .int .i64 (a : Int), .int .i64 (b : Int), .int .i64 (lim : Int)] w (fun v' w' => w.grownBy w' v.ownBlock ∧ v' = .tuple #[] ∧ ∃ d', PI a b d d' ∧ SortedIn ltT a b d' ∧ Own w' base 74 1 v n (d'.toList.map u16v))

set_option maxHeartbeats 4000000 in
theorem pdqW_step (z : Nat) (v : Value) (n base : Nat) (hn : n ≤ 4000000000000000000) (ih : PdqIH z v n base) (d : Ar) (a b lim : Nat) (w : World) (hd : d.size = n) (hab : a ≤ b) (hbn : b ≤ n) (hlim : lim ≤ 100) (hz : b - a = z) (hB : Go.Sort.Below ltT a b d) (O : Own w base 74 1 v n (d.toList.map u16v)) : Ret Try.prog 123 #[v, (.int .i64 ((a : Nat) : Int)), (.int .i64 ((b : Nat) : Int)), (.int .i64 ((lim : Nat) : Int))] w (fun v' w' => w.grownBy w' v.ownBlock ∧ v' = .tuple #[] ∧ ∃ d', PI a b d d' ∧ SortedIn ltT a b d' ∧ Own w' base 74 1 v n (d'.toList.map u16v)) := by
 have hb := grown_refl w v.ownBlock
 refine enter (N := 134) Try.func123 rfl rfl (by simp) fun a0 hN hd hA => ?_
 have s0 : a0.tmps.getD 0 undef = v := hA 0 (by simp)
 have s1 : a0.tmps.getD 1 undef = (.int .i64 ((a : Nat) : Int)) := hA 1 (by simp)
 have s2 : a0.tmps.getD 2 undef = (.int .i64 ((b : Nat) : Int)) := hA 2 (by simp)
 have s3 : a0.tmps.getD 3 undef = (.int .i64 ((lim : Nat) : Int)) := hA 3 (by simp)
 clear hA
 refine zF fun K1 hK1 => ?_
 refine zH ?_
 refine zD rfl ?_
 refine zB ?_
 refine hK1 _ _ (zF fun K2 hK2 => ?_)
 refine zH ?_
 refine zD rfl ?_
 refine zB ?_
 refine hK2 _ _ (wp_block ?_)
 refine loop_m (fun mz_ az_ w' => ∃ (x y lm : Nat) (wb wp : Bool) (dk : Ar), mz_ = (y - x) ∧ (az_.tmps.getD 0 undef = v) ∧ (az_.tmps.getD 1 undef = (.int .i64 ((x : Nat) : Int))) ∧ (az_.tmps.getD 2 undef = (.int .i64 ((y : Nat) : Int))) ∧ (az_.tmps.getD 3 undef = (.int .i64 ((lm : Nat) : Int))) ∧ (az_.tmps.getD 8 undef = (.bool wb)) ∧ (az_.tmps.getD 9 undef = (.bool wp)) ∧ (dk.size = n) ∧ (lm ≤ lim) ∧ (Inv a b x y d dk) ∧ (w.grownBy w' v.ownBlock) ∧ (w.heap.size ≤ w'.heap.size) ∧ (Own w' base 74 1 v n (dk.toList.map u16v))) _ hN hd ⟨a, b, lim, true, true, _, rfl, (zL hN rfl s0), (zL hN rfl s1).trans (congrArg (Value.int .i64) zx), (zL hN rfl s2).trans (congrArg (Value.int .i64) zx), (zL hN rfl s3).trans (congrArg (Value.int .i64) zx), (zU hN rfl), (zU hN rfl), (by first | assumption | (simp only [Array.size_setIfInBounds, swp_sz, siftDown_size]; assumption)), Nat.le_refl _, (Inv.start hB hab zx), hb, (Nat.le_refl _), O⟩ ?_
 rintro _ a3 w3 hN3 hd3 ⟨x, y, lm, wb, wp, dk, rfl, s3_0, s3_1, s3_2, s3_3, s3_8, s3_9, hdk, hlm, hinv, hb, zl_w3, hO4⟩
 have := hb.size
 refine wp_block ?_
 refine zF fun K5 hK5 => ?_
 refine zH ?_
 have hrg := hinv.rng
 have hzk := hinv.sz
 refine zG (zC hN3 rfl s3_2) ?_
 refine zG (zC hN3 rfl s3_1) ?_
 refine op_sub (r := (((y - x) : Nat) : Int)) (zA hN3 rfl) (zA hN3 rfl) (by rw [IntKind.wrap_i64]; omega) ?_
 refine zD (zA hN3 rfl) ?_
 refine zB ?_
 refine hK5 _ _ (zF fun K6 hK6 => ?_)
 refine zF fun K7 hK7 => ?_
 refine zH ?_
 refine zG (zA hN3 rfl) ?_
 refine op_leq (zA hN3 rfl) rfl (fun c23 => ?_) (fun c23 => ?_)
 ·
  refine zB ?_
  refine hK7 _ _ (wp_cond_true (zA hN3 rfl) (zF fun K8 hK8 => ?_))
  refine zH ?_
  refine zG (zC hN3 rfl s3_0) ?_
  refine zG (zC hN3 rfl s3_1) ?_
  refine zG (zC hN3 rfl s3_2) ?_
  refine zj ok126 (insSort_ret dk _ _ _ x y _ (by first | assumption | (simp only [Array.size_setIfInBounds, swp_sz, siftDown_size]; assumption)) zx hO4 zx zx) ⟨(zA hN3 rfl), ⟨(zA hN3 rfl), ⟨(zA hN3 rfl), trivial⟩⟩⟩ ?_
  rintro _ w10 ⟨E11, rfl, hO9⟩
  have := E11.size
  have hb := grow_stepX hb E11 rfl
  refine zB ?_
  refine hK8 _ _ (wp_ret (zO (zb (zO (zb ( ?_))))))
  refine ret0 rfl hd3  ⟨_, rfl, ?_⟩
  exact ⟨hb, rfl, _, hinv.ins.1, hinv.ins.2, hO9⟩
 refine zB ?_
 refine hK7 _ _ (wp_cond_false (zA hN3 rfl) (wp_skip (hK6 _ _ (zF fun K12 hK12 => ?_))))
 refine zF fun K13 hK13 => ?_
 refine zH ?_
 refine zG (zC hN3 rfl s3_3) ?_
 refine op_eql (zA hN3 rfl) rfl (fun c29 => ?_) (fun c29 => ?_)
 ·
  refine zB ?_
  refine hK13 _ _ (wp_cond_true (zA hN3 rfl) (zF fun K14 hK14 => ?_))
  refine zH ?_
  refine zG (zC hN3 rfl s3_0) ?_
  refine zG (zC hN3 rfl s3_1) ?_
  refine zG (zC hN3 rfl s3_2) ?_
  refine ze (vs := [v, (.int .i64 ((x : Nat) : Int)), (.int .i64 ((y : Nat) : Int))]) ok127 ⟨(zA hN3 rfl), ⟨(zA hN3 rfl), ⟨(zA hN3 rfl), trivial⟩⟩⟩ (heapW_ret dk _ _ _ x y _ (by first | assumption | (simp only [Array.size_setIfInBounds, swp_sz, siftDown_size]; assumption)) zx hO4 zx zx) ?_
  rintro _ w16 ⟨E17, rfl, hO15⟩
  have := E17.size
  have hb := grow_stepX hb E17 rfl
  refine zB ?_
  refine hK14 _ _ (wp_ret (zO (zb (zO (zb ( ?_))))))
  refine ret0 rfl hd3  ⟨_, rfl, ?_⟩
  exact ⟨hb, rfl, _, hinv.heap.1, hinv.heap.2, hO15⟩
 refine zB ?_
 refine hK13 _ _ (wp_cond_false (zA hN3 rfl) (wp_skip (hK12 _ _ (seq_join1 (N := 134) (fun az_ w' => ∃ (d1 : Ar) (l1 : Nat), (az_.tmps.getD 0 undef = v) ∧ (az_.tmps.getD 1 undef = (.int .i64 ((x : Nat) : Int))) ∧ (az_.tmps.getD 2 undef = (.int .i64 ((y : Nat) : Int))) ∧ (az_.tmps.getD 8 undef = (.bool wb)) ∧ (az_.tmps.getD 9 undef = (.bool wp)) ∧ (az_.tmps.getD 10 undef = (.int .i64 (((y - x) : Nat) : Int))) ∧ (az_.tmps.getD 3 undef = (.int .i64 ((l1 : Nat) : Int))) ∧ (l1 ≤ lm) ∧ (Inv a b x y d d1) ∧ (d1.size = n) ∧ (w.grownBy w' v.ownBlock) ∧ (w3.heap.size ≤ w'.heap.size) ∧ (Own w' base 74 1 v n (d1.toList.map u16v))) (fun hJ18 => ?_) ?_))))
 ·
  refine zF fun K20 hK20 => ?_
  refine zF fun K21 hK21 => ?_
  refine zH ?_
  refine zG (zC hN3 rfl s3_8) ?_
  refine op_not (zA hN3 rfl) ?_
  refine zB ?_
  refine hK21 _ _ (wp_cond_split (zA hN3 rfl) (fun c35 => ?_) (fun c35 => ?_))
  ·
   refine zF fun K22 hK22 => ?_
   refine zH ?_
   refine zG (zC hN3 rfl s3_0) ?_
   refine zG (zC hN3 rfl s3_1) ?_
   refine zG (zC hN3 rfl s3_2) ?_
   refine zj ok128 (bpW_ret dk _ _ _ x y _ (by first | assumption | (simp only [Array.size_setIfInBounds, swp_sz, siftDown_size]; assumption)) zx hO4 zx zx) ⟨(zA hN3 rfl), ⟨(zA hN3 rfl), ⟨(zA hN3 rfl), trivial⟩⟩⟩ ?_
   rintro _ w24 ⟨E25, rfl, dd23, hpi23, hO23⟩
   have := E25.size
   have hb := grow_stepX hb E25 rfl
   have hz23 : dd23.size = n := by first | exact (PI.sz hpi23).trans (by assumption) | (have hq := PI.sz hpi23; simp only [Array.size_setIfInBounds, swp_sz] at hq; omega)
   refine zB ?_
   refine hK22 _ _ (zH ?_)
   refine zG (zC hN3 rfl s3_3) ?_
   refine op_sub (r := (((lm - 1) : Nat) : Int)) (zA hN3 rfl) rfl (by rw [IntKind.wrap_i64]; omega) ?_
   refine zD (zA hN3 rfl) ?_
   refine zB ?_
   refine hK20 _ _ ?_
   exact hJ18 _ _ _ hN3 hd3 ⟨_, (lm - 1), (zL hN3 rfl s3_0), (zL hN3 rfl s3_1), (zL hN3 rfl s3_2), (zL hN3 rfl s3_8), (zL hN3 rfl s3_9), (zU hN3 rfl), (zU hN3 rfl).trans (congrArg (Value.int .i64) zx), zx, (hinv.perm hpi23), (by first | assumption | (simp only [Array.size_setIfInBounds, swp_sz, siftDown_size]; assumption)), hb, zx, hO23⟩
  refine wp_skip (hK20 _ _ ?_)
  exact hJ18 _ _ _ hN3 hd3 ⟨_, lm, (zL hN3 rfl s3_0), (zL hN3 rfl s3_1), (zL hN3 rfl s3_2), (zL hN3 rfl s3_8), (zL hN3 rfl s3_9), (zU hN3 rfl), (zL hN3 rfl s3_3).trans (congrArg (Value.int .i64) zx), zx, hinv, (by first | assumption | (simp only [Array.size_setIfInBounds, swp_sz, siftDown_size]; assumption)), hb, zx, hO4⟩
 rintro a18 w18 hN18 hd18 ⟨d1, l1, s18_0, s18_1, s18_2, s18_8, s18_9, s18_10, s18_3, hl1, hi1, hz1, hb, zl_w18, hO19⟩
 have := hb.size
 refine zF fun K26 hK26 => ?_
 refine zH ?_
 refine zG (zC hN18 rfl s18_0) ?_
 refine zG (zC hN18 rfl s18_1) ?_
 refine zG (zC hN18 rfl s18_2) ?_
 refine zj ok129 (choosePW_ret d1 v _ x y _ (by first | assumption | (simp only [Array.size_setIfInBounds, swp_sz, siftDown_size]; assumption)) zx (hO19.rdw.mono (Nat.zero_le _) (Nat.le_refl _)) zx zx) ⟨(zA hN18 rfl), ⟨(zA hN18 rfl), ⟨(zA hN18 rfl), trivial⟩⟩⟩ ?_
 rintro _ w28 ⟨E29, pv27, hn27, rfl, hx27, hy27⟩
 have E29 := zQ E29
 have := E29.size
 have hO19 := hO19.keep0 E29
 have hb := grow_step0 hb E29
 refine zG (zA hN18 rfl) ?_
 refine zW (zA hN18 rfl) rfl ?_
 refine zW (zA hN18 rfl) rfl ?_
 refine zD (zA hN18 rfl) ?_
 refine zD (zA hN18 rfl) ?_
 refine zB ?_
 refine hK26 _ _ (seq_join1 (N := 134) (fun az_ w' => ∃ (d2 : Ar) (pv2 : Nat) (hn2 : Int), (az_.tmps.getD 0 undef = v) ∧ (az_.tmps.getD 1 undef = (.int .i64 ((x : Nat) : Int))) ∧ (az_.tmps.getD 2 undef = (.int .i64 ((y : Nat) : Int))) ∧ (az_.tmps.getD 3 undef = (.int .i64 ((l1 : Nat) : Int))) ∧ (az_.tmps.getD 8 undef = (.bool wb)) ∧ (az_.tmps.getD 9 undef = (.bool wp)) ∧ (az_.tmps.getD 10 undef = (.int .i64 (((y - x) : Nat) : Int))) ∧ (az_.tmps.getD 11 undef = (.int .i64 ((pv2 : Nat) : Int))) ∧ (az_.tmps.getD 12 undef = (.int .i64 hn2)) ∧ (x ≤ pv2 ∧ pv2 < y) ∧ (Inv a b x y d d2) ∧ (d2.size = n) ∧ (w.grownBy w' v.ownBlock) ∧ (w28.heap.size ≤ w'.heap.size) ∧ (Own w' base 74 1 v n (d2.toList.map u16v))) (fun hJ30 => ?_) ?_)
 ·
  refine zF fun K32 hK32 => ?_
  refine zF fun K33 hK33 => ?_
  refine zH ?_
  refine zG (zA hN18 rfl) ?_
  refine op_eql (zA hN18 rfl) rfl (fun c50 => ?_) (fun c50 => ?_)
  ·
   refine zB ?_
   refine hK33 _ _ (wp_cond_true (zA hN18 rfl) (zF fun K34 hK34 => ?_))
   refine zH ?_
   refine zG (zC hN18 rfl s18_0) ?_
   refine zG (zC hN18 rfl s18_1) ?_
   refine zG (zC hN18 rfl s18_2) ?_
   refine zj ok130 (revW_ret d1 _ _ _ x y _ (by first | assumption | (simp only [Array.size_setIfInBounds, swp_sz, siftDown_size]; assumption)) zx hO19 zx zx) ⟨(zA hN18 rfl), ⟨(zA hN18 rfl), ⟨(zA hN18 rfl), trivial⟩⟩⟩ ?_
   rintro _ w36 ⟨E37, rfl, hO35⟩
   have := E37.size
   have hb := grow_stepX hb E37 rfl
   refine zB ?_
   refine hK34 _ _ (zF fun K38 hK38 => ?_)
   refine zH ?_
   refine zG (zC hN18 rfl s18_2) ?_
   refine op_sub (r := (((y - 1) : Nat) : Int)) (zA hN18 rfl) rfl (by rw [IntKind.wrap_i64]; omega) ?_
   refine zG (zA hN18 rfl) ?_
   refine zG (zC hN18 rfl s18_1) ?_
   refine op_sub (r := (((pv27 - x) : Nat) : Int)) (zA hN18 rfl) (zA hN18 rfl) (by rw [IntKind.wrap_i64]; omega) ?_
   refine op_sub (r := (((y - 1 - (pv27 - x)) : Nat) : Int)) (zA hN18 rfl) (zA hN18 rfl) (by rw [IntKind.wrap_i64]; omega) ?_
   refine zD (zA hN18 rfl) ?_
   refine zB ?_
   refine hK38 _ _ (zH ?_)
   refine zD rfl ?_
   refine zB ?_
   refine hK32 _ _ ?_
   exact hJ30 _ _ _ hN18 hd18 ⟨_, (y - 1 - (pv27 - x)), _, (zL hN18 rfl s18_0), (zL hN18 rfl s18_1), (zL hN18 rfl s18_2), (zL hN18 rfl s18_3), (zL hN18 rfl s18_8), (zL hN18 rfl s18_9), (zL hN18 rfl s18_10), (zU hN18 rfl).trans (congrArg (Value.int .i64) zx), (zU hN18 rfl), zx, hi1.rev, (by rw [Inv.sz (by first | exact hi1.rev | exact hi1)]; assumption), hb, zx, hO35⟩
  refine zB ?_
  refine hK33 _ _ (wp_cond_false (zA hN18 rfl) (wp_skip (hK32 _ _ ?_)))
  exact hJ30 _ _ _ hN18 hd18 ⟨_, pv27, _, (zL hN18 rfl s18_0), (zL hN18 rfl s18_1), (zL hN18 rfl s18_2), (zL hN18 rfl s18_3), (zL hN18 rfl s18_8), (zL hN18 rfl s18_9), (zL hN18 rfl s18_10), (zU hN18 rfl).trans (congrArg (Value.int .i64) zx), (zU hN18 rfl), zx, hi1, (by rw [Inv.sz (by first | exact hi1.rev | exact hi1)]; assumption), hb, zx, hO19⟩
 rintro a30 w30 hN30 hd30 ⟨d2, pv2, hn2, s30_0, s30_1, s30_2, s30_3, s30_8, s30_9, s30_10, s30_11, s30_12, hp2, hi2, hz2, hb, zl_w30, hO31⟩
 have := hb.size
 refine seq_join1 (N := 134) (fun az_ w' => ∃ (d3 : Ar), (az_.tmps.getD 0 undef = v) ∧ (az_.tmps.getD 1 undef = (.int .i64 ((x : Nat) : Int))) ∧ (az_.tmps.getD 2 undef = (.int .i64 ((y : Nat) : Int))) ∧ (az_.tmps.getD 3 undef = (.int .i64 ((l1 : Nat) : Int))) ∧ (az_.tmps.getD 8 undef = (.bool wb)) ∧ (az_.tmps.getD 9 undef = (.bool wp)) ∧ (az_.tmps.getD 10 undef = (.int .i64 (((y - x) : Nat) : Int))) ∧ (az_.tmps.getD 11 undef = (.int .i64 ((pv2 : Nat) : Int))) ∧ (Inv a b x y d d3) ∧ (d3.size = n) ∧ (w.grownBy w' v.ownBlock) ∧ (w30.heap.size ≤ w'.heap.size) ∧ (Own w' base 74 1 v n (d3.toList.map u16v))) (fun hJ39 => ?_) ?_
 ·
  refine zF fun K41 hK41 => ?_
  refine zF fun K42 hK42 => ?_
  refine zH ?_
  refine zG (zC hN30 rfl s30_8) ?_
  refine zG (zA hN30 rfl) ?_
  rcases Bool.eq_false_or_eq_true (wb) with g62 | g62
  ·
   rw [g62]
   refine zS (j := 1) (dj := 62) (b := true) rfl rfl rfl (zA hN30 rfl) ?_
   refine zG (zC hN30 rfl s30_9) ?_
   refine zc (zA hN30 rfl) (zA hN30 rfl) ?_
   refine zG (zA hN30 rfl) ?_
   rcases Bool.eq_false_or_eq_true (wp) with g65 | g65
   ·
    rw [g65]
    refine zS (j := 4) (dj := 65) (b := true) rfl rfl rfl (zA hN30 rfl) ?_
    refine zG (zC hN30 rfl s30_12) ?_
    refine zS (j := 4) (dj := 65) (b := true) rfl rfl rfl (zA hN30 rfl) ?_
    refine op_eql (zA hN30 rfl) rfl (fun c67 => ?_) (fun c67 => ?_)
    ·
     refine zc (zA hN30 rfl) (zA hN30 rfl) ?_
     refine zB ?_
     refine hK42 _ _ (wp_cond_true (zA hN30 rfl) (zF fun K43 hK43 => ?_))
     refine zH ?_
     refine zG (zC hN30 rfl s30_0) ?_
     refine zG (zC hN30 rfl s30_1) ?_
     refine zG (zC hN30 rfl s30_2) ?_
     refine zj ok131 (partialW_ret d2 _ _ _ x y _ (by first | assumption | (simp only [Array.size_setIfInBounds, swp_sz, siftDown_size]; assumption)) zx hO31 zx zx) ⟨(zA hN30 rfl), ⟨(zA hN30 rfl), ⟨(zA hN30 rfl), trivial⟩⟩⟩ ?_
     rintro _ w45 ⟨E46, rfl, hO44⟩
     have := E46.size
     have hb := grow_stepX hb E46 rfl
     rcases Bool.eq_false_or_eq_true ((partialInsertionSort ltT d2 x y).2) with c72 | c72
     ·
      rw [c72]
      refine zB ?_
      refine hK43 _ _ (wp_cond_true (zA hN30 rfl) (wp_ret (zO (zb (zO (zb ( ?_)))))))
      refine ret0 rfl hd30  ⟨_, rfl, ?_⟩
      exact ⟨hb, rfl, _, ((hi2.pins zx).2 (by first | assumption | simpa using c72)).1, ((hi2.pins zx).2 (by first | assumption | simpa using c72)).2, hO44⟩
     rw [c72]
     refine zB ?_
     refine hK43 _ _ (wp_cond_false (zA hN30 rfl) (wp_skip (hK41 _ _ ?_)))
     exact hJ39 _ _ _ hN30 hd30 ⟨_, (zL hN30 rfl s30_0), (zL hN30 rfl s30_1), (zL hN30 rfl s30_2), (zL hN30 rfl s30_3), (zL hN30 rfl s30_8), (zL hN30 rfl s30_9), (zL hN30 rfl s30_10), (zL hN30 rfl s30_11), (hi2.pins zx).1, (by rw [Inv.sz (by first | exact (hi2.pins zx).1 | exact hi2)]; assumption), hb, zx, hO44⟩
    refine zc (zA hN30 rfl) (zA hN30 rfl) ?_
    refine zB ?_
    refine hK42 _ _ (wp_cond_false (zA hN30 rfl) (wp_skip (hK41 _ _ ?_)))
    exact hJ39 _ _ _ hN30 hd30 ⟨_, (zL hN30 rfl s30_0), (zL hN30 rfl s30_1), (zL hN30 rfl s30_2), (zL hN30 rfl s30_3), (zL hN30 rfl s30_8), (zL hN30 rfl s30_9), (zL hN30 rfl s30_10), (zL hN30 rfl s30_11), hi2, (by rw [Inv.sz (by first | exact (hi2.pins zx).1 | exact hi2)]; assumption), hb, zx, hO31⟩
   rw [g65]
   refine zR (j := 4) (dj := 65) (b := true) rfl rfl rfl (zA hN30 rfl) rfl rfl ?_
   refine zR (j := 4) (dj := 65) (b := true) rfl rfl rfl (zA hN30 rfl) rfl rfl ?_
   refine zd (zA hN30 rfl) rfl ?_
   refine zB ?_
   refine hK42 _ _ (wp_cond_false (zA hN30 rfl) (wp_skip (hK41 _ _ ?_)))
   exact hJ39 _ _ _ hN30 hd30 ⟨_, (zL hN30 rfl s30_0), (zL hN30 rfl s30_1), (zL hN30 rfl s30_2), (zL hN30 rfl s30_3), (zL hN30 rfl s30_8), (zL hN30 rfl s30_9), (zL hN30 rfl s30_10), (zL hN30 rfl s30_11), hi2, (by rw [Inv.sz (by first | exact (hi2.pins zx).1 | exact hi2)]; assumption), hb, zx, hO31⟩
  rw [g62]
  refine zR (j := 1) (dj := 62) (b := true) rfl rfl rfl (zA hN30 rfl) rfl rfl ?_
  refine zd (zA hN30 rfl) rfl ?_
  refine zG (zA hN30 rfl) ?_
  refine zR (j := 4) (dj := 65) (b := true) rfl rfl rfl (zA hN30 rfl) rfl rfl ?_
  refine zR (j := 4) (dj := 65) (b := true) rfl rfl rfl (zA hN30 rfl) rfl rfl ?_
  refine zd (zA hN30 rfl) rfl ?_
  refine zB ?_
  refine hK42 _ _ (wp_cond_false (zA hN30 rfl) (wp_skip (hK41 _ _ ?_)))
  exact hJ39 _ _ _ hN30 hd30 ⟨_, (zL hN30 rfl s30_0), (zL hN30 rfl s30_1), (zL hN30 rfl s30_2), (zL hN30 rfl s30_3), (zL hN30 rfl s30_8), (zL hN30 rfl s30_9), (zL hN30 rfl s30_10), (zL hN30 rfl s30_11), hi2, (by rw [Inv.sz (by first | exact (hi2.pins zx).1 | exact hi2)]; assumption), hb, zx, hO31⟩
 rintro a39 w39 hN39 hd39 ⟨d3, s39_0, s39_1, s39_2, s39_3, s39_8, s39_9, s39_10, s39_11, hi3, hz3, hb, zl_w39, hO40⟩
 have := hb.size
 refine seq_join1 (N := 134) (fun az_ w' => (az_.tmps.getD 0 undef = v) ∧ (az_.tmps.getD 2 undef = (.int .i64 ((y : Nat) : Int))) ∧ (az_.tmps.getD 3 undef = (.int .i64 ((l1 : Nat) : Int))) ∧ (az_.tmps.getD 8 undef = (.bool wb)) ∧ (az_.tmps.getD 9 undef = (.bool wp)) ∧ (az_.tmps.getD 10 undef = (.int .i64 (((y - x) : Nat) : Int))) ∧ (az_.tmps.getD 11 undef = (.int .i64 ((pv2 : Nat) : Int))) ∧ (az_.tmps.getD 1 undef = (.int .i64 ((x : Nat) : Int))) ∧ (w.grownBy w' v.ownBlock) ∧ (w39.heap.size ≤ w'.heap.size) ∧ (Own w' base 74 1 v n (d3.toList.map u16v))) (fun hJ47 => ?_) ?_
 ·
  refine zF fun K48 hK48 => ?_
  refine zF fun K49 hK49 => ?_
  refine reg_still mixed zy ?_
  intro w51 E50
  have := E50.size
  have hO40 := hO40.keep0 E50
  have hb := grow_step0 hb E50
  refine st_step rfl (fun _ h9 => zG (zC hN39 rfl s39_1) h9) ?_
  by_cases g74 : 0 < ((x : Nat) : Int)
  ·
   refine st_step rfl (fun _ h9 => op_cmp (b := true) (zA hN39 rfl) rfl (b_gtr (decide_eq_true g74)) h9) ?_
   refine st_step rfl (fun _ h9 => zG (zA hN39 rfl) h9) ?_
   refine st_g_true (j := 2) (dj := 75) (b := true) rfl rfl rfl (zA hN39 rfl) ?_
   refine st_step rfl (fun _ h9 => zG (zC hN39 rfl s39_0) h9) ?_
   refine st_g_true (j := 2) (dj := 75) (b := true) rfl rfl rfl (zA hN39 rfl) ?_
   refine st_step rfl (fun _ h9 => zG (zC hN39 rfl s39_1) h9) ?_
   refine st_g_true (j := 2) (dj := 75) (b := true) rfl rfl rfl (zA hN39 rfl) ?_
   refine st_step rfl (fun _ h9 => op_sub (r := (((x - 1) : Nat) : Int)) (zA hN39 rfl) rfl (by rw [IntKind.wrap_i64]; omega) h9) ?_
   refine st_g_true (j := 2) (dj := 75) (b := true) rfl rfl rfl (zA hN39 rfl) ?_
   refine st_index_rd slt42 (zA hN39 rfl) hO40.rdw (zA hN39 rfl) zx zx ?_
   intro b52 o53 h0b52 h1b52 hc54
   refine st_g_true (j := 2) (dj := 75) (b := true) rfl rfl rfl (zA hN39 rfl) ?_
   refine st_step rfl (fun _ h9 => zN (v := (Value.int .u16 (d3[(x - 1)]!.toNat : Int))) one74 (zA hN39 rfl) (by have := hc54 0 (.int .u16 (d3[(x - 1)]!.toNat : Int)) zz (el_arr (i := (x - 1)) zx (by first | omega | (simp only [Array.size_setIfInBounds, swp_sz, siftDown_size]; omega))); simpa using this) h9) ?_
   refine st_g_true (j := 2) (dj := 75) (b := true) rfl rfl rfl (zA hN39 rfl) ?_
   refine st_step rfl (fun _ h9 => zG (zC hN39 rfl s39_0) h9) ?_
   refine st_g_true (j := 2) (dj := 75) (b := true) rfl rfl rfl (zA hN39 rfl) ?_
   refine st_step rfl (fun _ h9 => zG (zC hN39 rfl s39_11) h9) ?_
   refine st_g_true (j := 2) (dj := 75) (b := true) rfl rfl rfl (zA hN39 rfl) ?_
   refine st_index_rd slt42 (zA hN39 rfl) hO40.rdw (zA hN39 rfl) zx zx ?_
   intro b55 o56 h0b55 h1b55 hc57
   refine st_g_true (j := 2) (dj := 75) (b := true) rfl rfl rfl (zA hN39 rfl) ?_
   refine st_step rfl (fun _ h9 => zN (v := (Value.int .u16 (d3[pv2]!.toNat : Int))) one74 (zA hN39 rfl) (by have := hc57 0 (.int .u16 (d3[pv2]!.toNat : Int)) zz (el_arr (i := pv2) zx (by first | omega | (simp only [Array.size_setIfInBounds, swp_sz, siftDown_size]; omega))); simpa using this) h9) ?_
   refine st_g_true (j := 2) (dj := 75) (b := true) rfl rfl rfl (zA hN39 rfl) ?_
   refine st_fn (vs := [(.int .u16 (d3[(x - 1)]!.toNat : Int)), (.int .u16 (d3[pv2]!.toNat : Int))]) ok132 (⟨(zA hN39 rfl), ⟨(zA hN39 rfl), trivial⟩⟩) (Less16_ret d3[(x - 1)]! d3[pv2]! _) ?_
   refine st_g_true (j := 2) (dj := 75) (b := true) rfl rfl rfl (zA hN39 rfl) ?_
   refine st_step rfl (fun _ h9 => op_not (zA hN39 rfl) h9) ?_
   refine st_step rfl (fun _ h9 => zc (zA hN39 rfl) (zA hN39 rfl) h9) ?_
   refine st_nil ?_
   refine hK49 _ _ (wp_cond_split (zA hN39 rfl) (fun c87 => ?_) (fun c87 => ?_))
   ·
    refine zF fun K58 hK58 => ?_
    refine zH ?_
    have heq5 := hi3.equal hp2.1 hp2.2 zx (not_t c87)
    refine zG (zC hN39 rfl s39_0) ?_
    refine zG (zC hN39 rfl s39_1) ?_
    refine zG (zC hN39 rfl s39_2) ?_
    refine zG (zC hN39 rfl s39_11) ?_
    refine zj ok133 (partEqW_ret d3 _ _ _ x y pv2 _ (by first | assumption | (simp only [Array.size_setIfInBounds, swp_sz, siftDown_size]; assumption)) zx hO40 zx zx zx) ⟨(zA hN39 rfl), ⟨(zA hN39 rfl), ⟨(zA hN39 rfl), ⟨(zA hN39 rfl), trivial⟩⟩⟩⟩ ?_
    rintro _ w61 ⟨E62, rfl, hO60⟩
    have := E62.size
    have hb := grow_stepX hb E62 rfl
    refine zD (zA hN39 rfl) ?_
    refine zB ?_
    refine hK58 _ _ (zF fun K63 hK63 => ?_)
    refine zH ?_
    refine zG (zA hN39 rfl) ?_
    refine zD (zA hN39 rfl) ?_
    refine zB ?_
    refine hK63 _ _ (wp_exit (then_exit (blk_hit ?_)))
    -- round 23F 29F 74T 87T
    have hinv5 := heq5.2
    have hz5 : (partitionEqual ltT d3 x y pv2).2.size = n := by rw [Inv.sz hinv5]; assumption
    exact zg _ hN39 hd39 ⟨(partitionEqual ltT d3 x y pv2).1, y, l1, wb, wp, _, rfl, (zL hN39 rfl s39_0), (zU hN39 rfl).trans (congrArg (Value.int .i64) zx), (zL hN39 rfl s39_2).trans (congrArg (Value.int .i64) zx), (zL hN39 rfl s39_3).trans (congrArg (Value.int .i64) zx), (zL hN39 rfl s39_8), (zL hN39 rfl s39_9), (by first | assumption | (simp only [Array.size_setIfInBounds, swp_sz, siftDown_size]; assumption)), zx, hinv5, hb, zx, hO60⟩ zx
   refine wp_skip (hK48 _ _ ?_)
   exact hJ47 _ _ _ hN39 hd39 ⟨(zL hN39 rfl s39_0), (zL hN39 rfl s39_2), (zL hN39 rfl s39_3), (zL hN39 rfl s39_8), (zL hN39 rfl s39_9), (zL hN39 rfl s39_10), (zL hN39 rfl s39_11), (zL hN39 rfl s39_1), hb, zx, hO40⟩
  refine st_step rfl (fun _ h9 => op_cmp (b := false) (zA hN39 rfl) rfl (b_gtr (decide_eq_false g74)) h9) ?_
  refine st_step rfl (fun _ h9 => zG (zA hN39 rfl) h9) ?_
  refine st_g_false (j := 2) (dj := 75) (b := true) rfl rfl rfl (zA hN39 rfl) rfl rfl ?_
  refine st_g_false (j := 2) (dj := 75) (b := true) rfl rfl rfl (zA hN39 rfl) rfl rfl ?_
  refine st_g_false (j := 2) (dj := 75) (b := true) rfl rfl rfl (zA hN39 rfl) rfl rfl ?_
  refine st_g_false (j := 2) (dj := 75) (b := true) rfl rfl rfl (zA hN39 rfl) rfl rfl ?_
  refine st_g_false (j := 2) (dj := 75) (b := true) rfl rfl rfl (zA hN39 rfl) rfl rfl ?_
  refine st_g_false (j := 2) (dj := 75) (b := true) rfl rfl rfl (zA hN39 rfl) rfl rfl ?_
  refine st_g_false (j := 2) (dj := 75) (b := true) rfl rfl rfl (zA hN39 rfl) rfl rfl ?_
  refine st_g_false (j := 2) (dj := 75) (b := true) rfl rfl rfl (zA hN39 rfl) rfl rfl ?_
  refine st_g_false (j := 2) (dj := 75) (b := true) rfl rfl rfl (zA hN39 rfl) rfl rfl ?_
  refine st_g_false (j := 2) (dj := 75) (b := true) rfl rfl rfl (zA hN39 rfl) rfl rfl ?_
  refine st_g_false (j := 2) (dj := 75) (b := true) rfl rfl rfl (zA hN39 rfl) rfl rfl ?_
  refine st_step rfl (fun _ h9 => zd (zA hN39 rfl) rfl h9) ?_
  refine st_nil ?_
  refine hK49 _ _ (wp_cond_false (zA hN39 rfl) (wp_skip (hK48 _ _ ?_)))
  exact hJ47 _ _ _ hN39 hd39 ⟨(zL hN39 rfl s39_0), (zL hN39 rfl s39_2), (zL hN39 rfl s39_3), (zL hN39 rfl s39_8), (zL hN39 rfl s39_9), (zL hN39 rfl s39_10), (zL hN39 rfl s39_11), (zL hN39 rfl s39_1), hb, zx, hO40⟩
 rintro a47 w47 hN47 hd47 ⟨s47_0, s47_2, s47_3, s47_8, s47_9, s47_10, s47_11, s47_1, hb, zl_w47, hO40⟩
 have := hb.size
 refine zF fun K64 hK64 => ?_
 refine zH ?_
 have hpt := hi3.part hp2.1 hp2.2
 refine zG (zC hN47 rfl s47_0) ?_
 refine zG (zC hN47 rfl s47_1) ?_
 refine zG (zC hN47 rfl s47_2) ?_
 refine zG (zC hN47 rfl s47_11) ?_
 refine zj ok134 (partW_ret d3 _ _ _ x y pv2 _ (by first | assumption | (simp only [Array.size_setIfInBounds, swp_sz, siftDown_size]; assumption)) zx hO40 zx zx zx) ⟨(zA hN47 rfl), ⟨(zA hN47 rfl), ⟨(zA hN47 rfl), ⟨(zA hN47 rfl), trivial⟩⟩⟩⟩ ?_
 rintro _ w66 ⟨E67, rfl, hO65⟩
 have := E67.size
 have hb := grow_stepX hb E67 rfl
 refine zG (zA hN47 rfl) ?_
 refine zW (zA hN47 rfl) rfl ?_
 refine zW (zA hN47 rfl) rfl ?_
 refine zD (zA hN47 rfl) ?_
 refine zD (zA hN47 rfl) ?_
 refine zB ?_
 refine hK64 _ _ (zF fun K68 hK68 => ?_)
 refine zH ?_
 refine zG (zA hN47 rfl) ?_
 refine zD (zA hN47 rfl) ?_
 refine zB ?_
 refine hK68 _ _ (zF fun K69 hK69 => ?_)
 refine zH ?_
 refine zG (zA hN47 rfl) ?_
 refine zG (zC hN47 rfl s47_1) ?_
 refine op_sub (r := ((((partition ltT d3 x y pv2).1 - x) : Nat) : Int)) (zA hN47 rfl) (zA hN47 rfl) (by rw [IntKind.wrap_i64]; omega) ?_
 refine zG (zC hN47 rfl s47_2) ?_
 refine zG (zA hN47 rfl) ?_
 refine op_sub (r := (((y - (partition ltT d3 x y pv2).1) : Nat) : Int)) (zA hN47 rfl) (zA hN47 rfl) (by rw [IntKind.wrap_i64]; omega) ?_
 refine zD (zA hN47 rfl) ?_
 refine zD (zA hN47 rfl) ?_
 refine zB ?_
 refine hK69 _ _ (zF fun K70 hK70 => ?_)
 refine zH ?_
 refine zG (zC hN47 rfl s47_10) ?_
 refine op_quo (r := ((((y - x) / 8) : Nat) : Int)) (zA hN47 rfl) rfl zz (by rw [IntKind.wrap_i64, Int.tdiv_eq_ediv_of_nonneg zx]; omega) ?_
 refine zD (zA hN47 rfl) ?_
 refine zB ?_
 refine hK70 _ _ (zF fun K71 hK71 => ?_)
 refine zH ?_
 refine zG (zA hN47 rfl) ?_
 refine zG (zA hN47 rfl) ?_
 refine op_lss (zA hN47 rfl) (zA hN47 rfl) (fun c113 => ?_) (fun c113 => ?_)
 ·
  refine zB ?_
  refine hK71 _ _ (wp_cond_true (zA hN47 rfl) (zF fun K72 hK72 => ?_))
  refine zH ?_
  refine zG (zA hN47 rfl) ?_
  refine zG (zA hN47 rfl) ?_
  refine op_geq (zA hN47 rfl) (zA hN47 rfl) (fun c116 => ?_) (fun c116 => ?_)
  ·
   refine zD (zA hN47 rfl) ?_
   refine zB ?_
   refine hK72 _ _ (zF fun K73 hK73 => ?_)
   refine zH ?_
   have hbl := hpt.2.2.2.1
   have hmz : (partition ltT d3 x y pv2).1 - x < z := by omega
   refine zG (zC hN47 rfl s47_0) ?_
   refine zG (zC hN47 rfl s47_1) ?_
   refine zG (zA hN47 rfl) ?_
   refine zG (zC hN47 rfl s47_3) ?_
   refine zj ok123 (ih (partition ltT d3 x y pv2).2.2 x ((partition ltT d3 x y pv2).1) l1 _ (hpt.2.2.1.trans hz3) zx zx zx zx hbl hO65) ⟨(zA hN47 rfl), ⟨(zA hN47 rfl), ⟨(zA hN47 rfl), ⟨(zA hN47 rfl), trivial⟩⟩⟩⟩ ?_
   rintro _ w75 ⟨E76, rfl, dd74, hpi74, hso74, hO74⟩
   have := E76.size
   have hb := grow_stepX hb E76 rfl
   refine zB ?_
   refine hK73 _ _ (zH ?_)
   refine zG (zA hN47 rfl) ?_
   refine op_add (r := ((((partition ltT d3 x y pv2).1 + 1) : Nat) : Int)) (zA hN47 rfl) rfl (by rw [IntKind.wrap_i64]; omega) ?_
   refine zD (zA hN47 rfl) ?_
   refine zB ?_
   refine blk_normal ?_
   -- round 23F 29F 113T 116T
   have hinv5 := hpt.2.2.2.2.2.1 _ hpi74 hso74
   have hz5 : dd74.size = n := by rw [Inv.sz hinv5]; assumption
   exact zg _ hN47 hd47 ⟨((partition ltT d3 x y pv2).1 + 1), y, l1, true, (partition ltT d3 x y pv2).2.1, _, rfl, (zL hN47 rfl s47_0), (zU hN47 rfl).trans (congrArg (Value.int .i64) zx), (zL hN47 rfl s47_2).trans (congrArg (Value.int .i64) zx), (zL hN47 rfl s47_3).trans (congrArg (Value.int .i64) zx), (zU hN47 rfl), (zU hN47 rfl), (by first | assumption | (simp only [Array.size_setIfInBounds, swp_sz, siftDown_size]; assumption)), zx, hinv5, hb, zx, hO74⟩ zx
  refine zD (zA hN47 rfl) ?_
  refine zB ?_
  refine hK72 _ _ (zF fun K77 hK77 => ?_)
  refine zH ?_
  have hbl := hpt.2.2.2.1
  have hmz : (partition ltT d3 x y pv2).1 - x < z := by omega
  refine zG (zC hN47 rfl s47_0) ?_
  refine zG (zC hN47 rfl s47_1) ?_
  refine zG (zA hN47 rfl) ?_
  refine zG (zC hN47 rfl s47_3) ?_
  refine zj ok123 (ih (partition ltT d3 x y pv2).2.2 x ((partition ltT d3 x y pv2).1) l1 _ (hpt.2.2.1.trans hz3) zx zx zx zx hbl hO65) ⟨(zA hN47 rfl), ⟨(zA hN47 rfl), ⟨(zA hN47 rfl), ⟨(zA hN47 rfl), trivial⟩⟩⟩⟩ ?_
  rintro _ w79 ⟨E80, rfl, dd78, hpi78, hso78, hO78⟩
  have := E80.size
  have hb := grow_stepX hb E80 rfl
  refine zB ?_
  refine hK77 _ _ (zH ?_)
  refine zG (zA hN47 rfl) ?_
  refine op_add (r := ((((partition ltT d3 x y pv2).1 + 1) : Nat) : Int)) (zA hN47 rfl) rfl (by rw [IntKind.wrap_i64]; omega) ?_
  refine zD (zA hN47 rfl) ?_
  refine zB ?_
  refine blk_normal ?_
  -- round 23F 29F 113T 116F
  have hinv5 := hpt.2.2.2.2.2.1 _ hpi78 hso78
  have hz5 : dd78.size = n := by rw [Inv.sz hinv5]; assumption
  exact zg _ hN47 hd47 ⟨((partition ltT d3 x y pv2).1 + 1), y, l1, false, (partition ltT d3 x y pv2).2.1, _, rfl, (zL hN47 rfl s47_0), (zU hN47 rfl).trans (congrArg (Value.int .i64) zx), (zL hN47 rfl s47_2).trans (congrArg (Value.int .i64) zx), (zL hN47 rfl s47_3).trans (congrArg (Value.int .i64) zx), (zU hN47 rfl), (zU hN47 rfl), (by first | assumption | (simp only [Array.size_setIfInBounds, swp_sz, siftDown_size]; assumption)), zx, hinv5, hb, zx, hO78⟩ zx
 refine zB ?_
 refine hK71 _ _ (wp_cond_false (zA hN47 rfl) (zF fun K81 hK81 => ?_))
 refine zH ?_
 refine zG (zA hN47 rfl) ?_
 refine zG (zA hN47 rfl) ?_
 refine op_geq (zA hN47 rfl) (zA hN47 rfl) (fun c126 => ?_) (fun c126 => ?_)
 ·
  refine zD (zA hN47 rfl) ?_
  refine zB ?_
  refine hK81 _ _ (zF fun K82 hK82 => ?_)
  refine zH ?_
  have hbr := hpt.2.2.2.2.1
  have hmz : y - ((partition ltT d3 x y pv2).1 + 1) < z := by omega
  refine zG (zC hN47 rfl s47_0) ?_
  refine zG (zA hN47 rfl) ?_
  refine op_add (r := ((((partition ltT d3 x y pv2).1 + 1) : Nat) : Int)) (zA hN47 rfl) rfl (by rw [IntKind.wrap_i64]; omega) ?_
  refine zG (zC hN47 rfl s47_2) ?_
  refine zG (zC hN47 rfl s47_3) ?_
  refine zj ok123 (ih (partition ltT d3 x y pv2).2.2 ((partition ltT d3 x y pv2).1 + 1) y l1 _ (hpt.2.2.1.trans hz3) zx zx zx zx hbr hO65) ⟨(zA hN47 rfl), ⟨(zA hN47 rfl), ⟨(zA hN47 rfl), ⟨(zA hN47 rfl), trivial⟩⟩⟩⟩ ?_
  rintro _ w84 ⟨E85, rfl, dd83, hpi83, hso83, hO83⟩
  have := E85.size
  have hb := grow_stepX hb E85 rfl
  refine zB ?_
  refine hK82 _ _ (zH ?_)
  refine zG (zA hN47 rfl) ?_
  refine zD (zA hN47 rfl) ?_
  refine zB ?_
  refine blk_normal ?_
  -- round 23F 29F 113F 126T
  have hinv5 := hpt.2.2.2.2.2.2 _ hpi83 hso83
  have hz5 : dd83.size = n := by rw [Inv.sz hinv5]; assumption
  exact zg _ hN47 hd47 ⟨x, (partition ltT d3 x y pv2).1, l1, true, (partition ltT d3 x y pv2).2.1, _, rfl, (zL hN47 rfl s47_0), (zL hN47 rfl s47_1).trans (congrArg (Value.int .i64) zx), (zU hN47 rfl).trans (congrArg (Value.int .i64) zx), (zL hN47 rfl s47_3).trans (congrArg (Value.int .i64) zx), (zU hN47 rfl), (zU hN47 rfl), (by first | assumption | (simp only [Array.size_setIfInBounds, swp_sz, siftDown_size]; assumption)), zx, hinv5, hb, zx, hO83⟩ zx
 refine zD (zA hN47 rfl) ?_
 refine zB ?_
 refine hK81 _ _ (zF fun K86 hK86 => ?_)
 refine zH ?_
 have hbr := hpt.2.2.2.2.1
 have hmz : y - ((partition ltT d3 x y pv2).1 + 1) < z := by omega
 refine zG (zC hN47 rfl s47_0) ?_
 refine zG (zA hN47 rfl) ?_
 refine op_add (r := ((((partition ltT d3 x y pv2).1 + 1) : Nat) : Int)) (zA hN47 rfl) rfl (by rw [IntKind.wrap_i64]; omega) ?_
 refine zG (zC hN47 rfl s47_2) ?_
 refine zG (zC hN47 rfl s47_3) ?_
 refine zj ok123 (ih (partition ltT d3 x y pv2).2.2 ((partition ltT d3 x y pv2).1 + 1) y l1 _ (hpt.2.2.1.trans hz3) zx zx zx zx hbr hO65) ⟨(zA hN47 rfl), ⟨(zA hN47 rfl), ⟨(zA hN47 rfl), ⟨(zA hN47 rfl), trivial⟩⟩⟩⟩ ?_
 rintro _ w88 ⟨E89, rfl, dd87, hpi87, hso87, hO87⟩
 have := E89.size
 have hb := grow_stepX hb E89 rfl
 refine zB ?_
 refine hK86 _ _ (zH ?_)
 refine zG (zA hN47 rfl) ?_
 refine zD (zA hN47 rfl) ?_
 refine zB ?_
 refine blk_normal ?_
 -- round 23F 29F 113F 126F
 have hinv5 := hpt.2.2.2.2.2.2 _ hpi87 hso87
 have hz5 : dd87.size = n := by rw [Inv.sz hinv5]; assumption
 exact zg _ hN47 hd47 ⟨x, (partition ltT d3 x y pv2).1, l1, false, (partition ltT d3 x y pv2).2.1, _, rfl, (zL hN47 rfl s47_0), (zL hN47 rfl s47_1).trans (congrArg (Value.int .i64) zx), (zU hN47 rfl).trans (congrArg (Value.int .i64) zx), (zL hN47 rfl s47_3).trans (congrArg (Value.int .i64) zx), (zU hN47 rfl), (zU hN47 rfl), (by first | assumption | (simp only [Array.size_setIfInBounds, swp_sz, siftDown_size]; assumption)), zx, hinv5, hb, zx, hO87⟩ zx

theorem pdqW_ret (d : Ar) (v : Value) (n base a b lim : Nat) (w : World) (hd : d.size = n) (hn : n ≤ 4000000000000000000) (hab : a ≤ b) (hbn : b ≤ n) (hlim : lim ≤ 100) (hB : Go.Sort.Below ltT a b d) (O : Own w base 74 1 v n (d.toList.map u16v)) : Ret Try.prog 123 #[v, .int .i64 (a : Int), .int .i64 (b : Int), .int .i64 (lim : Int)] w (fun v' w' => w.grownBy w' v.ownBlock ∧ v' = .tuple #[] ∧ ∃ d', PI a b d d' ∧ SortedIn ltT a b d' ∧ Own w' base 74 1 v n (d'.toList.map u16v)) := by
  have key : ∀ z, PdqIH z v n base := by
    intro z
    induction z with
    | zero => intro d a b lim w _ _ _ _ h; omega
    | succ z ih =>
      intro d a b lim w hd hab hbn hlim hz hB O
      exact pdqW_step (b - a) v n base hn (fun d a b lim w g1 g2 g3 g4 g5 => ih d a b lim w g1 g2 g3 g4 zx) d a b lim w hd hab hbn hlim rfl hB O
  exact key (b - a + 1) d a b lim w hd hab hbn hlim zx hB O
open Go.Sort (insertionSort insOuter insInner swp siftDown heapSort heapBuild heapPop scanUp scanDown partition partLoop partitionEqual partEqLoop scanSorted partialIns bitsLen partialInsertionSort shiftDown shiftUp SortedIn reverseRange reverseLoop fixDown fixUp)
theorem compW_ret (d : Ar) (v : Value) (n base : Nat) (z0 : Nat) (w : World) (hd : d.size = n) (hn : n ≤ 4000000000000000000) (O : Own w base 74 1 v n (d.toList.map u16v)) : Ret Try.prog 119 #[v] w (fun v' w' => w.grownBy w' v.ownBlock ∧ v'.ownBlock = v.ownBlock ∧ Own w' base 74 1 v' (dd d.toList).length ((dd d.toList).map u16v)) := by
 have hb := grown_refl w v.ownBlock
 refine enter (N := 61) Try.func119 rfl rfl (by simp) fun a0 hN hd hA => ?_
 have s0 : a0.tmps.getD 0 undef = v := hA 0 (by simp)
 clear hA
 refine zF fun K1 hK1 => ?_
 refine zH ?_
 refine zD rfl ?_
 refine zB ?_
 refine hK1 _ _ (zF fun K2 hK2 => ?_)
 refine zF fun K3 hK3 => ?_
 refine zH ?_
 refine zG (zC hN rfl s0) ?_
 refine op_len_rd Try.underlying42 (zA hN rfl) O.rdw ?_
 refine op_lss (zA hN rfl) rfl (fun c8 => ?_) (fun c8 => ?_)
 ·
  refine zB ?_
  refine hK3 _ _ (wp_cond_true (zA hN rfl) (zF fun K4 hK4 => ?_))
  refine zH ?_
  refine zG (zC hN rfl s0) ?_
  refine zD (zA hN rfl) ?_
  refine zB ?_
  refine hK4 _ _ (wp_ret (zO ( ?_)))
  refine ret1 rfl hd (zA hN rfl) ⟨_, rfl, ?_⟩
  have hzl : d.toList.length = n := by simp; assumption
  exact ⟨hb, rfl, by rw [dd_short zx, hzl]; exact O⟩
 refine zB ?_
 refine hK3 _ _ (wp_cond_false (zA hN rfl) (wp_skip (hK2 _ _ (zF fun K5 hK5 => ?_))))
 refine zF fun K6 hK6 => ?_
 refine zH ?_
 refine zD rfl ?_
 refine zB ?_
 refine hK6 _ _ (wp_block ?_)
 refine loop_m (fun mz_ az_ w' => ∃ (i : Nat), mz_ = (n + 1 - i) ∧ (az_.tmps.getD 0 undef = v) ∧ (az_.tmps.getD 3 undef = (.int .i64 ((i : Nat) : Int))) ∧ (1 ≤ i ∧ i ≤ n) ∧ (dd (d.toList.take i) = d.toList.take i) ∧ (w.grownBy w' v.ownBlock) ∧ (w.heap.size ≤ w'.heap.size) ∧ (Own w' base 74 1 v n (d.toList.map u16v))) _ hN hd ⟨1, rfl, (zL hN rfl s0), (zU hN rfl).trans (congrArg (Value.int .i64) zx), zx, (dd_one zx), hb, (Nat.le_refl _), O⟩ ?_
 rintro _ a7 w7 hN7 hd7 ⟨i, rfl, s7_0, s7_3, hi, hsm, hb, zl_w7, O⟩
 have := hb.size
 refine zF fun K8 hK8 => ?_
 refine zF fun K9 hK9 => ?_
 refine zH ?_
 refine zG (zC hN7 rfl s7_3) ?_
 refine zG (zC hN7 rfl s7_0) ?_
 refine op_len_rd Try.underlying42 (zA hN7 rfl) O.rdw ?_
 refine op_lss (zA hN7 rfl) (zA hN7 rfl) (fun c13 => ?_) (fun c13 => ?_)
 ·
  refine zB ?_
  refine hK9 _ _ (wp_cond_true (zA hN7 rfl) (wp_skip (hK8 _ _ (zF fun K10 hK10 => ?_))))
  refine wp_block ?_
  refine zF fun K11 hK11 => ?_
  refine reg_still mixed zy ?_
  intro w13 E12
  have := E12.size
  have O := O.keep0 E12
  have hb := grow_step0 hb E12
  refine st_step rfl (fun _ h9 => zG (zC hN7 rfl s7_0) h9) ?_
  refine st_step rfl (fun _ h9 => zG (zC hN7 rfl s7_3) h9) ?_
  refine st_index_rd slt42 (zA hN7 rfl) O.rdw (zA hN7 rfl) zx zx ?_
  intro b14 o15 h0b14 h1b14 hc16
  refine st_step rfl (fun _ h9 => zN (v := (Value.int .u16 (d[i]!.toNat : Int))) one74 (zA hN7 rfl) (by have := hc16 0 (.int .u16 (d[i]!.toNat : Int)) zz (el_arr (i := i) zx (by first | omega | (simp only [Array.size_setIfInBounds, swp_sz, siftDown_size]; omega))); simpa using this) h9) ?_
  refine st_step rfl (fun _ h9 => zG (zC hN7 rfl s7_0) h9) ?_
  refine st_step rfl (fun _ h9 => zG (zC hN7 rfl s7_3) h9) ?_
  refine st_step rfl (fun _ h9 => op_sub (zA hN7 rfl) rfl (sub64 zx) h9) ?_
  refine st_index_rd slt42 (zA hN7 rfl) O.rdw (zA hN7 rfl) zx zx ?_
  intro b17 o18 h0b17 h1b17 hc19
  refine st_step rfl (fun _ h9 => zN (v := (Value.int .u16 (d[(i - 1)]!.toNat : Int))) one74 (zA hN7 rfl) (by have := hc19 0 (.int .u16 (d[(i - 1)]!.toNat : Int)) zz (el_arr (i := (i - 1)) zx (by first | omega | (simp only [Array.size_setIfInBounds, swp_sz, siftDown_size]; omega))); simpa using this) h9) ?_
  refine st_step rfl (fun _ h9 => op_cmp (b := (decide ((d[i]!.toNat : Int) = (d[(i - 1)]!.toNat : Int)))) (zA hN7 rfl) (zA hN7 rfl) (b_eql rfl) h9) ?_
  refine st_nil ?_
  refine hK11 _ _ (wp_cond_split (zA hN7 rfl) (fun c25 => ?_) (fun c25 => ?_))
  ·
   have c25 := of_decide_eq_true c25
   refine zF fun K20 hK20 => ?_
   refine zH ?_
   refine zG (zC hN7 rfl s7_0) ?_
   refine zG (zC hN7 rfl s7_3) ?_
   refine op_slice_tail (k := i) slt42 (zA hN7 rfl) O.rdw zx (zA hN7 rfl) zx ?_
   refine zD (zA hN7 rfl) ?_
   refine zB ?_
   refine hK20 _ _ (zF fun K21 hK21 => ?_)
   refine zF fun K22 hK22 => ?_
   refine zH ?_
   refine zD rfl ?_
   refine zB ?_
   refine hK22 _ _ (wp_block ?_)
   refine loop_m (fun mz_ az_ w' => ∃ (k2 kk : Nat) (dk : Ar), mz_ = (n + 1 - k2) ∧ (az_.tmps.getD 0 undef = v) ∧ (az_.tmps.getD 4 undef = (tailV v i)) ∧ (az_.tmps.getD 5 undef = (.int .i64 ((k2 : Nat) : Int))) ∧ (az_.tmps.getD 3 undef = (.int .i64 ((kk : Nat) : Int))) ∧ (dk.size = n) ∧ (1 ≤ k2 ∧ i + k2 ≤ n ∧ 1 ≤ kk ∧ kk < i + k2) ∧ (dk.toList.take kk = dd (d.toList.take (i + k2))) ∧ (∀ j9, kk ≤ j9 → dk[j9]! = d[j9]!) ∧ (w.grownBy w' v.ownBlock) ∧ (w13.heap.size ≤ w'.heap.size) ∧ (Own w' base 74 1 v n (dk.toList.map u16v))) _ hN7 hd7 ⟨1, i, _, rfl, (zL hN7 rfl s7_0), (zU hN7 rfl), (zU hN7 rfl).trans (congrArg (Value.int .i64) zx), (zL hN7 rfl s7_3).trans (congrArg (Value.int .i64) zx), (by first | assumption | (simp only [Array.size_setIfInBounds, swp_sz, siftDown_size]; assumption)), zx, (by rw [dd_step zx zx, if_pos (u16_eq c25).symm, hsm]), (fun _ _ => rfl), hb, (Nat.le_refl _), O⟩ ?_
   rintro _ a23 w23 hN23 hd23 ⟨k2, kk, dk, rfl, s23_0, s23_4, s23_5, s23_3, hdk, hr2, hdd, hsame, hb, zl_w23, hO24⟩
   have := hb.size
   refine zF fun K25 hK25 => ?_
   refine zF fun K26 hK26 => ?_
   refine zH ?_
   refine zG (zC hN23 rfl s23_5) ?_
   refine zG (zC hN23 rfl s23_4) ?_
   refine op_len_rd Try.underlying42 (zA hN23 rfl) (RdC.tail hO24.rdw zx zx) ?_
   refine op_lss (zA hN23 rfl) (zA hN23 rfl) (fun c32 => ?_) (fun c32 => ?_)
   ·
    refine zB ?_
    refine hK26 _ _ (wp_cond_true (zA hN23 rfl) (wp_skip (hK25 _ _ (zF fun K27 hK27 => ?_))))
    refine wp_block ?_
    refine zF fun K28 hK28 => ?_
    refine reg_still mixed zy ?_
    intro w30 E29
    have := E29.size
    have hO24 := hO24.keep0 E29
    have hb := grow_step0 hb E29
    refine st_step rfl (fun _ h9 => zG (zC hN23 rfl s23_4) h9) ?_
    refine st_step rfl (fun _ h9 => zG (zC hN23 rfl s23_5) h9) ?_
    refine st_index_rd slt42 (zA hN23 rfl) (RdC.tail hO24.rdw zx zx) (zA hN23 rfl) zx zx ?_
    intro b31 o32 h0b31 h1b31 hc33
    refine st_step rfl (fun _ h9 => zN (v := (Value.int .u16 (dk[i + k2]!.toNat : Int))) one74 (zA hN23 rfl) (by have := hc33 0 (.int .u16 (dk[i + k2]!.toNat : Int)) zz (el_arr_tail (i := k2) zx zx); simpa using this) h9) ?_
    refine st_step rfl (fun _ h9 => zG (zC hN23 rfl s23_4) h9) ?_
    refine st_step rfl (fun _ h9 => zG (zC hN23 rfl s23_5) h9) ?_
    refine st_step rfl (fun _ h9 => op_sub (zA hN23 rfl) rfl (sub64 zx) h9) ?_
    refine st_index_rd slt42 (zA hN23 rfl) (RdC.tail hO24.rdw zx zx) (zA hN23 rfl) zx zx ?_
    intro b34 o35 h0b34 h1b34 hc36
    refine st_step rfl (fun _ h9 => zN (v := (Value.int .u16 (dk[i + (k2 - 1)]!.toNat : Int))) one74 (zA hN23 rfl) (by have := hc36 0 (.int .u16 (dk[i + (k2 - 1)]!.toNat : Int)) zz (el_arr_tail (i := (k2 - 1)) zx zx); simpa using this) h9) ?_
    refine st_step rfl (fun _ h9 => op_cmp (b := (decide ((dk[i + k2]!.toNat : Int) ≠ (dk[i + (k2 - 1)]!.toNat : Int)))) (zA hN23 rfl) (zA hN23 rfl) (b_neq rfl) h9) ?_
    refine st_nil ?_
    refine hK28 _ _ (wp_cond_split (zA hN23 rfl) (fun c44 => ?_) (fun c44 => ?_))
    ·
     have c44 := of_decide_eq_true c44
     refine zF fun K37 hK37 => ?_
     refine zH ?_
     refine zG (zC hN23 rfl s23_0) ?_
     refine zG (zC hN23 rfl s23_3) ?_
     refine zG (zC hN23 rfl s23_4) ?_
     refine zG (zC hN23 rfl s23_5) ?_
     refine zh slt42 (zA hN23 rfl) (RdC.tail hO24.rdw zx zx) (zA hN23 rfl) zx zx ?_
     intro b38 o39 h0b38 h1b38 hc40
     refine zN (v := (Value.int .u16 (dk[i + k2]!.toNat : Int))) one74 (zA hN23 rfl) (by have := hc40 0 (.int .u16 (dk[i + k2]!.toNat : Int)) zz (el_arr_tail (i := k2) zx zx); simpa using this) ?_
     refine op_index_own (i := kk) slt42 (zA hN23 rfl) hO24 (zA hN23 rfl) zx zx ?_
     intro b41 o42 lo_b41 hA43
     have hA43 : AtV v (kk) b41 o42 := by simpa using hA43
     have hP46 := hO24
     refine op_store_own (vs := [(.int .u16 (dk[i + k2]!.toNat : Int))]) size74 (zA hN23 rfl) (zA hN23 rfl) rfl rfl rfl hP46 hA43 (by have := hP46.1; simp; omega) ?_
     intro w44 hO47 E45
     have := E45.size
     have hb := grow_stepX hb E45 rfl
     have hO47 : Own w44 base 74 1 v n (((dk.setIfInBounds kk dk[i + k2]!)).toList.map u16v) := by exact hO47.cast rfl (set_arr (by first | omega | (simp only [Array.size_setIfInBounds, swp_sz]; omega)))
     refine zB ?_
     refine hK37 _ _ (zH ?_)
     refine zG (zC hN23 rfl s23_3) ?_
     refine op_add (zA hN23 rfl) rfl (add64 zx) ?_
     refine zD (zA hN23 rfl) ?_
     refine zB ?_
     refine hK27 _ _ (zH ?_)
     refine zG (zC hN23 rfl s23_5) ?_
     refine op_add (zA hN23 rfl) rfl (add64 zx) ?_
     refine zD (zA hN23 rfl) ?_
     refine zB ?_
     -- round 8F 13T 25T 32T 44T
     have hk5 := dd_keep (d := d) (dk := dk) (i := i + k2) (k := kk) zx zx zx zx hdd hsame (by rw [← hsame (i + k2) zx, ← hsame (i + k2 - 1) zx]; intro e; apply c44; rw [show i + (k2 - 1) = i + k2 - 1 by omega, e])
     rw [← hsame (i + k2) zx] at hk5
     exact zg _ hN23 hd23 ⟨(k2 + 1), (kk + 1), _, rfl, (zL hN23 rfl s23_0), (zL hN23 rfl s23_4), (zU hN23 rfl).trans (congrArg (Value.int .i64) zx), (zU hN23 rfl).trans (congrArg (Value.int .i64) zx), (by first | assumption | (simp only [Array.size_setIfInBounds, swp_sz, siftDown_size]; assumption)), zx, hk5.1, hk5.2, hb, zx, hO47⟩ zx
    have c44 := of_decide_eq_false c44
    refine wp_skip (hK27 _ _ (zH ?_))
    refine zG (zC hN23 rfl s23_5) ?_
    refine op_add (zA hN23 rfl) rfl (add64 zx) ?_
    refine zD (zA hN23 rfl) ?_
    refine zB ?_
    -- round 8F 13T 25T 32T 44F
    exact zg _ hN23 hd23 ⟨(k2 + 1), kk, _, rfl, (zL hN23 rfl s23_0), (zL hN23 rfl s23_4), (zU hN23 rfl).trans (congrArg (Value.int .i64) zx), (zL hN23 rfl s23_3).trans (congrArg (Value.int .i64) zx), (by first | assumption | (simp only [Array.size_setIfInBounds, swp_sz, siftDown_size]; assumption)), zx, (hdd.trans (by rw [← Nat.add_assoc, dd_step zx zx, if_pos]; rw [← hsame (i + k2) zx, ← hsame (i + k2 - 1) zx, show i + k2 - 1 = i + (k2 - 1) by omega]; exact (u16_eq (Decidable.not_not.1 c44)).symm)), hsame, hb, zx, hO24⟩ zx
   refine zB ?_
   refine hK26 _ _ (wp_cond_false (zA hN23 rfl) (wp_exit (then_exit (then_exit (blk_hit ?_)))))
   refine hK21 _ _ (zF fun K48 hK48 => ?_)
   refine zH ?_
   refine zG (zC hN23 rfl s23_0) ?_
   refine zG (zC hN23 rfl s23_3) ?_
   refine op_slice_tail (k := kk) slt42 (zA hN23 rfl) hO24.rdw zx (zA hN23 rfl) zx ?_
   refine op_clear_tail slt42 rfl rfl (zA hN23 rfl) hO24 zx ?_
   intro w49 hO50 E51
   have := E51.size
   have hb := grow_stepX hb E51 rfl
   have hO50 : Own w49 base 74 1 v n ((clr dk kk).toList.map u16v) := hO50.cast rfl (clr_cs (by assumption))
   refine zB ?_
   refine hK48 _ _ (zF fun K52 hK52 => ?_)
   refine zH ?_
   refine zG (zC hN23 rfl s23_0) ?_
   refine zG (zC hN23 rfl s23_3) ?_
   have hfull : d.toList.take (i + k2) = d.toList := by rw [List.take_of_length_le]; simp; omega
   have hD : dk.toList.take kk = dd d.toList := by rw [hdd, hfull]
   have hDl : (dd d.toList).length = kk := by rw [← hD]; simp; omega
   refine op_slice_own_hi (m := kk) slt42 (zA hN23 rfl) hO50 (zA hN23 rfl) zx zx ?_
   intro v53 hO54 ho55
   have hO54 : Own w49 base 74 1 v53 kk (((dd d.toList)).map u16v) := by (simp only [Nat.mul_one] at hO54; rw [← List.map_take, clr_take zx, hD] at hO54; exact hO54)
   refine zD (zA hN23 rfl) ?_
   refine zB ?_
   refine hK52 _ _ (wp_ret (zb (zO (zO (zb (zO ( ?_)))))))
   refine ret1 rfl hd23 (zA hN23 rfl) ⟨_, rfl, ?_⟩
   exact ⟨hb, (ho55.trans rfl), by rw [hDl]; exact hO54⟩
  have c25 := of_decide_eq_false c25
  refine wp_skip (hK10 _ _ (zH ?_))
  refine zG (zC hN7 rfl s7_3) ?_
  refine op_add (zA hN7 rfl) rfl (add64 zx) ?_
  refine zD (zA hN7 rfl) ?_
  refine zB ?_
  -- round 8F 13T 25F
  exact zg _ hN7 hd7 ⟨(i + 1), rfl, (zL hN7 rfl s7_0), (zU hN7 rfl).trans (congrArg (Value.int .i64) zx), zx, (dd_same zx zx hsm (fun e => c25 (by rw [e]))), hb, zx, O⟩ zx
 refine zB ?_
 refine hK9 _ _ (wp_cond_false (zA hN7 rfl) (wp_exit (then_exit (then_exit (blk_hit ?_)))))
 refine hK5 _ _ (zF fun K56 hK56 => ?_)
 refine zH ?_
 refine zG (zC hN7 rfl s7_0) ?_
 refine zD (zA hN7 rfl) ?_
 refine zB ?_
 refine hK56 _ _ (wp_ret ?_)
 refine ret1 rfl hd7 (zA hN7 rfl) ⟨_, rfl, ?_⟩
 have hzl : d.toList.length = n := by simp; assumption
 exact ⟨hb, rfl, by rw [dd_full (n := n) (by assumption) (by rw [show n = i by omega]; exact hsm), hzl]; exact O⟩
open Go.Sort (insertionSort insOuter insInner swp siftDown heapSort heapBuild heapPop scanUp scanDown partition partLoop partitionEqual partEqLoop scanSorted partialIns bitsLen partialInsertionSort shiftDown shiftUp SortedIn reverseRange reverseLoop fixDown fixUp)
theorem cloneW_ret (l : Lb) (v : Value) (w : World) (hz : l.length ≤ 1000000000000) (hl : RdC w 0 w.heap.size 1 v l.length (l.map u16v)) : Ret Try.prog 106 #[v] w (fun v' w' => Below w.heap.size w w' ∧ Own w' w.heap.size 74 1 v' l.length (l.map u16v)) := by
 have hb := Below.refl w.heap.size w
 refine enter (N := 8) Try.func106 rfl rfl (by simp) fun a0 hN hd hA => ?_
 have s0 : a0.tmps.getD 0 undef = v := hA 0 (by simp)
 clear hA
 refine zF fun K1 hK1 => ?_
 refine zH ?_
 refine zD rfl ?_
 refine zB ?_
 refine hK1 _ _ (zF fun K2 hK2 => ?_)
 refine zF fun K3 hK3 => ?_
 refine zH ?_
 refine zG (zC hN rfl s0) ?_
 refine op_eql_nil slt42 (zA hN rfl) rfl hl (fun c4 => ?_) ?_
 ·
  refine zB ?_
  refine hK3 _ _ (wp_cond_true (zA hN rfl) (zF fun K4 hK4 => ?_))
  refine zH ?_
  refine zD rfl ?_
  refine zB ?_
  refine hK4 _ _ (wp_ret (zO ( ?_)))
  refine ret1 rfl hd (zA hN rfl) ⟨_, rfl, ?_⟩
  exact ⟨hb, by rw [List.length_eq_zero_iff.1 c4]; exact Own.nil _ _ _ _⟩
 refine zB ?_
 refine hK3 _ _ (wp_cond_false (zA hN rfl) (wp_skip (hK2 _ _ (zF fun K5 hK5 => ?_))))
 refine zH ?_
 refine op_bslice (e := 74) (pv := []) (cs := []) trivial zy ?_
 intro w6 b7 lo_b7 hi_b7 hB9 E8
 have := E8.size
 have hl := hl.keep0 E8
 have hb := zP hb E8 hb.size
 refine zG (zC hN rfl s0) ?_
 have hP15 := (Own.ofBx (base := w.heap.size) (sz := 1) (n := 0) hB9 rfl zz zx)
 refine op_append slt42 (zA hN rfl) hP15 (zA hN rfl) (Src.ofRd Try.underlying42 zz hl (one_u16 _)) (by unfold maxLen; omega) zx hb.size ?_
 intro v10 w11 hO13 E12 hm14
 have := E12.size
 have hl := hl.keepO hP15 E12 zx
 have hb := below_stepO hb hP15 E12 hb.size zx
 have hO13 : Own w11 w.heap.size 74 1 v10 (0 + l.length) ((l).map u16v) := by simpa [u8v, u16v, cellsV] using hO13
 refine zD (zA hN rfl) ?_
 refine zB ?_
 refine hK5 _ _ (wp_ret ?_)
 refine ret1 rfl hd (zA hN rfl) ⟨_, rfl, ?_⟩
 exact ⟨hb, hO13.cast (by simp) (by simp)⟩

theorem sortW_ret (d : Ar) (v : Value) (n base : Nat) (z0 : Nat) (w : World) (hd : d.size = n) (hn : n ≤ 4000000000000000000) (O : Own w base 74 1 v n (d.toList.map u16v)) : Ret Try.prog 118 #[v] w (fun v' w' => w.grownBy w' v.ownBlock ∧ v' = .tuple #[] ∧ ∃ d', PI 0 n d d' ∧ SortedIn ltT 0 n d' ∧ Own w' base 74 1 v n (d'.toList.map u16v)) := by
 have hb := grown_refl w v.ownBlock
 refine enter (N := 11) Try.func118 rfl rfl (by simp) fun a0 hN hd hA => ?_
 have s0 : a0.tmps.getD 0 undef = v := hA 0 (by simp)
 clear hA
 refine zF fun K16 hK16 => ?_
 refine zH ?_
 refine zG (zC hN rfl s0) ?_
 refine op_len_rd Try.underlying42 (zA hN rfl) O.rdw ?_
 refine zD (zA hN rfl) ?_
 refine zB ?_
 refine hK16 _ _ (zH ?_)
 refine zG (zC hN rfl s0) ?_
 refine zG (zA hN rfl) ?_
 refine zG (zA hN rfl) ?_
 refine op_conv (r := ((n : Nat) : Int)) (zA hN rfl) us3 Try.underlying164 (wrap_u64 zx) ?_
 have hbl : bitsLen n ≤ 62 := (Go.Sort.bitsLen_le_iff n 62).2 zx
 refine zj ok124 (lenW_ret n _ zx) ⟨(zA hN rfl), trivial⟩ ?_
 rintro _ w17 ⟨E18, rfl⟩
 have E18 := zQ E18
 have := E18.size
 have O := O.keep0 E18
 have hb := grow_step0 hb E18
 refine zj ok123 (pdqW_ret d _ _ _ 0 n ((bitsLen n)) _ (by first | assumption | (simp only [Array.size_setIfInBounds, swp_sz, siftDown_size]; assumption)) zx zx zx zx (.inl rfl) O) ⟨(zA hN rfl), ⟨rfl, ⟨(zA hN rfl), ⟨(zA hN rfl), trivial⟩⟩⟩⟩ ?_
 rintro _ w20 ⟨E21, rfl, dd19, hpi19, hso19, hO19⟩
 have := E21.size
 have hb := grow_stepX hb E21 rfl
 refine zB ?_
 refine end_ret ?_
 refine ret0 rfl hd  ⟨_, rfl, ?_⟩
 exact ⟨hb, rfl, _, hpi19, hso19, hO19⟩

theorem sortedW_ret (l : Lb) (v : Value) (w : World) (hz : l.length ≤ 1000000000000) (hl : RdC w 0 w.heap.size 1 v l.length (l.map u16v)) : Ret Try.prog 116 #[v] w (fun v' w' => Below w.heap.size w w' ∧ Own w' w.heap.size 74 1 v' (nrm l).length ((nrm l).map u16v)) := by
 have hb := Below.refl w.heap.size w
 refine enter (N := 10) Try.func116 rfl rfl (by simp) fun a0 hN hd hA => ?_
 have s0 : a0.tmps.getD 0 undef = v := hA 0 (by simp)
 clear hA
 refine zF fun K22 hK22 => ?_
 refine zH ?_
 refine zD rfl ?_
 refine zB ?_
 refine hK22 _ _ (zF fun K23 hK23 => ?_)
 refine zH ?_
 refine zG (zC hN rfl s0) ?_
 refine zj ok106 (cloneW_ret l _ _ zx (show RdC w 0 w.heap.size 1 v l.length (l.map u16v) from by have hh : RdC w 0 w.heap.size 1 _ _ _ := (hl.mono (L' := 0) (B' := w.heap.size) (Nat.zero_le _) zx); first | exact hh | exact hh.cast (by first | omega | (simp; try omega)) (by first | rfl | simp [u16v]))) ⟨(zA hN rfl), trivial⟩ ?_
 rintro v24 w25 ⟨E26, hO24⟩
 have E26 := zQ E26
 have := E26.size
 have hl := hl.keep0 E26
 have hb := zP hb E26 hb.size
 have hO24 := hO24.mono (base' := w.heap.size) zx
 refine zD (zA hN rfl) ?_
 refine zB ?_
 refine hK23 _ _ (zF fun K27 hK27 => ?_)
 refine zH ?_
 refine zG (zA hN rfl) ?_
 refine zj ok118 (sortW_ret l.toArray _ l.length _ 0 _ (by simp) zx hO24) ⟨(zA hN rfl), trivial⟩ ?_
 rintro _ w29 ⟨E30, rfl, dd28, hpi28, hso28, hO28⟩
 have := E30.size
 have hl := hl.keepO hO24 E30 zx
 have hb := below_stepO hb hO24 E30 hb.size zx
 have hsn : dd dd28.toList = nrm l := sort_nrm (by simp) hpi28 hso28
 have hsz : dd28.size = l.length := (PI.sz hpi28).trans (by simp)
 refine zB ?_
 refine hK27 _ _ (zF fun K31 hK31 => ?_)
 refine zH ?_
 refine zG (zA hN rfl) ?_
 refine zj ok119 (compW_ret dd28 _ l.length _ 0 _ (by first | assumption | (simp only [Array.size_setIfInBounds, swp_sz, siftDown_size]; assumption)) zx hO28) ⟨(zA hN rfl), trivial⟩ ?_
 rintro v32 w33 ⟨E34, hob32, hO32⟩
 have := E34.size
 have hl := hl.keepO hO28 E34 zx
 have hb := below_stepO hb hO28 E34 hb.size zx
 refine zD (zA hN rfl) ?_
 refine zB ?_
 refine hK31 _ _ (wp_ret ?_)
 refine ret1 rfl hd (zA hN rfl) ⟨_, rfl, ?_⟩
 rw [hsn] at hO32
 exact ⟨hb, hO32⟩
open Go.Sort (bitsLen)
theorem indexW_ret (l : Lb) (x : UInt16) (v : Value) (w : World) (hz : l.length ≤ 1000000000000) (hl : RdC w 0 w.heap.size 1 v l.length (l.map u16v)) : Ret Try.prog 125 #[v, (.int .u16 (x.toNat : Int))] w (fun v' w' => (∃ z : Int, v' = .int .i64 z ∧ decide (0 ≤ z) = inL x l) ∧ w' = w) := by
 refine enter (N := 19) Try.func125 rfl rfl (by simp) fun a0 hN hd hA => ?_
 have s0 : a0.tmps.getD 0 undef = v := hA 0 (by simp)
 have s1 : a0.tmps.getD 1 undef = (.int .u16 (x.toNat : Int)) := hA 1 (by simp)
 clear hA
 refine zF fun K1 hK1 => ?_
 refine zH ?_
 refine zD rfl ?_
 refine zB ?_
 refine hK1 _ _ (zF fun K2 hK2 => ?_)
 refine zF fun K3 hK3 => ?_
 refine zH ?_
 refine zG (zC hN rfl s0) ?_
 refine op_len_rd Try.underlying75 (zA hN rfl) hl ?_
 refine zG rfl ?_
 refine zB ?_
 refine hK3 _ _ (wp_block ?_)
 refine loop_m (fun mz_ az_ w' => ∃ (i : Nat), mz_ = l.length - i ∧ (az_.tmps.getD 0 undef = v) ∧ (az_.tmps.getD 1 undef = (.int .u16 (x.toNat : Int))) ∧ (az_.tmps.getD 7 undef = (.int .i64 ((l.length : Nat) : Int))) ∧ (az_.tmps.getD 8 undef = (.int .i64 ((i : Nat) : Int))) ∧ (i ≤ l.length) ∧ (∀ j9, j9 < i → l.getD j9 0 ≠ x) ∧ w = w') _ hN hd ⟨0, rfl, (zL hN rfl s0), (zL hN rfl s1), (zU hN rfl), (zU hN rfl).trans (congrArg (Value.int .i64) zx), Nat.zero_le _, (fun j9 h9 => absurd h9 (Nat.not_lt_zero _)), rfl⟩ ?_
 rintro _ a4 _ hN4 hd4 ⟨i, rfl, s4_0, s4_1, s4_7, s4_8, hi, hno, rfl⟩
 refine zF fun K5 hK5 => ?_
 refine zH ?_
 refine op_lss (zC hN4 rfl s4_8) (zC hN4 rfl s4_7) (fun c9 => ?_) (fun c9 => ?_)
 ·
  refine zB ?_
  refine hK5 _ _ (zF fun K6 hK6 => ?_)
  refine wp_cond_true (zA hN4 rfl) (wp_skip (hK6 _ _ (zF fun K7 hK7 => ?_)))
  refine wp_block ?_
  refine zF fun K8 hK8 => ?_
  refine zH ?_
  refine zG (zC hN4 rfl s4_8) ?_
  refine zD (zA hN4 rfl) ?_
  refine zB ?_
  refine hK8 _ _ (zF fun K9 hK9 => ?_)
  refine zH ?_
  refine zG (zC hN4 rfl s4_1) ?_
  refine zG (zC hN4 rfl s4_0) ?_
  refine zG (zA hN4 rfl) ?_
  refine zh slt75 (zA hN4 rfl) hl (zA hN4 rfl) zx zx ?_
  intro b10 o11 h0b10 h1b10 hc12
  refine zN (v := (Value.int .u16 ((l.getD i 0).toNat : Int))) one74 (zA hN4 rfl) (by have := hc12 0 (.int .u16 ((l.getD i 0).toNat : Int)) zz (el_u16 (i := i) zx zx); simpa using this) ?_
  refine op_eql (zA hN4 rfl) (zA hN4 rfl) (fun c16 => ?_) (fun c16 => ?_)
  ·
   refine zB ?_
   refine hK9 _ _ (wp_cond_true (zA hN4 rfl) (zF fun K13 hK13 => ?_))
   refine zH ?_
   refine zG (zA hN4 rfl) ?_
   refine zD (zA hN4 rfl) ?_
   refine zB ?_
   refine hK13 _ _ (wp_ret (zb (zO (zO (zb (zO ( ?_)))))))
   refine ret1 rfl hd4 (zA hN4 rfl) ⟨_, rfl, ?_⟩
   exact ⟨⟨_, rfl, by rw [in_t (i := i) zx (u16_eq c16).symm]; exact decide_eq_true zx⟩, rfl⟩
  refine zB ?_
  refine hK9 _ _ (wp_cond_false (zA hN4 rfl) (wp_skip (hK7 _ _ (zH ?_))))
  refine op_add (zC hN4 rfl s4_8) rfl (add64 zx) ?_
  refine zG (zA hN4 rfl) ?_
  refine zB ?_
  -- round 9T 16F
  exact zg _ hN4 hd4 ⟨i + 1, rfl, (zL hN4 rfl s4_0), (zL hN4 rfl s4_1), (zL hN4 rfl s4_7), (zU hN4 rfl).trans (congrArg (Value.int .i64) zx), zx, (no_step hno (fun e9 => c16 (by rw [e9]))), rfl⟩ zx
 refine zB ?_
 refine hK5 _ _ (zF fun K14 hK14 => ?_)
 refine wp_cond_false (zA hN4 rfl) (wp_exit (then_exit (then_exit (blk_hit ?_))))
 refine hK2 _ _ (zF fun K15 hK15 => ?_)
 refine zH ?_
 refine zD rfl ?_
 refine zB ?_
 refine hK15 _ _ (wp_ret ?_)
 refine ret1 rfl hd4 (zA hN4 rfl) ⟨_, rfl, ?_⟩
 exact ⟨⟨_, rfl, by rw [in_f (i := i) zx hno]; rfl⟩, rfl⟩

theorem contW_ret (l : Lb) (x : UInt16) (v : Value) (w : World) (hz : l.length ≤ 1000000000000) (hl : RdC w 0 w.heap.size 1 v l.length (l.map u16v)) : Ret Try.prog 122 #[v, (.int .u16 (x.toNat : Int))] w (fun v' w' => v' = .bool (inL x l) ∧ w' = w) := by
 refine enter (N := 9) Try.func122 rfl rfl (by simp) fun a0 hN hd hA => ?_
 have s0 : a0.tmps.getD 0 undef = v := hA 0 (by simp)
 have s1 : a0.tmps.getD 1 undef = (.int .u16 (x.toNat : Int)) := hA 1 (by simp)
 clear hA
 refine zF fun K16 hK16 => ?_
 refine zH ?_
 refine zD rfl ?_
 refine zB ?_
 refine hK16 _ _ (zF fun K17 hK17 => ?_)
 refine zH ?_
 refine zG (zC hN rfl s0) ?_
 refine zG (zC hN rfl s1) ?_
 refine ze (vs := [v, (.int .u16 (x.toNat : Int))]) ok125 ⟨(zA hN rfl), ⟨(zA hN rfl), trivial⟩⟩ (Ret.flip (indexW_ret l x _ _ zx (show RdC w 0 w.heap.size 1 v l.length (l.map u16v) from by have hh : RdC w 0 w.heap.size 1 _ _ _ := (hl.mono (L' := 0) (B' := w.heap.size) (Nat.zero_le _) zx); first | exact hh | exact hh.cast (by first | omega | (simp; try omega)) (by first | rfl | simp [u16v])))) ?_
 rintro _ _ ⟨⟨zi18, rfl, hzi18⟩, rfl⟩
 refine op_geq (zA hN rfl) rfl (fun c8 => ?_) (fun c8 => ?_)
 ·
  refine zD (zA hN rfl) ?_
  refine zB ?_
  refine hK17 _ _ (wp_ret ?_)
  refine ret1 rfl hd (zA hN rfl) ⟨_, rfl, ?_⟩
  exact ⟨congrArg Value.bool (by rw [← hzi18]; simp; omega), rfl⟩
 refine zD (zA hN rfl) ?_
 refine zB ?_
 refine hK17 _ _ (wp_ret ?_)
 refine ret1 rfl hd (zA hN rfl) ⟨_, rfl, ?_⟩
 exact ⟨congrArg Value.bool (by rw [← hzi18]; simp; omega), rfl⟩

theorem minus1W_ret (x : UInt16) (m : Lb) (u : Value) (bc : Nat) (w : World) (hzm : m.length ≤ 1000000000000) (hbc : Bx w bc 75 [u]) (hm : RdC w 0 w.heap.size 1 u m.length (m.map u16v)) : Ret Try.prog 121 #[(.int .u16 (x.toNat : Int)), (ptr bc 0)] w (fun v' w' => v' = .bool (ninL x m) ∧ w' = w) := by
 refine enter (N := 8) Try.func121 rfl rfl (by simp) fun a0 hN hd hA => ?_
 have s0 : a0.tmps.getD 0 undef = (.int .u16 (x.toNat : Int)) := hA 0 (by simp)
 have s1 : a0.tmps.getD 1 undef = (ptr bc 0) := hA 1 (by simp)
 clear hA
 refine zF fun K19 hK19 => ?_
 refine zH ?_
 refine zD rfl ?_
 refine zB ?_
 refine hK19 _ _ (zF fun K20 hK20 => ?_)
 refine zH ?_
 refine zN (v := u) one75 (zC hN rfl s1) (hbc.cell rfl) ?_
 refine zG (zC hN rfl s0) ?_
 refine ze (vs := [u, (.int .u16 (x.toNat : Int))]) ok122 ⟨(zA hN rfl), ⟨(zA hN rfl), trivial⟩⟩ (Ret.flip (contW_ret m x _ _ zx (show RdC w 0 w.heap.size 1 u m.length (m.map u16v) from by have hh : RdC w 0 w.heap.size 1 _ _ _ := (hm.mono (L' := 0) (B' := w.heap.size) (Nat.zero_le _) zx); first | exact hh | exact hh.cast (by first | omega | (simp; try omega)) (by first | rfl | simp [u16v])))) ?_
 rintro _ _ ⟨rfl, rfl⟩
 refine op_not (zA hN rfl) ?_
 refine zD (zA hN rfl) ?_
 refine zB ?_
 refine hK20 _ _ (wp_ret ?_)
 refine ret1 rfl hd (zA hN rfl) ⟨_, rfl, ?_⟩
 exact ⟨rfl, rfl⟩

theorem those52_ret (l : Lb) (v : Value) (m : Lb) (u : Value) (bc : Nat) (w : World) (hz : l.length ≤ 1000000000000) (hl : RdC w 0 w.heap.size 1 v l.length (l.map u16v)) (hzm : m.length ≤ 1000000000000) (hbc : Bx w bc 75 [u]) (hm : RdC w 0 w.heap.size 1 u m.length (m.map u16v)) : Ret Try.prog 120 #[v, (.func (.func 121) #[] #[(ptr bc 0)])] w (fun v' w' => Below w.heap.size w w' ∧ Own w' w.heap.size 74 1 v' (l.filter (fun x => ninL x m)).length ((l.filter (fun x => ninL x m)).map u16v)) := by
 have hbc_lt := hbc.lt
 have hb := Below.refl w.heap.size w
 refine enter (N := 23) Try.func120 rfl rfl (by simp) fun a0 hN hd hA => ?_
 have s0 : a0.tmps.getD 0 undef = v := hA 0 (by simp)
 have s1 : a0.tmps.getD 1 undef = (.func (.func 121) #[] #[(ptr bc 0)]) := hA 1 (by simp)
 clear hA
 refine zF fun K21 hK21 => ?_
 refine zH ?_
 refine zD rfl ?_
 refine zB ?_
 refine hK21 _ _ (zF fun K22 hK22 => ?_)
 refine zH ?_
 refine zD rfl ?_
 refine zB ?_
 refine hK22 _ _ (zF fun K23 hK23 => ?_)
 refine zF fun K24 hK24 => ?_
 refine zH ?_
 refine zG (zC hN rfl s0) ?_
 refine op_len_rd Try.underlying42 (zA hN rfl) hl ?_
 refine zG rfl ?_
 refine zB ?_
 refine hK24 _ _ (wp_block ?_)
 refine loop_m (fun mz_ az_ w' => ∃ (i : Nat) (r : Value), mz_ = l.length - i ∧ (az_.tmps.getD 1 undef = (.func (.func 121) #[] #[(ptr bc 0)])) ∧ (az_.tmps.getD 4 undef = (.slice none 0 0)) ∧ (az_.tmps.getD 8 undef = v) ∧ (az_.tmps.getD 9 undef = (.int .i64 ((l.length : Nat) : Int))) ∧ (az_.tmps.getD 10 undef = (.int .i64 ((i : Nat) : Int))) ∧ (az_.tmps.getD 5 undef = r) ∧ (i ≤ l.length) ∧ (((l.take i).filter (fun x => ninL x m)).length ≤ i) ∧ (Below w.heap.size w w') ∧ (w.heap.size ≤ w'.heap.size) ∧ (RdC w' 0 w.heap.size 1 v l.length (l.map u16v)) ∧ (Bx w' bc 75 [u]) ∧ (RdC w' 0 w.heap.size 1 u m.length (m.map u16v)) ∧ (Own w' w.heap.size 74 1 r ((l.take i).filter (fun x => ninL x m)).length (((l.take i).filter (fun x => ninL x m)).map u16v))) _ hN hd ⟨0, _, rfl, (zL hN rfl s1), (zU hN rfl), (zU hN rfl), (zU hN rfl), (zU hN rfl), (zU hN rfl), Nat.zero_le _, (by simp), hb, (Nat.le_refl _), hl, hbc, hm, (Own.nil _ _ _ _)⟩ ?_
 rintro _ a25 w25 hN25 hd25 ⟨i, r, rfl, s25_1, s25_4, s25_8, s25_9, s25_10, s25_5, hi, hfl, hb, zl_w25, hl, hbc, hm, hO26⟩
 have := hb.size
 refine zF fun K27 hK27 => ?_
 refine zH ?_
 refine op_lss (zC hN25 rfl s25_10) (zC hN25 rfl s25_9) (fun c11 => ?_) (fun c11 => ?_)
 ·
  refine zB ?_
  refine hK27 _ _ (zF fun K28 hK28 => ?_)
  refine wp_cond_true (zA hN25 rfl) (wp_skip (hK28 _ _ (zF fun K29 hK29 => ?_)))
  refine wp_block ?_
  refine zF fun K30 hK30 => ?_
  refine zH ?_
  refine zh slt42 (zC hN25 rfl s25_8) hl (zC hN25 rfl s25_10) zx zx ?_
  intro b31 o32 h0b31 h1b31 hc33
  refine zN (v := (Value.int .u16 ((l.getD i 0).toNat : Int))) one74 (zA hN25 rfl) (by have := hc33 0 (.int .u16 ((l.getD i 0).toNat : Int)) zz (el_u16 (i := i) zx zx); simpa using this) ?_
  refine zD (zA hN25 rfl) ?_
  refine zB ?_
  refine hK30 _ _ (zF fun K34 hK34 => ?_)
  refine zH ?_
  refine zG (zC hN25 rfl s25_1) ?_
  refine zG (zA hN25 rfl) ?_
  refine op_fnv (fs := []) (vs := [(.int .u16 ((l.getD i 0).toNat : Int))]) (cs := [(ptr bc 0)]) (zA hN25 rfl) ok121 ⟨(zA hN25 rfl), trivial⟩ (Ret.flip (minus1W_ret (l.getD i 0) m _ _ _ zx hbc (show RdC w25 0 w25.heap.size 1 u m.length (m.map u16v) from by have hh : RdC w25 0 w25.heap.size 1 _ _ _ := (hm.mono (L' := 0) (B' := w25.heap.size) (Nat.zero_le _) zx); first | exact hh | exact hh.cast (by first | omega | (simp; try omega)) (by first | rfl | simp [u16v])))) ?_
  rintro _ _ ⟨rfl, rfl⟩
  rcases Bool.eq_false_or_eq_true ((ninL (l.getD i 0) m)) with c16 | c16
  ·
   rw [c16]
   refine zB ?_
   refine hK34 _ _ (wp_cond_true (zA hN25 rfl) (zH ?_))
   refine zG (zC hN25 rfl s25_5) ?_
   refine zG (zA hN25 rfl) ?_
   refine op_bslice (e := 74) (pv := [(0, (.int .u16 ((l.getD i 0).toNat : Int)))]) (cs := [(.int .u16 ((l.getD i 0).toNat : Int))]) ⟨rfl, (zA hN25 rfl), trivial⟩ zy ?_
   intro w35 b36 lo_b36 hi_b36 hB38 E37
   have := E37.size
   have hl := hl.keep0 E37
   have hbc := hbc.keep0 E37
   have hm := hm.keep0 E37
   have hO26 := hO26.keep0 E37
   have hb := zP hb E37 hb.size
   have hP44 := hO26
   refine op_append slt42 (zA hN25 rfl) hP44 (zA hN25 rfl) (Src.ofRd Try.underlying42 zz (RdC.ofBx (sz := 1) (n := 1) hB38 rfl zz) (by simp [Value.oneCell', u8v])) (by unfold maxLen; omega) zx hb.size ?_
   intro v39 w40 hO42 E41 hm43
   have := E41.size
   have hl := hl.keepO hP44 E41 zx
   have hbc := hbc.keepO hP44 E41 zz
   have hm := hm.keepO hP44 E41 zx
   have hb := below_stepO hb hP44 E41 hb.size zx
   have hO42 : Own w40 w.heap.size 74 1 v39 (((l.take i).filter (fun x => ninL x m)).length + 1) (((((l.take i).filter (fun x => ninL x m)) ++ [(l.getD i 0)])).map u16v) := by simpa [u8v, u16v, cellsV] using hO42
   refine zD (zA hN25 rfl) ?_
   refine zB ?_
   refine hK29 _ _ (zH ?_)
   refine op_add (zC hN25 rfl s25_10) rfl (add64 zx) ?_
   refine zG (zA hN25 rfl) ?_
   refine zB ?_
   -- round 11T 16T
   exact zg _ hN25 hd25 ⟨i + 1, _, rfl, (zL hN25 rfl s25_1), (zL hN25 rfl s25_4), (zL hN25 rfl s25_8), (zL hN25 rfl s25_9), (zU hN25 rfl).trans (congrArg (Value.int .i64) zx), (zU hN25 rfl), zx, (by first | exact filter_le), hb, zx, hl, hbc, hm, (hO42.cast (by rw [filter_t zx c16]; try simp) (by rw [filter_t zx c16]; try simp [u16v]))⟩ zx
  rw [c16]
  refine zB ?_
  refine hK34 _ _ (wp_cond_false (zA hN25 rfl) (wp_skip (hK29 _ _ (zH ?_))))
  refine op_add (zC hN25 rfl s25_10) rfl (add64 zx) ?_
  refine zG (zA hN25 rfl) ?_
  refine zB ?_
  -- round 11T 16F
  exact zg _ hN25 hd25 ⟨i + 1, _, rfl, (zL hN25 rfl s25_1), (zL hN25 rfl s25_4), (zL hN25 rfl s25_8), (zL hN25 rfl s25_9), (zU hN25 rfl).trans (congrArg (Value.int .i64) zx), (zL hN25 rfl s25_5), zx, (by first | exact filter_le), hb, zx, hl, hbc, hm, (hO26.cast (by rw [filter_f zx c16]) (by rw [filter_f zx c16]))⟩ zx
 refine zB ?_
 refine hK27 _ _ (zF fun K45 hK45 => ?_)
 refine wp_cond_false (zA hN25 rfl) (wp_exit (then_exit (then_exit (blk_hit ?_))))
 refine hK23 _ _ (zF fun K46 hK46 => ?_)
 refine zH ?_
 refine zG (zC hN25 rfl s25_5) ?_
 refine zD (zA hN25 rfl) ?_
 refine zB ?_
 refine hK46 _ _ (wp_ret ?_)
 refine ret1 rfl hd25 (zA hN25 rfl) ⟨_, rfl, ?_⟩
 rw [take_all l zx] at hO26
 exact ⟨hb, hO26⟩

theorem minusW_ret (l m : Lb) (v u : Value) (w : World) (hz : l.length ≤ 1000000000000) (hzm : m.length ≤ 1000000000000) (hl : RdC w 0 w.heap.size 1 v l.length (l.map u16v)) (hm : RdC w 0 w.heap.size 1 u m.length (m.map u16v)) : Ret Try.prog 117 #[v, u] w (fun v' w' => Below w.heap.size w w' ∧ Own w' w.heap.size 74 1 v' (minusL l m).length ((minusL l m).map u16v)) := by
 have hb := Below.refl w.heap.size w
 refine enter (N := 8) Try.func117 rfl rfl (by simp) fun a0 hN hd hA => ?_
 have s0 : a0.tmps.getD 0 undef = v := hA 0 (by simp)
 have s1 : a0.tmps.getD 1 undef = u := hA 1 (by simp)
 clear hA
 refine zF fun K47 hK47 => ?_
 refine zH ?_
 refine op_box (cs := [u]) (zC hN rfl s1) (RdC.cells hm) ?_
 intro w48 b49 lo_b49 hi_b49 hB51 E50
 have := E50.size
 have hl := hl.keep0 E50
 have hm := hm.keep0 E50
 have hb := zP hb E50 hb.size
 refine zD rfl ?_
 refine zB ?_
 refine hK47 _ _ (zF fun K52 hK52 => ?_)
 refine zH ?_
 refine zG (zC hN rfl s0) ?_
 refine op_mkfn (cv := [(ptr b49 0)]) ⟨(zA hN rfl), trivial⟩ ?_
 refine zj ok120 (those52_ret l _ m _ _ _ zx (show RdC w48 0 w48.heap.size 1 v l.length (l.map u16v) from by have hh : RdC w48 0 w48.heap.size 1 _ _ _ := (hl.mono (L' := 0) (B' := w48.heap.size) (Nat.zero_le _) zx); first | exact hh | exact hh.cast (by first | omega | (simp; try omega)) (by first | rfl | simp [u16v])) zx hB51 (show RdC w48 0 w48.heap.size 1 u m.length (m.map u16v) from by have hh : RdC w48 0 w48.heap.size 1 _ _ _ := (hm.mono (L' := 0) (B' := w48.heap.size) (Nat.zero_le _) zx); first | exact hh | exact hh.cast (by first | omega | (simp; try omega)) (by first | rfl | simp [u16v]))) ⟨(zA hN rfl), ⟨(zA hN rfl), trivial⟩⟩ ?_
 rintro v53 w54 ⟨E55, hO53⟩
 have E55 := zQ E55
 have := E55.size
 have hl := hl.keep0 E55
 have hb := zP hb E55 hb.size
 have hO53 := hO53.mono (base' := w.heap.size) zx
 refine zD (zA hN rfl) ?_
 refine zB ?_
 refine hK52 _ _ (wp_ret ?_)
 refine ret1 rfl hd (zA hN rfl) ⟨_, rfl, ?_⟩
 exact ⟨hb, hO53⟩

theorem flowsW_ret (l m : Lb) (v u : Value) (w : World) (hz : l.length ≤ 1000000000000) (hzm : m.length ≤ 1000000000000) (hl : RdC w 0 w.heap.size 1 v l.length (l.map u16v)) (hm : RdC w 0 w.heap.size 1 u m.length (m.map u16v)) : Ret Try.prog 114 #[v, u] w (fun v' w' => Below w.heap.size w w' ∧ v' = .bool (flowsL l m)) := by
 have hb := Below.refl w.heap.size w
 refine enter (N := 10) Try.func114 rfl rfl (by simp) fun a0 hN hd hA => ?_
 have s0 : a0.tmps.getD 0 undef = v := hA 0 (by simp)
 have s1 : a0.tmps.getD 1 undef = u := hA 1 (by simp)
 clear hA
 refine zF fun K56 hK56 => ?_
 refine zH ?_
 refine zD rfl ?_
 refine zB ?_
 refine hK56 _ _ (zF fun K57 hK57 => ?_)
 refine zH ?_
 refine zG (zC hN rfl s0) ?_
 refine zG (zC hN rfl s1) ?_
 refine zj ok117 (minusW_ret l m _ _ _ (by first | assumption | omega | (simp only [List.length_append, List.length_cons, List.length_nil, List.length_drop, List.length_take]; omega) | (dsimp only; omega) | decide | (simp [keyV, be8_len]; done)) (by first | assumption | omega | (simp only [List.length_append, List.length_cons, List.length_nil, List.length_drop, List.length_take]; omega) | (dsimp only; omega) | decide | (simp [keyV, be8_len]; done)) (show RdC w 0 w.heap.size 1 v l.length (l.map u16v) from by have hh : RdC w 0 w.heap.size 1 _ _ _ := (hl.mono (L' := 0) (B' := w.heap.size) (Nat.zero_le _) zx); first | exact hh | exact hh.cast (by first | omega | (simp; try omega)) (by first | rfl | simp [u16v])) (show RdC w 0 w.heap.size 1 u m.length (m.map u16v) from by have hh : RdC w 0 w.heap.size 1 _ _ _ := (hm.mono (L' := 0) (B' := w.heap.size) (Nat.zero_le _) zx); first | exact hh | exact hh.cast (by first | omega | (simp; try omega)) (by first | rfl | simp [u16v]))) ⟨(zA hN rfl), ⟨(zA hN rfl), trivial⟩⟩ ?_
 rintro v58 w59 ⟨E60, hO58⟩
 have E60 := zQ E60
 have := E60.size
 have hl := hl.keep0 E60
 have hb := zP hb E60 hb.size
 have hO58 := hO58.mono (base' := w.heap.size) zx
 refine op_len_rd Try.underlying75 (zA hN rfl) hO58.rdw ?_
 refine op_eql (zA hN rfl) rfl (fun c9 => ?_) (fun c9 => ?_)
 ·
  refine zD (zA hN rfl) ?_
  refine zB ?_
  refine hK57 _ _ (wp_ret ?_)
  refine ret1 rfl hd (zA hN rfl) ⟨_, rfl, ?_⟩
  exact ⟨hb, congrArg Value.bool (by rw [flows_minus]; symm; first | exact decide_eq_true zx | exact decide_eq_false zx)⟩
 refine zD (zA hN rfl) ?_
 refine zB ?_
 refine hK57 _ _ (wp_ret ?_)
 refine ret1 rfl hd (zA hN rfl) ⟨_, rfl, ?_⟩
 exact ⟨hb, congrArg Value.bool (by rw [flows_minus]; symm; first | exact decide_eq_true zx | exact decide_eq_false zx)⟩
open Go.Sort (bitsLen)
open Go.Sort (bitsLen)
end Go.Proofs.Ythflnkfghogaoaa

namespace Go.Proofs.Ythflnkfghogaoaa
open Go.Gx
end Go.Proofs.Ythflnkfghogaoaa

namespace Go.Proofs.Ythflnkfghogaoaa
open Go.Gx
/-! how keys stand -/
end Go.Proofs.Ythflnkfghogaoaa

namespace Go.Proofs.Ythflnkfghogaoaa
open Go.Gx Go.RowKit
attribute [local irreducible] wpList wpStill Code.wp Calls

theorem normW_ret (l : Lb) (v : Value) (w : World) (hz : l.length ≤ 100000000) (hl : RdC w 0 w.heap.size 1 v l.length (l.map u16v)) : Ret Try.prog 96 #[v] w (fun v' w' => Below w.heap.size w w' ∧ ∃ u, v' = .tuple #[u, .int .i64 (normE l)] ∧ Own w' w.heap.size 74 1 u (normL l).length ((normL l).map u16v)) := by
 have hb := Below.refl w.heap.size w
 refine enter (N := 11) Try.func96 rfl rfl (by simp) fun a0 hN hd hA => ?_
 have s0 : a0.tmps.getD 0 undef = v := hA 0 (by simp)
 clear hA
 refine zF fun K1 hK1 => ?_
 refine zH ?_
 refine zD rfl ?_
 refine zD rfl ?_
 refine zB ?_
 refine hK1 _ _ (zF fun K2 hK2 => ?_)
 refine zH ?_
 refine zG (zC hN rfl s0) ?_
 refine zj ok116 (sortedW_ret l _ _ (by first | assumption | omega | (simp only [List.length_append, List.length_cons, List.length_nil, List.length_drop, List.length_take]; omega) | (dsimp only; omega) | decide | (simp [keyV, be8_len]; done)) (show RdC w 0 w.heap.size 1 v l.length (l.map u16v) from by have hh : RdC w 0 w.heap.size 1 _ _ _ := (hl.mono (L' := 0) (B' := w.heap.size) (Nat.zero_le _) zx); first | exact hh | exact hh.cast (by first | omega | (simp; try omega)) (by first | rfl | simp [u16v]))) ⟨(zA hN rfl), trivial⟩ ?_
 rintro v3 w4 ⟨E5, hO3⟩
 have E5 := zQ E5
 have := E5.size
 have hl := hl.keep0 E5
 have hb := zP hb E5 hb.size
 have hO3 := hO3.mono (base' := w.heap.size) zx
 refine zD (zA hN rfl) ?_
 refine zB ?_
 refine hK2 _ _ (zF fun K6 hK6 => ?_)
 refine zF fun K7 hK7 => ?_
 refine zH ?_
 refine zG (zA hN rfl) ?_
 refine op_len_rd Try.underlying42 (zA hN rfl) hO3.rdw ?_
 refine op_gtr (zA hN rfl) rfl (fun c9 => ?_) (fun c9 => ?_)
 ·
  refine zB ?_
  refine hK7 _ _ (wp_cond_true (zA hN rfl) (zF fun K8 hK8 => ?_))
  refine zH ?_
  refine zD rfl ?_
  refine zD rfl ?_
  refine zB ?_
  refine hK8 _ _ (wp_ret (zO ( ?_)))
  refine ret2 rfl hd (zA hN rfl) (zA hN rfl) ⟨_, rfl, ?_⟩
  have h8 : 8 < (nrm l).length := by omega
  rw [normE_bad h8, normL_bad h8]
  exact ⟨hb, _, rfl, Own.nil _ _ _ _⟩
 refine zB ?_
 refine hK7 _ _ (wp_cond_false (zA hN rfl) (wp_skip (hK6 _ _ (zF fun K9 hK9 => ?_))))
 refine zH ?_
 refine zG (zA hN rfl) ?_
 refine zD (zA hN rfl) ?_
 refine zD rfl ?_
 refine zB ?_
 refine hK9 _ _ (wp_ret ?_)
 refine ret2 rfl hd (zA hN rfl) (zA hN rfl) ⟨_, rfl, ?_⟩
 have h8 : ¬ 8 < (nrm l).length := by omega
 rw [normE_ok h8, normL_ok h8]
 exact ⟨hb, _, rfl, hO3⟩

theorem may1W_ret (x : UInt16) (m : Lb) (u : Value) (bc : Nat) (w : World) (hzm : m.length ≤ 1000000000000) (hbc : Bx w bc 75 [u]) (hm : RdC w 0 w.heap.size 1 u m.length (m.map u16v)) : Ret Try.prog 113 #[(.int .u16 (x.toNat : Int)), (ptr bc 0)] w (fun v' w' => Below w.heap.size w w' ∧ v' = .bool (inL x m)) := by
 have hb := Below.refl w.heap.size w
 refine enter (N := 8) Try.func113 rfl rfl (by simp) fun a0 hN hd hA => ?_
 have s0 : a0.tmps.getD 0 undef = (.int .u16 (x.toNat : Int)) := hA 0 (by simp)
 have s1 : a0.tmps.getD 1 undef = (ptr bc 0) := hA 1 (by simp)
 clear hA
 refine zF fun K1 hK1 => ?_
 refine zH ?_
 refine zD rfl ?_
 refine zB ?_
 refine hK1 _ _ (zF fun K2 hK2 => ?_)
 refine zH ?_
 refine zG (zC hN rfl s0) ?_
 refine op_bslice (e := 74) (pv := [(0, (.int .u16 (x.toNat : Int)))]) (cs := [(.int .u16 (x.toNat : Int))]) ⟨rfl, (zA hN rfl), trivial⟩ zy ?_
 intro w3 b4 lo_b4 hi_b4 hB6 E5
 have := E5.size
 have hbc := hbc.keep0 E5
 have hm := hm.keep0 E5
 have hb := zP hb E5 hb.size
 refine zN (v := u) one75 (zC hN rfl s1) (hbc.cell rfl) ?_
 refine zj ok114 (flowsW_ret [x] m _ _ _ (by first | assumption | omega | (simp only [List.length_append, List.length_cons, List.length_nil, List.length_drop, List.length_take]; omega) | (dsimp only; omega) | decide | (simp [keyV, be8_len]; done)) (by first | assumption | omega | (simp only [List.length_append, List.length_cons, List.length_nil, List.length_drop, List.length_take]; omega) | (dsimp only; omega) | decide | (simp [keyV, be8_len]; done)) (show RdC w3 0 w3.heap.size 1 (.slice (some ⟨b4, 0, none⟩) 1 1) [x].length ([x].map u16v) from by have hh : RdC w3 0 w3.heap.size 1 _ _ _ := ((RdC.ofBx (sz := 1) (n := 1) hB6 rfl zz).mono (L' := 0) (B' := w3.heap.size) (Nat.zero_le _) (by have := hB6.lt; omega)); first | exact hh | exact hh.cast (by first | omega | (simp; try omega)) (by first | rfl | simp [u16v])) (show RdC w3 0 w3.heap.size 1 u m.length (m.map u16v) from by have hh : RdC w3 0 w3.heap.size 1 _ _ _ := (hm.mono (L' := 0) (B' := w3.heap.size) (Nat.zero_le _) zx); first | exact hh | exact hh.cast (by first | omega | (simp; try omega)) (by first | rfl | simp [u16v]))) ⟨(zA hN rfl), ⟨(zA hN rfl), trivial⟩⟩ ?_
 rintro _ w7 ⟨E8, rfl⟩
 have E8 := zQ E8
 have := E8.size
 have hb := zP hb E8 hb.size
 refine zD (zA hN rfl) ?_
 refine zB ?_
 refine hK2 _ _ (wp_ret ?_)
 refine ret1 rfl hd (zA hN rfl) ⟨_, rfl, ?_⟩
 exact ⟨hb, congrArg Value.bool (flows_one x m)⟩

theorem oallW_ret (l : Lb) (v : Value) (m : Lb) (u : Value) (bc : Nat) (w : World) (hz : l.length ≤ 1000000000000) (hl : RdC w 0 w.heap.size 1 v l.length (l.map u16v)) (hzm : m.length ≤ 1000000000000) (hbc : Bx w bc 75 [u]) (hm : RdC w 0 w.heap.size 1 u m.length (m.map u16v)) : Ret Try.prog 112 #[v, (.func (.func 113) #[] #[(ptr bc 0)])] w (fun v' w' => Below w.heap.size w w' ∧ v' = .bool (flowsL l m)) := by
 have hbc_lt := hbc.lt
 have hb := Below.refl w.heap.size w
 refine enter (N := 18) Try.func112 rfl rfl (by simp) fun a0 hN hd hA => ?_
 have s0 : a0.tmps.getD 0 undef = v := hA 0 (by simp)
 have s1 : a0.tmps.getD 1 undef = (.func (.func 113) #[] #[(ptr bc 0)]) := hA 1 (by simp)
 clear hA
 refine zF fun K9 hK9 => ?_
 refine zH ?_
 refine zD rfl ?_
 refine zB ?_
 refine hK9 _ _ (zF fun K10 hK10 => ?_)
 refine zF fun K11 hK11 => ?_
 refine zH ?_
 refine zG (zC hN rfl s0) ?_
 refine op_len_rd Try.underlying42 (zA hN rfl) hl ?_
 refine zG rfl ?_
 refine zB ?_
 refine hK11 _ _ (wp_block ?_)
 refine loop_m (fun mz_ az_ w' => ∃ (i : Nat), mz_ = l.length - i ∧ (az_.tmps.getD 1 undef = (.func (.func 113) #[] #[(ptr bc 0)])) ∧ (az_.tmps.getD 7 undef = v) ∧ (az_.tmps.getD 8 undef = (.int .i64 ((l.length : Nat) : Int))) ∧ (az_.tmps.getD 9 undef = (.int .i64 ((i : Nat) : Int))) ∧ (i ≤ l.length) ∧ ((l.take i).all (fun x => inL x m) = true) ∧ (Below w.heap.size w w') ∧ (w.heap.size ≤ w'.heap.size) ∧ (RdC w' 0 w.heap.size 1 v l.length (l.map u16v)) ∧ (Bx w' bc 75 [u]) ∧ (RdC w' 0 w.heap.size 1 u m.length (m.map u16v))) _ hN hd ⟨0, rfl, (zL hN rfl s1), (zU hN rfl), (zU hN rfl), (zU hN rfl), Nat.zero_le _, rfl, hb, (Nat.le_refl _), hl, hbc, hm⟩ ?_
 rintro _ a12 w12 hN12 hd12 ⟨i, rfl, s12_1, s12_7, s12_8, s12_9, hi, hall, hb, zl_w12, hl, hbc, hm⟩
 have := hb.size
 refine zF fun K13 hK13 => ?_
 refine zH ?_
 refine op_lss (zC hN12 rfl s12_9) (zC hN12 rfl s12_8) (fun c10 => ?_) (fun c10 => ?_)
 ·
  refine zB ?_
  refine hK13 _ _ (zF fun K14 hK14 => ?_)
  refine wp_cond_true (zA hN12 rfl) (wp_skip (hK14 _ _ (zF fun K15 hK15 => ?_)))
  refine wp_block ?_
  refine zF fun K16 hK16 => ?_
  refine zH ?_
  refine zh slt42 (zC hN12 rfl s12_7) hl (zC hN12 rfl s12_9) zx zx ?_
  intro b17 o18 h0b17 h1b17 hc19
  refine zN (v := (Value.int .u16 ((l.getD i 0).toNat : Int))) one74 (zA hN12 rfl) (by have := hc19 0 (.int .u16 ((l.getD i 0).toNat : Int)) zz (el_u16 (i := i) zx zx); simpa using this) ?_
  refine zD (zA hN12 rfl) ?_
  refine zB ?_
  refine hK16 _ _ (zF fun K20 hK20 => ?_)
  refine zH ?_
  refine zG (zC hN12 rfl s12_1) ?_
  refine zG (zA hN12 rfl) ?_
  refine op_fnv (fs := []) (vs := [(.int .u16 ((l.getD i 0).toNat : Int))]) (cs := [(ptr bc 0)]) (zA hN12 rfl) ok113 ⟨(zA hN12 rfl), trivial⟩ (may1W_ret (l.getD i 0) m _ _ _ zx hbc (show RdC w12 0 w12.heap.size 1 u m.length (m.map u16v) from by have hh : RdC w12 0 w12.heap.size 1 _ _ _ := (hm.mono (L' := 0) (B' := w12.heap.size) (Nat.zero_le _) zx); first | exact hh | exact hh.cast (by first | omega | (simp; try omega)) (by first | rfl | simp [u16v]))) ?_
  rintro _ w21 ⟨E22, rfl⟩
  have E22 := zQ E22
  have := E22.size
  have hl := hl.keep0 E22
  have hbc := hbc.keep0 E22
  have hm := hm.keep0 E22
  have hb := zP hb E22 hb.size
  rcases Bool.eq_false_or_eq_true ((inL (l.getD i 0) m)) with c15 | c15
  ·
   rw [c15]
   refine op_not (zA hN12 rfl) ?_
   refine zB ?_
   refine hK20 _ _ (wp_cond_false (zA hN12 rfl) (wp_skip (hK15 _ _ (zH ?_))))
   refine op_add (zC hN12 rfl s12_9) rfl (add64 zx) ?_
   refine zG (zA hN12 rfl) ?_
   refine zB ?_
   -- round 10T 15T
   exact zg _ hN12 hd12 ⟨i + 1, rfl, (zL hN12 rfl s12_1), (zL hN12 rfl s12_7), (zL hN12 rfl s12_8), (zU hN12 rfl).trans (congrArg (Value.int .i64) zx), zx, (all_step zx hall c15), hb, zx, hl, hbc, hm⟩ zx
  rw [c15]
  refine op_not (zA hN12 rfl) ?_
  refine zB ?_
  refine hK20 _ _ (wp_cond_true (zA hN12 rfl) (zF fun K23 hK23 => ?_))
  refine zH ?_
  refine zD rfl ?_
  refine zB ?_
  refine hK23 _ _ (wp_ret (zb (zO (zO (zb (zO ( ?_)))))))
  refine ret1 rfl hd12 (zA hN12 rfl) ⟨_, rfl, ?_⟩
  exact ⟨hb, congrArg Value.bool (all_f (i := i) zx c15).symm⟩
 refine zB ?_
 refine hK13 _ _ (zF fun K24 hK24 => ?_)
 refine wp_cond_false (zA hN12 rfl) (wp_exit (then_exit (then_exit (blk_hit ?_))))
 refine hK10 _ _ (zF fun K25 hK25 => ?_)
 refine zH ?_
 refine zD rfl ?_
 refine zB ?_
 refine hK25 _ _ (wp_ret ?_)
 refine ret1 rfl hd12 (zA hN12 rfl) ⟨_, rfl, ?_⟩
 exact ⟨hb, congrArg Value.bool (all_end (i := i) zx hall).symm⟩

theorem omayW_ret (o l : Lb) (x v : Value) (w : World) (hzo : o.length ≤ 100000000) (hz : l.length ≤ 100000000) (ho : RdC w 0 w.heap.size 1 x o.length (o.map u16v)) (hl : RdC w 0 w.heap.size 1 v l.length (l.map u16v)) : Ret Try.prog 94 #[x, v] w (fun v' w' => Below w.heap.size w w' ∧ v' = .int .i64 (ownE o l)) := by
 have hb := Below.refl w.heap.size w
 refine enter (N := 21) Try.func94 rfl rfl (by simp) fun a0 hN hd hA => ?_
 have s0 : a0.tmps.getD 0 undef = x := hA 0 (by simp)
 have s1 : a0.tmps.getD 1 undef = v := hA 1 (by simp)
 clear hA
 refine zF fun K26 hK26 => ?_
 refine zH ?_
 refine op_box (cs := [x]) (zC hN rfl s0) (RdC.cells ho) ?_
 intro w27 b28 lo_b28 hi_b28 hB30 E29
 have := E29.size
 have ho := ho.keep0 E29
 have hl := hl.keep0 E29
 have hb := zP hb E29 hb.size
 refine zD rfl ?_
 refine zB ?_
 refine hK26 _ _ (zF fun K31 hK31 => ?_)
 refine zH ?_
 refine zG (zC hN rfl s1) ?_
 refine zj ok96 (normW_ret l _ _ (by first | assumption | omega | (simp only [List.length_append, List.length_cons, List.length_nil, List.length_drop, List.length_take]; omega) | (dsimp only; omega) | decide | (simp [keyV, be8_len]; done)) (show RdC w27 0 w27.heap.size 1 v l.length (l.map u16v) from by have hh : RdC w27 0 w27.heap.size 1 _ _ _ := (hl.mono (L' := 0) (B' := w27.heap.size) (Nat.zero_le _) zx); first | exact hh | exact hh.cast (by first | omega | (simp; try omega)) (by first | rfl | simp [u16v]))) ⟨(zA hN rfl), trivial⟩ ?_
 rintro _ w33 ⟨E34, v32, rfl, hO32⟩
 have E34 := zQ E34
 have := E34.size
 have ho := ho.keep0 E34
 have hl := hl.keep0 E34
 have hB30 := hB30.keep0 E34
 have hb := zP hb E34 hb.size
 have hO32 := hO32.mono (base' := w.heap.size) zx
 have hnl32 := normL_len l
 refine zG (zA hN rfl) ?_
 refine zW (zA hN rfl) rfl ?_
 refine zW (zA hN rfl) rfl ?_
 refine zD (zA hN rfl) ?_
 refine zD (zA hN rfl) ?_
 refine zB ?_
 refine hK31 _ _ (zF fun K35 hK35 => ?_)
 refine wp_block ?_
 refine zF fun K36 hK36 => ?_
 refine zH ?_
 refine zG (zA hN rfl) ?_
 refine op_neq (zA hN rfl) rfl (fun c14 => ?_) (fun c14 => ?_)
 ·
  refine zD (zA hN rfl) ?_
  refine zB ?_
  refine hK36 _ _ (wp_cond_true (zA hN rfl) (zF fun K37 hK37 => ?_))
  refine zH ?_
  refine zG (zA hN rfl) ?_
  refine zD (zA hN rfl) ?_
  refine zB ?_
  refine hK37 _ _ (wp_ret (zb (zO ( ?_))))
  refine ret1 rfl hd (zA hN rfl) ⟨_, rfl, ?_⟩
  exact ⟨hb, congrArg (Value.int .i64) (ownE_bad zx).symm⟩
 refine zD (zA hN rfl) ?_
 refine zB ?_
 refine hK36 _ _ (wp_cond_false (zA hN rfl) (zF fun K38 hK38 => ?_))
 refine zH ?_
 refine zG (zA hN rfl) ?_
 refine op_mkfn (cv := [(ptr b28 0)]) ⟨(zA hN rfl), trivial⟩ ?_
 refine zj ok112 (oallW_ret (normL l) _ o _ _ _ zx (show RdC w33 0 w33.heap.size 1 v32 (normL l).length ((normL l).map u16v) from by have hh : RdC w33 0 w33.heap.size 1 _ _ _ := (hO32.rdw.mono (L' := 0) (B' := w33.heap.size) (Nat.zero_le _) zx); first | exact hh | exact hh.cast (by first | omega | (simp; try omega)) (by first | rfl | simp [u16v])) zx hB30 (show RdC w33 0 w33.heap.size 1 x o.length (o.map u16v) from by have hh : RdC w33 0 w33.heap.size 1 _ _ _ := (ho.mono (L' := 0) (B' := w33.heap.size) (Nat.zero_le _) zx); first | exact hh | exact hh.cast (by first | omega | (simp; try omega)) (by first | rfl | simp [u16v]))) ⟨(zA hN rfl), ⟨(zA hN rfl), trivial⟩⟩ ?_
 rintro _ w39 ⟨E40, rfl⟩
 have E40 := zQ E40
 have := E40.size
 have hl := hl.keep0 E40
 have hb := zP hb E40 hb.size
 rcases Bool.eq_false_or_eq_true ((flowsL (normL l) o)) with c19 | c19
 ·
  rw [c19]
  refine op_not (zA hN rfl) ?_
  refine zD (zA hN rfl) ?_
  refine zB ?_
  refine hK38 _ _ (wp_cond_false (zA hN rfl) (wp_skip (hK35 _ _ (zF fun K41 hK41 => ?_))))
  refine zH ?_
  refine zD rfl ?_
  refine zB ?_
  refine hK41 _ _ (wp_ret ?_)
  refine ret1 rfl hd (zA hN rfl) ⟨_, rfl, ?_⟩
  exact ⟨hb, congrArg (Value.int .i64) (ownE_ok zx c19).symm⟩
 rw [c19]
 refine op_not (zA hN rfl) ?_
 refine zD (zA hN rfl) ?_
 refine zB ?_
 refine hK38 _ _ (wp_cond_true (zA hN rfl) (zF fun K42 hK42 => ?_))
 refine zH ?_
 refine zD rfl ?_
 refine zB ?_
 refine hK42 _ _ (wp_ret (zb (zO ( ?_))))
 refine ret1 rfl hd (zA hN rfl) ⟨_, rfl, ?_⟩
 exact ⟨hb, congrArg (Value.int .i64) (ownE_not zx c19).symm⟩

theorem IdxV {L : List DVw} {v : Value} {p : DVw → Bool} {w : World} (hl : RdC w 0 w.heap.size 15 v L.length (L.flatMap cellsW)) {g : Nat} {fs cs : List Value} (hokg : callOk Try.prog g = true) (hf : ∀ i, i < L.length → ∀ w1, Below w.heap.size w w1 → Ret Try.prog g (fs ++ [(Value.agg #[(Value.string (bs (L.getD i default).nm)), (L.getD i default).sv, (Value.int .i64 (L.getD i default).act.f.kind), (Value.string (bs (L.getD i default).act.f.tb)), (Value.string (bs (L.getD i default).act.f.nm)), (L.getD i default).act.f.cv, (L.getD i default).act.f.gv, (L.getD i default).act.f.vv, (L.getD i default).act.f.iv, (Value.string (bs (L.getD i default).act.f.join)), (L.getD i default).act.f.ov, (L.getD i default).act.f.wv, (L.getD i default).act.f.rv, (Value.bool (L.getD i default).act.f.desc), (L.getD i default).act.nv])] ++ cs).toArray w1 (fun v' w' => Below w1.heap.size w1 w' ∧ v' = .bool (p (L.getD i default)))) : Ret Try.prog 100 #[v, (Value.func (.func g) fs.toArray cs.toArray)] w (fun v' w' => Below w.heap.size w w' ∧ v' = .int .i64 (ixOf p L)) := by
 have hlm := rd_len hl
 have hb := Below.refl w.heap.size w
 refine enter (N := 19) Try.func100 rfl rfl (by simp) fun a0 hN hd hA => ?_
 have s0 : a0.tmps.getD 0 undef = v := hA 0 (by simp)
 have s1 : a0.tmps.getD 1 undef = (.func (.func g) fs.toArray cs.toArray) := hA 1 (by simp)
 clear hA
 refine zF fun K29 hK29 => ?_
 refine zH ?_
 refine zD rfl ?_
 refine zB ?_
 refine hK29 _ _ (zF fun K30 hK30 => ?_)
 refine zF fun K31 hK31 => ?_
 refine zH ?_
 refine zG (zC hN rfl s0) ?_
 refine op_len_rd Try.underlying37 (zA hN rfl) hl ?_
 refine zG rfl ?_
 refine zB ?_
 refine hK31 _ _ (wp_block ?_)
 refine loop_m (fun mz_ az_ w' => ∃ (i : Nat), mz_ = L.length - i ∧ (az_.tmps.getD 0 undef = v) ∧ (az_.tmps.getD 1 undef = (.func (.func g) fs.toArray cs.toArray)) ∧ (az_.tmps.getD 7 undef = (.int .i64 ((L.length : Nat) : Int))) ∧ (az_.tmps.getD 8 undef = (.int .i64 ((i : Nat) : Int))) ∧ (i ≤ L.length) ∧ (∀ j, j < i → p (L.getD j default) = false) ∧ (Below w.heap.size w w') ∧ (w.heap.size ≤ w'.heap.size) ∧ (RdC w' 0 w.heap.size 15 v L.length (L.flatMap cellsW))) _ hN hd ⟨0, rfl, (zL hN rfl s0), (zL hN rfl s1), (zU hN rfl), (zU hN rfl), (Nat.zero_le _), (fun _ h => absurd h (Nat.not_lt_zero _)), hb, (Nat.le_refl _), hl⟩ ?_
 rintro _ a32 w32 hN32 hd32 ⟨i, rfl, s32_0, s32_1, s32_7, s32_8, hi, hall, hb, zl_w32, hl⟩
 have := hb.size
 refine zF fun K33 hK33 => ?_
 refine zH ?_
 refine op_lss (zC hN32 rfl s32_8) (zC hN32 rfl s32_7) (fun c9 => ?_) (fun c9 => ?_)
 ·
  refine zB ?_
  refine hK33 _ _ (zF fun K34 hK34 => ?_)
  refine wp_cond_true (zA hN32 rfl) (wp_skip (hK34 _ _ (zF fun K35 hK35 => ?_)))
  refine wp_block ?_
  refine zF fun K36 hK36 => ?_
  refine zH ?_
  refine zG (zC hN32 rfl s32_8) ?_
  refine zD (zA hN32 rfl) ?_
  refine zB ?_
  refine hK36 _ _ (zF fun K37 hK37 => ?_)
  refine zH ?_
  refine zG (zC hN32 rfl s32_1) ?_
  refine zG (zC hN32 rfl s32_0) ?_
  refine zG (zA hN32 rfl) ?_
  refine zh slt37 (zA hN32 rfl) hl (zA hN32 rfl) zx zx ?_
  intro b38 o39 h0b38 h1b38 hc40
  refine zX (cs := [(.string (bs (L.getD i default).nm)), (L.getD i default).sv, (.int .i64 (L.getD i default).act.f.kind), (.string (bs (L.getD i default).act.f.tb)), (.string (bs (L.getD i default).act.f.nm)), (L.getD i default).act.f.cv, (L.getD i default).act.f.gv, (L.getD i default).act.f.vv, (L.getD i default).act.f.iv, (.string (bs (L.getD i default).act.f.join)), (L.getD i default).act.f.ov, (L.getD i default).act.f.wv, (L.getD i default).act.f.rv, (.bool (L.getD i default).act.f.desc), (L.getD i default).act.nv]) agg98 rfl (zA hN32 rfl) (fun j u hu => hc40 j u (by have := (List.getElem?_eq_some_iff.1 hu).1; simpa using this) ((el_dv (i := i) zx zx) j u hu)) ?_
  refine op_fnv (fs := fs) (vs := [(.agg #[(.string (bs (L.getD i default).nm)), (L.getD i default).sv, (.int .i64 (L.getD i default).act.f.kind), (.string (bs (L.getD i default).act.f.tb)), (.string (bs (L.getD i default).act.f.nm)), (L.getD i default).act.f.cv, (L.getD i default).act.f.gv, (L.getD i default).act.f.vv, (L.getD i default).act.f.iv, (.string (bs (L.getD i default).act.f.join)), (L.getD i default).act.f.ov, (L.getD i default).act.f.wv, (L.getD i default).act.f.rv, (.bool (L.getD i default).act.f.desc), (L.getD i default).act.nv])]) (cs := cs) (zA hN32 rfl) hokg ⟨(zA hN32 rfl), trivial⟩ (hf i zx _ hb) ?_
  rintro _ w41 ⟨E42, rfl⟩
  have E42 := zQ E42
  have := E42.size
  have hl := hl.keep0 E42
  have hb := zP hb E42 hb.size
  rcases Bool.eq_false_or_eq_true ((p (L.getD i default))) with c16 | c16
  ·
   rw [c16]
   refine zB ?_
   refine hK37 _ _ (wp_cond_true (zA hN32 rfl) (zF fun K43 hK43 => ?_))
   refine zH ?_
   refine zG (zA hN32 rfl) ?_
   refine zD (zA hN32 rfl) ?_
   refine zB ?_
   refine hK43 _ _ (wp_ret (zb (zO (zO (zb (zO ( ?_)))))))
   refine ret1 rfl hd32 (zA hN32 rfl) ⟨_, rfl, ?_⟩
   exact ⟨hb, congrArg (Value.int .i64) (ixOf_hit zx hall c16).symm⟩
  rw [c16]
  refine zB ?_
  refine hK37 _ _ (wp_cond_false (zA hN32 rfl) (wp_skip (hK35 _ _ (zH ?_))))
  refine op_add (zC hN32 rfl s32_8) rfl (add64 zx) ?_
  refine zG (zA hN32 rfl) ?_
  refine zB ?_
  -- round 9T 16F
  exact zg _ hN32 hd32 ⟨(i + 1), rfl, (zL hN32 rfl s32_0), (zL hN32 rfl s32_1), (zL hN32 rfl s32_7), (zU hN32 rfl).trans (congrArg (Value.int .i64) zx), zx, (all_next hall c16), hb, zx, hl⟩ zx
 refine zB ?_
 refine hK33 _ _ (zF fun K44 hK44 => ?_)
 refine wp_cond_false (zA hN32 rfl) (wp_exit (then_exit (then_exit (blk_hit ?_))))
 refine hK30 _ _ (zF fun K45 hK45 => ?_)
 refine zH ?_
 refine zD rfl ?_
 refine zB ?_
 refine hK45 _ _ (wp_ret ?_)
 refine ret1 rfl hd32 (zA hN32 rfl) ⟨_, rfl, ?_⟩
 exact ⟨hb, congrArg (Value.int .i64) (ixOf_none zx hall).symm⟩

theorem ofView_ret (d : DVw) (w : World) : Ret Try.prog 78 #[(.agg #[(.string (bs d.nm)), d.sv, (.int .i64 d.act.f.kind), (.string (bs d.act.f.tb)), (.string (bs d.act.f.nm)), d.act.f.cv, d.act.f.gv, d.act.f.vv, d.act.f.iv, (.string (bs d.act.f.join)), d.act.f.ov, d.act.f.wv, d.act.f.rv, (.bool d.act.f.desc), d.act.nv])] w (fun v' w' => Below w.heap.size w w' ∧ v' = .string (bs d.nm)) := by
 have hb := Below.refl w.heap.size w
 refine enter (N := 5) Try.func78 rfl rfl (by simp) fun a0 hN hd hA => ?_
 have s0 : a0.tmps.getD 0 undef = (.agg #[(.string (bs d.nm)), d.sv, (.int .i64 d.act.f.kind), (.string (bs d.act.f.tb)), (.string (bs d.act.f.nm)), d.act.f.cv, d.act.f.gv, d.act.f.vv, d.act.f.iv, (.string (bs d.act.f.join)), d.act.f.ov, d.act.f.wv, d.act.f.rv, (.bool d.act.f.desc), d.act.nv]) := hA 0 (by simp)
 clear hA
 refine zF fun K46 hK46 => ?_
 refine zH ?_
 refine op_box (cs := [(.string (bs d.nm)), d.sv, (.int .i64 d.act.f.kind), (.string (bs d.act.f.tb)), (.string (bs d.act.f.nm)), d.act.f.cv, d.act.f.gv, d.act.f.vv, d.act.f.iv, (.string (bs d.act.f.join)), d.act.f.ov, d.act.f.wv, d.act.f.rv, (.bool d.act.f.desc), d.act.nv]) (zC hN rfl s0) rfl ?_
 intro w47 b48 lo_b48 hi_b48 hB50 E49
 have := E49.size
 have hb := zP hb E49 hb.size
 refine zD rfl ?_
 refine zB ?_
 refine hK46 _ _ (zF fun K51 hK51 => ?_)
 refine zH ?_
 refine zM fld98_0 (zA hN rfl) ?_
 refine zN (v := (Value.string (bs d.nm))) one9 (zA hN rfl) (hB50.cell rfl) ?_
 refine zD (zA hN rfl) ?_
 refine zB ?_
 refine hK51 _ _ (wp_ret ?_)
 refine ret1 rfl hd (zA hN rfl) ⟨_, rfl, ?_⟩
 exact ⟨hb, rfl⟩

theorem find1View (d : DVw) (x : List UInt8) {fb nb : Nat} {w : World} (hf9 : Bx w fb 125 [.func (.func 78) #[] #[]]) (hn9 : Bx w nb 9 [.string (bs x)]) : Ret Try.prog 101 #[(.agg #[(.string (bs d.nm)), d.sv, (.int .i64 d.act.f.kind), (.string (bs d.act.f.tb)), (.string (bs d.act.f.nm)), d.act.f.cv, d.act.f.gv, d.act.f.vv, d.act.f.iv, (.string (bs d.act.f.join)), d.act.f.ov, d.act.f.wv, d.act.f.rv, (.bool d.act.f.desc), d.act.nv]), (ptr fb 0), (ptr nb 0)] w (fun v' w' => Below w.heap.size w w' ∧ v' = .bool (decide (d.nm = x))) := by
 have hb := Below.refl w.heap.size w
 refine enter (N := 10) Try.func101 rfl rfl (by simp) fun a0 hN hd hA => ?_
 have s0 : a0.tmps.getD 0 undef = (.agg #[(.string (bs d.nm)), d.sv, (.int .i64 d.act.f.kind), (.string (bs d.act.f.tb)), (.string (bs d.act.f.nm)), d.act.f.cv, d.act.f.gv, d.act.f.vv, d.act.f.iv, (.string (bs d.act.f.join)), d.act.f.ov, d.act.f.wv, d.act.f.rv, (.bool d.act.f.desc), d.act.nv]) := hA 0 (by simp)
 have s1 : a0.tmps.getD 1 undef = (ptr fb 0) := hA 1 (by simp)
 have s2 : a0.tmps.getD 2 undef = (ptr nb 0) := hA 2 (by simp)
 clear hA
 refine zF fun K52 hK52 => ?_
 refine zH ?_
 refine op_box (cs := [(.string (bs d.nm)), d.sv, (.int .i64 d.act.f.kind), (.string (bs d.act.f.tb)), (.string (bs d.act.f.nm)), d.act.f.cv, d.act.f.gv, d.act.f.vv, d.act.f.iv, (.string (bs d.act.f.join)), d.act.f.ov, d.act.f.wv, d.act.f.rv, (.bool d.act.f.desc), d.act.nv]) (zC hN rfl s0) rfl ?_
 intro w53 b54 lo_b54 hi_b54 hB56 E55
 have := E55.size
 have hf9 := hf9.keep0 E55
 have hn9 := hn9.keep0 E55
 have hb := zP hb E55 hb.size
 refine zD rfl ?_
 refine zB ?_
 refine hK52 _ _ (zF fun K57 hK57 => ?_)
 refine reg_split (hd := [_, _, _, _]) (tl := _) 4 mixed zy rfl rfl ?_
 refine any_env (φ := phiV [(fun uz => uz = (.func (.func 78) #[] #[])), (fun uz => uz = (.agg #[(.string (bs d.nm)), d.sv, (.int .i64 d.act.f.kind), (.string (bs d.act.f.tb)), (.string (bs d.act.f.nm)), d.act.f.cv, d.act.f.gv, d.act.f.vv, d.act.f.iv, (.string (bs d.act.f.join)), d.act.f.ov, d.act.f.wv, d.act.f.rv, (.bool d.act.f.desc), d.act.nv])), (fun _ => True), (fun uz => uz = (.string (bs x)))]) (G := fun w' => Bx w' fb 125 [(.func (.func 78) #[] #[])] ∧ Bx w' b54 98 [(.string (bs d.nm)), d.sv, (.int .i64 d.act.f.kind), (.string (bs d.act.f.tb)), (.string (bs d.act.f.nm)), d.act.f.cv, d.act.f.gv, d.act.f.vv, d.act.f.iv, (.string (bs d.act.f.join)), d.act.f.ov, d.act.f.wv, d.act.f.rv, (.bool d.act.f.desc), d.act.nv] ∧ Bx w' nb 9 [(.string (bs x))]) [2] zy zy zy zy hN (fun w1 w2 E h => by obtain ⟨h0, h1, h2⟩ := h; exact ⟨h0.keep0 E, h1.keep0 E, h2.keep0 E⟩) ⟨hf9, hB56, hn9⟩ (ObEs.cons ?_ (ObEs.cons ?_ (ObEs.pass rfl (ObEs.cons ?_ (ObEs.nil))))) (by simp only [putsL_defers]) ?_
 ·
  intro eA aA wA hNA hGA hbsA hdpA
  have qA_1 := (hbsA 1 rfl).trans (zL hN rfl s1)
  obtain ⟨hf9, hB56, hn9⟩ := hGA
  refine zN (v := (Value.func (.func 78) #[] #[])) one125 (zC hNA rfl qA_1) (hf9.cell rfl) ?_
  exact obE_end rfl rfl rfl
 ·
  intro eA aA wA hNA hGA hbsA hdpA
  have qA_3 := (hbsA 3 rfl).trans (zU hN rfl)
  obtain ⟨hf9, hB56, hn9⟩ := hGA
  refine zY agg98 rfl (zC hNA rfl qA_3) hB56 ?_
  exact obE_end rfl rfl rfl
 ·
  intro eA aA wA hNA hGA hbsA hdpA
  have qA_2 := (hbsA 2 rfl).trans (zL hN rfl s2)
  obtain ⟨hf9, hB56, hn9⟩ := hGA
  refine zN (v := (Value.string (bs x))) one9 (zC hNA rfl qA_2) (hn9.cell rfl) ?_
  exact obE_end rfl rfl rfl
 intro w58 E58 _ a58 hN58 hbs58 hdp58 o_ ho_; obtain rfl := zE ho_
 have := E58.size
 have hf9 := hf9.keep0 E58
 have hn9 := hn9.keep0 E58
 have hB56 := hB56.keep0 E58
 have hb := zP hb E58 hb.size
 have q58_5 : Sl a58 5 (.func (.func 78) #[] #[]) := (hdp58 0 _ 5 zy rfl rfl).2 rfl
 have q58_6 : Sl a58 6 (.agg #[(.string (bs d.nm)), d.sv, (.int .i64 d.act.f.kind), (.string (bs d.act.f.tb)), (.string (bs d.act.f.nm)), d.act.f.cv, d.act.f.gv, d.act.f.vv, d.act.f.iv, (.string (bs d.act.f.join)), d.act.f.ov, d.act.f.wv, d.act.f.rv, (.bool d.act.f.desc), d.act.nv]) := (hdp58 1 _ 6 zy rfl rfl).2 rfl
 refine op_fnv (fs := []) (vs := [(.agg #[(.string (bs d.nm)), d.sv, (.int .i64 d.act.f.kind), (.string (bs d.act.f.tb)), (.string (bs d.act.f.nm)), d.act.f.cv, d.act.f.gv, d.act.f.vv, d.act.f.iv, (.string (bs d.act.f.join)), d.act.f.ov, d.act.f.wv, d.act.f.rv, (.bool d.act.f.desc), d.act.nv])]) (cs := []) (zC hN58 rfl q58_5) ok78 ⟨(zC hN58 rfl q58_6), trivial⟩ (ofView_ret d _) ?_
 rintro _ w59 ⟨E60, rfl⟩
 have E60 := zQ E60
 have := E60.size
 have hf9 := hf9.keep0 E60
 have hn9 := hn9.keep0 E60
 have hB56 := hB56.keep0 E60
 have hb := zP hb E60 hb.size
 refine ke_end rfl zz rfl ⟨hf9, hB56, hn9⟩ ?_
 intro w61 E61 a61 hN61 hd61 hbs61 hph61
 have hd61 := hd61.trans ((by simp only [putsL_defers] : _ = _).trans hd)
 have := E61.size
 have hn9 := hn9.keep0 E61
 have hb := zP hb E61 hb.size
 have s61_7 : Sl a61 7 (.string (bs d.nm)) := (zE ((hph61 2 _ 7 rfl rfl).1 0 rfl)).symm
 have s61_8 : Sl a61 8 (.string (bs x)) := (hph61 3 _ 8 rfl rfl).2 rfl
 refine split_end ?_
 refine from_seq (tl := [_, _]) zz zy rfl ?_
 refine op_seql (zC hN61 rfl s61_7) (zC hN61 rfl s61_8) (fun c9 => ?_) (fun c9 => ?_)
 ·
  refine zD (zA hN61 rfl) ?_
  refine zB ?_
  refine hK57 _ _ (wp_ret ?_)
  refine ret1 rfl hd61 (zA hN61 rfl) ⟨_, rfl, ?_⟩
  exact ⟨hb, congrArg Value.bool (decide_eq_true c9).symm⟩
 refine zD (zA hN61 rfl) ?_
 refine zB ?_
 refine hK57 _ _ (wp_ret ?_)
 refine ret1 rfl hd61 (zA hN61 rfl) ⟨_, rfl, ?_⟩
 exact ⟨hb, congrArg Value.bool (decide_eq_false c9).symm⟩

theorem findView {L : List DVw} {v : Value} (x : List UInt8) {w : World} (hl : RdC w 0 w.heap.size 15 v L.length (L.flatMap cellsW)) : Ret Try.prog 77 #[v, (.string (bs x)), (.func (.func 78) #[] #[])] w (fun v' w' => Below w.heap.size w w' ∧ v' = .int .i64 (ixOf (fun d => decide (d.nm = x)) L)) := by
 have hb := Below.refl w.heap.size w
 refine enter (N := 10) Try.func77 rfl rfl (by simp) fun a0 hN hd hA => ?_
 have s0 : a0.tmps.getD 0 undef = v := hA 0 (by simp)
 have s1 : a0.tmps.getD 1 undef = (.string (bs x)) := hA 1 (by simp)
 have s2 : a0.tmps.getD 2 undef = (.func (.func 78) #[] #[]) := hA 2 (by simp)
 clear hA
 refine zF fun K62 hK62 => ?_
 refine zH ?_
 refine op_box (cs := [(.string (bs x))]) (zC hN rfl s1) rfl ?_
 intro w63 b64 lo_b64 hi_b64 hB66 E65
 have := E65.size
 have hl := hl.keep0 E65
 have hb := zP hb E65 hb.size
 refine op_box (cs := [(.func (.func 78) #[] #[])]) (zC hN rfl s2) rfl ?_
 intro w67 b68 lo_b68 hi_b68 hB70 E69
 have := E69.size
 have hl := hl.keep0 E69
 have hB66 := hB66.keep0 E69
 have hb := zP hb E69 hb.size
 refine zD rfl ?_
 refine zB ?_
 refine hK62 _ _ (zF fun K71 hK71 => ?_)
 refine zH ?_
 refine zG (zC hN rfl s0) ?_
 refine op_mkfn (cv := [(ptr b68 0), (ptr b64 0)]) ⟨(zA hN rfl), ⟨(zA hN rfl), trivial⟩⟩ ?_
 refine zj ok100 (IdxV (g := 101) (fs := []) (cs := [(ptr b68 0), (ptr b64 0)]) (p := (fun d => decide (d.nm = x))) (hl.mono (Nat.zero_le _) zx) ok101 (fun i hi w1 E9 => find1View (L.getD i default) x (hB70.keep0 (zQ E9)) (hB66.keep0 (zQ E9)))) ⟨(zA hN rfl), ⟨(zA hN rfl), trivial⟩⟩ ?_
 rintro _ w72 ⟨E73, rfl⟩
 have E73 := zQ E73
 have := E73.size
 have hl := hl.keep0 E73
 have hb := zP hb E73 hb.size
 refine zD (zA hN rfl) ?_
 refine zB ?_
 refine hK71 _ _ (wp_ret ?_)
 refine ret1 rfl hd (zA hN rfl) ⟨_, rfl, ?_⟩
 exact ⟨hb, rfl⟩

set_option maxHeartbeats 1000000 in
theorem view_ret {tv vv : Value} {D : List DTab} {V : List DVw} {F FV : Nat → Prop} {base Bs : Nat} {s : XS} {w : World} {o : Lb} {kk : List Int} {ow kv : Value} (O : Own w base 55 3 tv D.length (D.flatMap cellsT)) (S : TabsR w base D F) (P : Own w base 98 15 vv V.length (V.flatMap cellsW)) (Q : VsIn w base V FV) (d1 : Dj (Bl vv) FV) (d2 : Dj (Bl tv) FV) (hD : D.length ≤ 1000000) (hsz : ∀ d ∈ D, d.t.cols.length ≤ 1000000 ∧ d.t.idx.length ≤ 1000000) (hVz : V.length ≤ 1000) (he : SFr w 0 Bs s) (hBs : Bs ≤ base) (hbw : base ≤ w.heap.size) (hol : o.length ≤ 100) (ho : RdC w 0 w.heap.size 1 ow o.length (o.map u16v)) (hk : RdC w 0 w.heap.size 1 kv kk.length (kk.map (Value.int .i64))) : Ret Try.prog 63 #[(.agg #[tv, vv]), (.agg #[(.int .i64 s.f.kind), (.string (bs s.f.tb)), (.string (bs s.f.nm)), s.f.cv, s.f.gv, s.f.vv, s.f.iv, (.string (bs s.f.join)), s.f.ov, s.f.wv, s.f.rv, (.bool s.f.desc), s.nv]), ow, kv] w (fun v' w' => Gr w w' (Bl vv) ∧ ∃ (vv' : Value) (V' : List DVw) (F' : Nat → Prop), v' = .tuple #[.agg #[tv, vv'], .int .i64 (viewE (V.map DVw.nm) o s kk)] ∧ Own w' base 98 15 vv' V'.length (V'.flatMap cellsW) ∧ VsIn w' base V' F' ∧ NewF w.heap.size FV F' ∧ V'.length ≤ 1000 ∧ ((viewE (V.map DVw.nm) o s kk) = 0 → ∃ d, V' = V ++ [d] ∧ NewV s d) ∧ ((viewE (V.map DVw.nm) o s kk) ≠ 0 → V' = V)) := by
 obtain ⟨hfc, hfg, hfv, hfi, hfo, hfw, hfr⟩ := he.ff
 have hfn := he.inn
 obtain ⟨⟨hs1, hs2, hs3⟩, hs4⟩ := he.sm
 have hfnR := hfn.1
 have hb := Gr.refl w (Bl vv)
 refine enter (N := 73) Try.func63 rfl rfl (by simp) fun a0 hN hd hA => ?_
 have s0 : a0.tmps.getD 0 undef = (.agg #[tv, vv]) := hA 0 (by simp)
 have s1 : a0.tmps.getD 1 undef = (.agg #[(.int .i64 s.f.kind), (.string (bs s.f.tb)), (.string (bs s.f.nm)), s.f.cv, s.f.gv, s.f.vv, s.f.iv, (.string (bs s.f.join)), s.f.ov, s.f.wv, s.f.rv, (.bool s.f.desc), s.nv]) := hA 1 (by simp)
 have s2 : a0.tmps.getD 2 undef = ow := hA 2 (by simp)
 have s3 : a0.tmps.getD 3 undef = kv := hA 3 (by simp)
 clear hA
 refine zF fun K1 hK1 => ?_
 refine zH ?_
 refine op_box (cs := [tv, vv]) (zC hN rfl s0) rfl ?_
 intro w2 b3 lo_b3 hi_b3 hB5 E4
 have dj7 : ¬ FV b3 := fun hf => by have := (Q.lt _ hf).2; omega
 have := E4.size
 have O := O.keep0 E4
 have P := P.keep0 E4
 have Q := Q.keepG (zi E4 NoB) (fun _ _ h => h)
 have hfg := hfg.keep0 E4
 have hfn := hfn.keep0 E4
 have ho := ho.keep0 E4
 have hk := hk.keep0 E4
 have hfnR := hfnR.keep0 E4
 have hb := hb.step0 E4
 refine op_box (cs := [(.int .i64 s.f.kind), (.string (bs s.f.tb)), (.string (bs s.f.nm)), s.f.cv, s.f.gv, s.f.vv, s.f.iv, (.string (bs s.f.join)), s.f.ov, s.f.wv, s.f.rv, (.bool s.f.desc), s.nv]) (zC hN rfl s1) rfl ?_
 intro w8 b9 lo_b9 hi_b9 hB11 E10
 have := E10.size
 have O := O.keep0 E10
 have P := P.keep0 E10
 have Q := Q.keepG (zi E10 NoB) (fun _ _ h => h)
 have hfg := hfg.keep0 E10
 have hfn := hfn.keep0 E10
 have ho := ho.keep0 E10
 have hk := hk.keep0 E10
 have hfnR := hfnR.keep0 E10
 have hB5 := hB5.keep0 E10
 have hb := hb.step0 E10
 refine op_alloc (cs := [(.slice none 0 0), (.slice none 0 0)]) zero39 rfl ?_
 intro w14 b15 lo_b15 hi_b15 hB17 E16
 have dj19 : ¬ FV b15 := fun hf => by have := (Q.lt _ hf).2; omega
 have := E16.size
 have O := O.keep0 E16
 have P := P.keep0 E16
 have Q := Q.keepG (zi E16 NoB) (fun _ _ h => h)
 have hfg := hfg.keep0 E16
 have hfn := hfn.keep0 E16
 have ho := ho.keep0 E16
 have hk := hk.keep0 E16
 have hfnR := hfnR.keep0 E16
 obtain ⟨hB5, hB11⟩ := kb2 E16 hB5 hB11
 have hb := hb.step0 E16
 refine zD rfl ?_
 refine zB ?_
 refine hK1 _ _ (zF fun K20 hK20 => ?_)
 refine zH ?_
 refine zG (zC hN rfl s2) ?_
 refine zM fld45_4 (zA hN rfl) ?_
 refine zN (v := s.f.gv) one42 (zA hN rfl) (hB11.cell rfl) ?_
 refine zj ok94 (omayW_ret o s.f.tags _ _ _ (by first | assumption | omega | (simp only [List.length_append, List.length_cons, List.length_nil, List.length_drop, List.length_take]; omega) | (dsimp only; omega) | decide | (simp [keyV, be8_len]; done)) (by first | assumption | omega | (simp only [List.length_append, List.length_cons, List.length_nil, List.length_drop, List.length_take]; omega) | (dsimp only; omega) | decide | (simp [keyV, be8_len]; done)) (show RdC w14 0 w14.heap.size 1 ow o.length (o.map u16v) from by have hh : RdC w14 0 w14.heap.size 1 _ _ _ := (ho.mono (L' := 0) (B' := w14.heap.size) (Nat.zero_le _) zx); first | exact hh | exact hh.cast (by first | omega | (simp; try omega)) (by first | rfl | simp [u16v])) (show RdC w14 0 w14.heap.size 1 s.f.gv s.f.tags.length (s.f.tags.map u16v) from by have hh : RdC w14 0 w14.heap.size 1 _ _ _ := (hfg.mono (L' := 0) (B' := w14.heap.size) (Nat.zero_le _) zx); first | exact hh | exact hh.cast (by first | omega | (simp; try omega)) (by first | rfl | simp [u16v]))) ⟨(zA hN rfl), ⟨(zA hN rfl), trivial⟩⟩ ?_
 rintro _ w21 ⟨E22, rfl⟩
 have E22 := zQ E22
 have := E22.size
 have O := O.keep0 E22
 have P := P.keep0 E22
 have Q := Q.keepG (zi E22 NoB) (fun _ _ h => h)
 have hfg := hfg.keep0 E22
 have hfn := hfn.keep0 E22
 have hk := hk.keep0 E22
 have hfnR := hfnR.keep0 E22
 obtain ⟨hB5, hB11, hB17⟩ := kb3 E22 hB5 hB11 hB17
 have hb := hb.step0 E22
 refine zD (zA hN rfl) ?_
 refine zB ?_
 refine hK20 _ _ (zF fun K23 hK23 => ?_)
 refine wp_block ?_
 refine zF fun K24 hK24 => ?_
 refine zH ?_
 refine zM fld39_1 (zA hN rfl) ?_
 refine zN (v := vv) one37 (zA hN rfl) (hB5.cell rfl) ?_
 refine zM fld45_2 (zA hN rfl) ?_
 refine zN (v := (Value.string (bs s.f.nm))) one9 (zA hN rfl) (hB11.cell rfl) ?_
 refine zj ok77 (findView (L := (V : List DVw)) s.f.nm (P.rdw.mono (Nat.zero_le _) zx)) ⟨(zA hN rfl), ⟨(zA hN rfl), ⟨rfl, trivial⟩⟩⟩ ?_
 rintro _ w25 ⟨E26, rfl⟩
 have E26 := zQ E26
 have := E26.size
 have O := O.keep0 E26
 have P := P.keep0 E26
 have Q := Q.keepG (zi E26 NoB) (fun _ _ h => h)
 have hfg := hfg.keep0 E26
 have hfn := hfn.keep0 E26
 have hk := hk.keep0 E26
 have hfnR := hfnR.keep0 E26
 obtain ⟨hB5, hB11, hB17⟩ := kb3 E26 hB5 hB11 hB17
 have hb := hb.step0 E26
 refine op_geq (zA hN rfl) rfl (fun c23 => ?_) (fun c23 => ?_)
 ·
  refine zD (zA hN rfl) ?_
  refine zB ?_
  refine hK24 _ _ (wp_cond_true (zA hN rfl) (zF fun K27 hK27 => ?_))
  refine zH ?_
  refine zY agg39 rfl (zA hN rfl) hB5 ?_
  have hB17_old := hB17
  refine zZ size39 (zA hN rfl) (zA hN rfl) rfl (by simp only [List.all_cons, List.all_nil, Bool.true_and, Bool.and_true, O.one, P.one]; try rfl) hB17 rfl ?_
  intro w30 hB17 E31
  have := E31.size
  have P := P.keepX hB17_old E31 zz
  have Q := Q.keepG (Gr.of E31) (Dj.one dj19)
  have hb := hb.step1 E31 zx
  refine zD rfl ?_
  refine zB ?_
  refine hK27 _ _ (wp_ret (zb (zO ( ?_))))
  refine retN (rs := [.cell 8 39, .tmp 9]) (vs := [(.agg #[tv, vv]), (.int .i64 12)]) rfl hd ⟨⟨_, (zA hN rfl), run_loadA (cs := [tv, vv]) agg39 rfl (fun j u hu => by rw [Nat.zero_add]; exact hB17.cell hu)⟩, ⟨(zA hN rfl), trivial⟩⟩ rfl ⟨_, rfl, ?_⟩
  have e9 : (viewE (V.map DVw.nm) o s kk) = 12 := if_pos (vw_mem.1 c23)
  rw [e9]; exact ⟨hb, _, V, FV, rfl, P, Q, NewF.refl _ _, hVz, fun h => absurd h (by first | decide | exact c33), fun _ => rfl⟩
 refine zD (zA hN rfl) ?_
 refine zB ?_
 refine hK24 _ _ (wp_cond_false (zA hN rfl) (zF fun K32 hK32 => ?_))
 refine zH ?_
 refine zM fld39_1 (zA hN rfl) ?_
 refine zN (v := vv) one37 (zA hN rfl) (hB5.cell rfl) ?_
 refine op_len_rd Try.underlying37 (zA hN rfl) P.rdw ?_
 refine op_geq (zA hN rfl) rfl (fun c29 => ?_) (fun c29 => ?_)
 ·
  refine zD (zA hN rfl) ?_
  refine zB ?_
  refine hK32 _ _ (wp_cond_true (zA hN rfl) (zF fun K33 hK33 => ?_))
  refine zH ?_
  refine zY agg39 rfl (zA hN rfl) hB5 ?_
  have hB17_old := hB17
  refine zZ size39 (zA hN rfl) (zA hN rfl) rfl (by simp only [List.all_cons, List.all_nil, Bool.true_and, Bool.and_true, O.one, P.one]; try rfl) hB17 rfl ?_
  intro w36 hB17 E37
  have := E37.size
  have P := P.keepX hB17_old E37 zz
  have Q := Q.keepG (Gr.of E37) (Dj.one dj19)
  have hb := hb.step1 E37 zx
  refine zD rfl ?_
  refine zB ?_
  refine hK33 _ _ (wp_ret (zb (zO ( ?_))))
  refine retN (rs := [.cell 8 39, .tmp 9]) (vs := [(.agg #[tv, vv]), (.int .i64 25)]) rfl hd ⟨⟨_, (zA hN rfl), run_loadA (cs := [tv, vv]) agg39 rfl (fun j u hu => by rw [Nat.zero_add]; exact hB17.cell hu)⟩, ⟨(zA hN rfl), trivial⟩⟩ rfl ⟨_, rfl, ?_⟩
  have e9 : (viewE (V.map DVw.nm) o s kk) = 25 := by unfold viewE; rw [if_neg (fun h => c23 (vw_mem.2 h)), if_pos (by rw [List.length_map]; omega)]
  rw [e9]; exact ⟨hb, _, V, FV, rfl, P, Q, NewF.refl _ _, hVz, fun h => absurd h (by first | decide | exact c33), fun _ => rfl⟩
 refine zD (zA hN rfl) ?_
 refine zB ?_
 refine hK32 _ _ (wp_cond_false (zA hN rfl) (zF fun K38 hK38 => ?_))
 refine zH ?_
 refine zG (zA hN rfl) ?_
 refine op_neq (zA hN rfl) rfl (fun c33 => ?_) (fun c33 => ?_)
 ·
  refine zD (zA hN rfl) ?_
  refine zB ?_
  refine hK38 _ _ (wp_cond_true (zA hN rfl) (zF fun K39 hK39 => ?_))
  refine zH ?_
  refine zY agg39 rfl (zA hN rfl) hB5 ?_
  refine zG (zA hN rfl) ?_
  have hB17_old := hB17
  refine zZ size39 (zA hN rfl) (zA hN rfl) rfl (by simp only [List.all_cons, List.all_nil, Bool.true_and, Bool.and_true, O.one, P.one]; try rfl) hB17 rfl ?_
  intro w42 hB17 E43
  have := E43.size
  have P := P.keepX hB17_old E43 zz
  have Q := Q.keepG (Gr.of E43) (Dj.one dj19)
  have hb := hb.step1 E43 zx
  refine zD (zA hN rfl) ?_
  refine zB ?_
  refine hK39 _ _ (wp_ret (zb (zO ( ?_))))
  refine retN (rs := [.cell 8 39, .tmp 9]) (vs := [(.agg #[tv, vv]), (.int .i64 (ownE o s.f.tags))]) rfl hd ⟨⟨_, (zA hN rfl), run_loadA (cs := [tv, vv]) agg39 rfl (fun j u hu => by rw [Nat.zero_add]; exact hB17.cell hu)⟩, ⟨(zA hN rfl), trivial⟩⟩ rfl ⟨_, rfl, ?_⟩
  have e9 : (viewE (V.map DVw.nm) o s kk) = (ownE o s.f.tags) := by unfold viewE; rw [if_neg (fun h => c23 (vw_mem.2 h)), if_neg (by rw [List.length_map]; omega), if_pos c33]
  rw [e9]; exact ⟨hb, _, V, FV, rfl, P, Q, NewF.refl _ _, hVz, fun h => absurd h (by first | decide | exact c33), fun _ => rfl⟩
 refine zD (zA hN rfl) ?_
 refine zB ?_
 refine hK38 _ _ (wp_cond_false (zA hN rfl) (zF fun K44 hK44 => ?_))
 refine zH ?_
 refine zM fld45_12 (zA hN rfl) ?_
 refine zN (v := s.nv) one43 (zA hN rfl) (hB11.cell rfl) ?_
 refine op_len_rd Try.underlying43 (zA hN rfl) hfnR ?_
 refine op_neq (zA hN rfl) rfl (fun c40 => ?_) (fun c40 => ?_)
 ·
  refine zG (zA hN rfl) ?_
  refine zR (j := 4) (dj := 41) (b := false) rfl rfl rfl (zA hN rfl) rfl rfl ?_
  refine zR (j := 4) (dj := 41) (b := false) rfl rfl rfl (zA hN rfl) rfl rfl ?_
  refine zR (j := 4) (dj := 41) (b := false) rfl rfl rfl (zA hN rfl) rfl rfl ?_
  refine zR (j := 4) (dj := 41) (b := false) rfl rfl rfl (zA hN rfl) rfl rfl ?_
  refine zR (j := 4) (dj := 41) (b := false) rfl rfl rfl (zA hN rfl) rfl rfl ?_
  refine zR (j := 4) (dj := 41) (b := false) rfl rfl rfl (zA hN rfl) rfl rfl ?_
  refine zR (j := 4) (dj := 41) (b := false) rfl rfl rfl (zA hN rfl) rfl rfl ?_
  refine zR (j := 4) (dj := 41) (b := false) rfl rfl rfl (zA hN rfl) rfl rfl ?_
  refine zc (zA hN rfl) rfl ?_
  refine zD (zA hN rfl) ?_
  refine zB ?_
  refine hK44 _ _ (wp_cond_true (zA hN rfl) (zF fun K45 hK45 => ?_))
  refine zH ?_
  refine zY agg39 rfl (zA hN rfl) hB5 ?_
  have hB17_old := hB17
  refine zZ size39 (zA hN rfl) (zA hN rfl) rfl (by simp only [List.all_cons, List.all_nil, Bool.true_and, Bool.and_true, O.one, P.one]; try rfl) hB17 rfl ?_
  intro w48 hB17 E49
  have := E49.size
  have P := P.keepX hB17_old E49 zz
  have Q := Q.keepG (Gr.of E49) (Dj.one dj19)
  have hb := hb.step1 E49 zx
  refine zD rfl ?_
  refine zB ?_
  refine hK45 _ _ (wp_ret (zb (zO ( ?_))))
  refine retN (rs := [.cell 8 39, .tmp 9]) (vs := [(.agg #[tv, vv]), (.int .i64 1)]) rfl hd ⟨⟨_, (zA hN rfl), run_loadA (cs := [tv, vv]) agg39 rfl (fun j u hu => by rw [Nat.zero_add]; exact hB17.cell hu)⟩, ⟨(zA hN rfl), trivial⟩⟩ rfl ⟨_, rfl, ?_⟩
  have e9 : (viewE (V.map DVw.nm) o s kk) = 1 := by unfold viewE; rw [if_neg (fun h => c23 (vw_mem.2 h)), if_neg (by rw [List.length_map]; omega), if_neg (fun h => h c33), if_pos (.inl zx)]
  rw [e9]; exact ⟨hb, _, V, FV, rfl, P, Q, NewF.refl _ _, hVz, fun h => absurd h (by first | decide | exact c33), fun _ => rfl⟩
 refine zG (zA hN rfl) ?_
 refine zS (j := 4) (dj := 41) (b := false) rfl rfl rfl (zA hN rfl) ?_
 refine zG (zC hN rfl s3) ?_
 refine zS (j := 4) (dj := 41) (b := false) rfl rfl rfl (zA hN rfl) ?_
 refine zM fld45_12 (zA hN rfl) ?_
 refine zS (j := 4) (dj := 41) (b := false) rfl rfl rfl (zA hN rfl) ?_
 refine zN (v := s.nv) one43 (zA hN rfl) (hB11.cell rfl) ?_
 refine zS (j := 4) (dj := 41) (b := false) rfl rfl rfl (zA hN rfl) ?_
 refine zh slt43 (zA hN rfl) hfnR rfl zx zx ?_
 intro b50 o51 h0b50 h1b50 hc52
 refine zS (j := 4) (dj := 41) (b := false) rfl rfl rfl (zA hN rfl) ?_
 refine zM fld45_0 (zA hN rfl) ?_
 refine zS (j := 4) (dj := 41) (b := false) rfl rfl rfl (zA hN rfl) ?_
 refine zN (v := (Value.int .i64 (s.inner.getD 0 default).f.kind)) one3 (zA hN rfl) (hc52 0 ((.int .i64 (s.inner.getD 0 default).f.kind)) zz ((el_xs (i := 0) zx zx) 0 ((.int .i64 (s.inner.getD 0 default).f.kind)) rfl)) ?_
 refine zS (j := 4) (dj := 41) (b := false) rfl rfl rfl (zA hN rfl) ?_
 refine zj ok95 (IxI_has ((s.inner.getD 0 default).f.kind) (hk.mono (Nat.zero_le _) zx)) ⟨(zA hN rfl), ⟨(zA hN rfl), trivial⟩⟩ ?_
 rintro _ w53 ⟨E54, rfl⟩
 have E54 := zQ E54
 have := E54.size
 have O := O.keep0 E54
 have P := P.keep0 E54
 have Q := Q.keepG (zi E54 NoB) (fun _ _ h => h)
 have hfg := hfg.keep0 E54
 have hfn := hfn.keep0 E54
 have hk := hk.keep0 E54
 have hfnR := hfnR.keep0 E54
 obtain ⟨hB5, hB11, hB17⟩ := kb3 E54 hB5 hB11 hB17
 have hb := hb.step0 E54
 rcases Bool.eq_false_or_eq_true ((decide ((s.inner.getD 0 default).f.kind ∈ kk))) with c48 | c48
 ·
  rw [c48]
  refine zS (j := 4) (dj := 41) (b := false) rfl rfl rfl (zA hN rfl) ?_
  refine op_not (zA hN rfl) ?_
  refine zd (zA hN rfl) (zA hN rfl) ?_
  refine zD (zA hN rfl) ?_
  refine zB ?_
  refine hK44 _ _ (wp_cond_false (zA hN rfl) (wp_skip (hK23 _ _ (zF fun K55 hK55 => ?_))))
  refine zH ?_
  refine zM fld45_4 (zA hN rfl) ?_
  refine zN (v := s.f.gv) one42 (zA hN rfl) (hB11.cell rfl) ?_
  refine zj ok96 (normW_ret s.f.tags _ _ (by first | assumption | omega | (simp only [List.length_append, List.length_cons, List.length_nil, List.length_drop, List.length_take]; omega) | (dsimp only; omega) | decide | (simp [keyV, be8_len]; done)) (show RdC w53 0 w53.heap.size 1 s.f.gv s.f.tags.length (s.f.tags.map u16v) from by have hh : RdC w53 0 w53.heap.size 1 _ _ _ := (hfg.mono (L' := 0) (B' := w53.heap.size) (Nat.zero_le _) zx); first | exact hh | exact hh.cast (by first | omega | (simp; try omega)) (by first | rfl | simp [u16v]))) ⟨(zA hN rfl), trivial⟩ ?_
  rintro _ w57 ⟨E58, v56, rfl, hO56⟩
  have E58 := zQ E58
  have := E58.size
  have O := O.keep0 E58
  have P := P.keep0 E58
  have Q := Q.keepG (zi E58 NoB) (fun _ _ h => h)
  have hfn := hfn.keep0 E58
  have hk := hk.keep0 E58
  have hfnR := hfnR.keep0 E58
  obtain ⟨hB5, hB11, hB17⟩ := kb3 E58 hB5 hB11 hB17
  have hb := hb.step0 E58
  have hO56 := hO56.mono (base' := w.heap.size) zx
  have hnl56 := normL_len s.f.tags
  refine zG (zA hN rfl) ?_
  refine zW (zA hN rfl) rfl ?_
  refine zW (zA hN rfl) rfl ?_
  refine zD (zA hN rfl) ?_
  refine zD (zA hN rfl) ?_
  refine zB ?_
  refine hK55 _ _ (zF fun K61 hK61 => ?_)
  have hin0 : SFr w57 0 Bs (s.inner.getD 0 default) := hfn.2 _ (getD_mem zx)
  have lw_vv := fun k hk => (P.lt k hk).2
  refine reg_split (hd := [_, _, _, _, _, _, _, _, _, _, _, _, _]) (tl := _) 13 mixed zy rfl rfl ?_
  refine any_tree (φ := phiV [(fun uz => uz = (ptr b3 1)), (fun uz => uz = vv), (fun uz => uz = (ptr b9 2)), (fun uz => uz = (.string (bs s.f.nm))), (fun uz => uz = v56), (fun uz => uz = (ptr b9 12)), (fun uz => uz = s.nv), (fun _ => True), (fun _ => True), (fun _ => True), (fun _ => True), (fun _ => True), (fun _ => True)]) (G := fun w' => Bx w' b3 39 [tv, vv] ∧ Bx w' b9 45 [(.int .i64 s.f.kind), (.string (bs s.f.tb)), (.string (bs s.f.nm)), s.f.cv, s.f.gv, s.f.vv, s.f.iv, (.string (bs s.f.join)), s.f.ov, s.f.wv, s.f.rv, (.bool s.f.desc), s.nv]) [7, 8, 9, 10, 11, 12] zy zy zy zy zy hN (fun w1 w2 E h => by obtain ⟨h0, h1⟩ := h; exact ⟨h0.keep0 E, h1.keep0 E⟩) ⟨hB5, hB11⟩ (ObRs9.cons ?_ (ObRs9.cons ?_ (ObRs9.cons ?_ (ObRs9.cons ?_ (ObRs9.cons ?_ (ObRs9.cons ?_ (ObRs9.cons ?_ (ObRs9.pass rfl (ObRs9.pass rfl (ObRs9.pass rfl (ObRs9.pass rfl (ObRs9.pass rfl (ObRs9.pass rfl (ObRs9.nil)))))))))))))) (by simp only [putsL_defers]) ?_
  ·
   intro eA aA wA hNA hGA hbsA hdpA
   have qA_4 := (hbsA 4 rfl).trans (zU hN rfl)
   refine zM fld39_1 (zC hNA rfl qA_4) ?_
   exact obT_end rfl rfl
  ·
   intro eA aA wA hNA hGA hbsA hdpA
   have qA_58 : Sl aA 58 (ptr b3 1) := (hdpA 0 _ 58 zy rfl rfl).2 rfl
   obtain ⟨hB5, hB11⟩ := hGA
   refine zN (v := vv) one37 (zC hNA rfl qA_58) (hB5.cell rfl) ?_
   exact obT_end rfl rfl
  ·
   intro eA aA wA hNA hGA hbsA hdpA
   have qA_5 := (hbsA 5 rfl).trans (zU hN rfl)
   refine zM fld45_2 (zC hNA rfl qA_5) ?_
   exact obT_end rfl rfl
  ·
   intro eA aA wA hNA hGA hbsA hdpA
   have qA_60 : Sl aA 60 (ptr b9 2) := (hdpA 2 _ 60 zy rfl rfl).2 rfl
   obtain ⟨hB5, hB11⟩ := hGA
   refine zN (v := (Value.string (bs s.f.nm))) one9 (zC hNA rfl qA_60) (hB11.cell rfl) ?_
   exact obT_end rfl rfl
  ·
   intro eA aA wA hNA hGA hbsA hdpA
   have qA_11 := (hbsA 11 rfl).trans (zU hN rfl)
   refine zG (zC hNA rfl qA_11) ?_
   exact obT_end rfl rfl
  ·
   intro eA aA wA hNA hGA hbsA hdpA
   have qA_5 := (hbsA 5 rfl).trans (zU hN rfl)
   refine zM fld45_12 (zC hNA rfl qA_5) ?_
   exact obT_end rfl rfl
  ·
   intro eA aA wA hNA hGA hbsA hdpA
   have qA_63 : Sl aA 63 (ptr b9 12) := (hdpA 5 _ 63 zy rfl rfl).2 rfl
   obtain ⟨hB5, hB11⟩ := hGA
   refine zN (v := s.nv) one43 (zC hNA rfl qA_63) (hB11.cell rfl) ?_
   exact obT_end rfl rfl
  refine kt_step (rs := [7]) zy ?_
  refine one_mem ?_
  intro w63 E63 _ a63 hN63 hbs63 hdp63 o_ ho_; obtain rfl := zE ho_
  have := E63.size
  have O := O.keep0 E63
  have P := P.keep0 E63
  have Q := Q.keepG (zi E63 NoB) (fun _ _ h => h)
  have hfnR := hfnR.keep0 E63
  have hO56 := hO56.keep0 E63
  have hin0 := hin0.keep0 E63
  obtain ⟨hB5, hB11, hB17⟩ := kb3 E63 hB5 hB11 hB17
  have hb := hb.step0 E63
  have q63_64 : Sl a63 64 s.nv := (hdp63 6 _ 64 zy rfl rfl).2 rfl
  refine zh slt43 (zC hN63 rfl q63_64) hfnR rfl zx zx ?_
  intro b64 o65 h0b64 h1b64 hc66
  have hp67 : PtC w63 0 Bs b64 o65 [(.int .i64 (s.inner.getD 0 default).f.kind), (.string (bs (s.inner.getD 0 default).f.tb)), (.string (bs (s.inner.getD 0 default).f.nm)), (s.inner.getD 0 default).f.cv, (s.inner.getD 0 default).f.gv, (s.inner.getD 0 default).f.vv, (s.inner.getD 0 default).f.iv, (.string (bs (s.inner.getD 0 default).f.join)), (s.inner.getD 0 default).f.ov, (s.inner.getD 0 default).f.wv, (s.inner.getD 0 default).f.rv, (.bool (s.inner.getD 0 default).f.desc), (s.inner.getD 0 default).nv] := ⟨by omega, by omega, fun j u hu => hc66 j u (by have := (List.getElem?_eq_some_iff.1 hu).1; simpa using this) ((el_xs (i := 0) zx zx) j u hu)⟩
  refine kt_end rfl ⟨hB5, hB11⟩ ?_
  refine kt_step (rs := [8]) zy ?_
  refine one_mem ?_
  intro w69 E69 _ a69 hN69 hbs69 hdp69 o_ ho_; obtain rfl := zE ho_
  have := E69.size
  have O := O.keep0 E69
  have P := P.keep0 E69
  have Q := Q.keepG (zi E69 NoB) (fun _ _ h => h)
  have hO56 := hO56.keep0 E69
  have hin0 := hin0.keep0 E69
  have hp67 := hp67.keep0 E69
  obtain ⟨hB5, hB11, hB17⟩ := kb3 E69 hB5 hB11 hB17
  have hb := hb.step0 E69
  have q69_65 : Sl a69 65 (ptr b64 o65) := (zE ((hdp69 7 _ 65 zy rfl rfl).1 rfl)).symm
  refine zX (cs := [(.int .i64 (s.inner.getD 0 default).f.kind), (.string (bs (s.inner.getD 0 default).f.tb)), (.string (bs (s.inner.getD 0 default).f.nm)), (s.inner.getD 0 default).f.cv, (s.inner.getD 0 default).f.gv, (s.inner.getD 0 default).f.vv, (s.inner.getD 0 default).f.iv, (.string (bs (s.inner.getD 0 default).f.join)), (s.inner.getD 0 default).f.ov, (s.inner.getD 0 default).f.wv, (s.inner.getD 0 default).f.rv, (.bool (s.inner.getD 0 default).f.desc), (s.inner.getD 0 default).nv]) agg45 rfl (zC hN69 rfl q69_65) (fun j u hu => hp67.2.2 j u hu) ?_
  refine kt_end rfl ⟨hB5, hB11⟩ ?_
  refine kt_step (rs := [9]) zy ?_
  refine one_mem ?_
  intro w71 E71 _ a71 hN71 hbs71 hdp71 o_ ho_; obtain rfl := zE ho_
  have := E71.size
  have O := O.keep0 E71
  have P := P.keep0 E71
  have Q := Q.keepG (zi E71 NoB) (fun _ _ h => h)
  have hO56 := hO56.keep0 E71
  have hin0 := hin0.keep0 E71
  obtain ⟨hB5, hB11, hB17⟩ := kb3 E71 hB5 hB11 hB17
  have hb := hb.step0 E71
  have q71_66 : Sl a71 66 (.agg #[(.int .i64 (s.inner.getD 0 default).f.kind), (.string (bs (s.inner.getD 0 default).f.tb)), (.string (bs (s.inner.getD 0 default).f.nm)), (s.inner.getD 0 default).f.cv, (s.inner.getD 0 default).f.gv, (s.inner.getD 0 default).f.vv, (s.inner.getD 0 default).f.iv, (.string (bs (s.inner.getD 0 default).f.join)), (s.inner.getD 0 default).f.ov, (s.inner.getD 0 default).f.wv, (s.inner.getD 0 default).f.rv, (.bool (s.inner.getD 0 default).f.desc), (s.inner.getD 0 default).nv]) := (zE ((hdp71 8 _ 66 zy rfl rfl).1 rfl)).symm
  refine zj ok92 (CopyS_all (s.inner.getD 0 default) (hin0.mono (Nat.zero_le _) zx)) ⟨(zC hN71 rfl q71_66), trivial⟩ ?_
  rintro _ w73 ⟨E74, a72, rfl, hx72, hq72⟩
  have lx_vv := fun k hk => (P.lt k hk).2
  have ap75 : ∀ k, vv.ownBlock = some k → k < w71.heap.size ∨ w73.heap.size ≤ k := fun k hk => .inl (lx_vv k hk)
  have E74 := zQ E74
  have := E74.size
  have O := O.keep0 E74
  have P := P.keep0 E74
  have Q := Q.keepG (zi E74 NoB) (fun _ _ h => h)
  have hO56 := hO56.keep0 E74
  obtain ⟨hB5, hB11, hB17⟩ := kb3 E74 hB5 hB11 hB17
  have hb := hb.step0 E74
  refine kt_end rfl ⟨hB5, hB11⟩ ?_
  refine kt_step (rs := [10]) zy ?_
  refine one_mem ?_
  intro w77 E77 _ a77 hN77 hbs77 hdp77 o_ ho_; obtain rfl := zE ho_
  have := E77.size
  have O := O.keep0 E77
  have P := P.keep0 E77
  have Q := Q.keepG (zi E77 NoB) (fun _ _ h => h)
  have hO56 := hO56.keep0 E77
  have hx72 := hx72.keep0 E77
  obtain ⟨hB5, hB11, hB17⟩ := kb3 E77 hB5 hB11 hB17
  have hb := hb.step0 E77
  have q77_61 : Sl a77 61 (.string (bs s.f.nm)) := (hdp77 3 _ 61 zy rfl rfl).2 rfl
  have q77_62 : Sl a77 62 v56 := (hdp77 4 _ 62 zy rfl rfl).2 rfl
  have q77_67 : Sl a77 67 (.agg #[(.int .i64 a72.f.kind), (.string (bs a72.f.tb)), (.string (bs a72.f.nm)), a72.f.cv, a72.f.gv, a72.f.vv, a72.f.iv, (.string (bs a72.f.join)), a72.f.ov, a72.f.wv, a72.f.rv, (.bool a72.f.desc), a72.nv]) := (zE ((hdp77 9 _ 67 zy rfl rfl).1 rfl)).symm
  refine zf (pv := [(0, (.string (bs s.f.nm))), (1, v56), (2, (.agg #[(.int .i64 a72.f.kind), (.string (bs a72.f.tb)), (.string (bs a72.f.nm)), a72.f.cv, a72.f.gv, a72.f.vv, a72.f.iv, (.string (bs a72.f.join)), a72.f.ov, a72.f.wv, a72.f.rv, (.bool a72.f.desc), a72.nv]))]) (v := (Value.agg #[(.string (bs s.f.nm)), v56, (.int .i64 a72.f.kind), (.string (bs a72.f.tb)), (.string (bs a72.f.nm)), a72.f.cv, a72.f.gv, a72.f.vv, a72.f.iv, (.string (bs a72.f.join)), a72.f.ov, a72.f.wv, a72.f.rv, (.bool a72.f.desc), a72.nv])) ⟨rfl, (zC hN77 rfl q77_61), ⟨rfl, (zC hN77 rfl q77_62), ⟨rfl, (zC hN77 rfl q77_67), trivial⟩⟩⟩ (by obtain ⟨_, _, _, rfl⟩ := hO56.sl; kernel_rfl) ?_
  refine kt_end rfl ⟨hB5, hB11⟩ ?_
  refine kt_step (rs := [11]) zy ?_
  refine one_mem ?_
  intro w79 E79 _ a79 hN79 hbs79 hdp79 o_ ho_; obtain rfl := zE ho_
  have := E79.size
  have O := O.keep0 E79
  have P := P.keep0 E79
  have Q := Q.keepG (zi E79 NoB) (fun _ _ h => h)
  have hO56 := hO56.keep0 E79
  have hx72 := hx72.keep0 E79
  obtain ⟨hB5, hB11, hB17⟩ := kb3 E79 hB5 hB11 hB17
  have hb := hb.step0 E79
  have q79_68 : Sl a79 68 (.agg #[(.string (bs s.f.nm)), v56, (.int .i64 a72.f.kind), (.string (bs a72.f.tb)), (.string (bs a72.f.nm)), a72.f.cv, a72.f.gv, a72.f.vv, a72.f.iv, (.string (bs a72.f.join)), a72.f.ov, a72.f.wv, a72.f.rv, (.bool a72.f.desc), a72.nv]) := (zE ((hdp79 10 _ 68 zy rfl rfl).1 rfl)).symm
  refine op_bslice (e := 98) (pv := [(0, (.agg #[(.string (bs s.f.nm)), v56, (.int .i64 a72.f.kind), (.string (bs a72.f.tb)), (.string (bs a72.f.nm)), a72.f.cv, a72.f.gv, a72.f.vv, a72.f.iv, (.string (bs a72.f.join)), a72.f.ov, a72.f.wv, a72.f.rv, (.bool a72.f.desc), a72.nv]))]) (cs := [(.string (bs s.f.nm)), v56, (.int .i64 a72.f.kind), (.string (bs a72.f.tb)), (.string (bs a72.f.nm)), a72.f.cv, a72.f.gv, a72.f.vv, a72.f.iv, (.string (bs a72.f.join)), a72.f.ov, a72.f.wv, a72.f.rv, (.bool a72.f.desc), a72.nv]) ⟨rfl, (zC hN79 rfl q79_68), trivial⟩ (by obtain ⟨_, _, _, rfl⟩ := hO56.sl; kernel_rfl) ?_
  intro w80 b81 lo_b81 hi_b81 hB83 E82
  have := E82.size
  have O := O.keep0 E82
  have P := P.keep0 E82
  have Q := Q.keepG (zi E82 NoB) (fun _ _ h => h)
  have hO56 := hO56.keep0 E82
  have hx72 := hx72.keep0 E82
  obtain ⟨hB5, hB11, hB17⟩ := kb3 E82 hB5 hB11 hB17
  have hb := hb.step0 E82
  refine kt_end rfl ⟨hB5, hB11⟩ ?_
  refine kt_step (rs := [12]) zy ?_
  refine one_mem ?_
  intro w87 E87 _ a87 hN87 hbs87 hdp87 o_ ho_; obtain rfl := zE ho_
  have := E87.size
  have O := O.keep0 E87
  have P := P.keep0 E87
  have Q := Q.keepG (zi E87 NoB) (fun _ _ h => h)
  have hO56 := hO56.keep0 E87
  have hx72 := hx72.keep0 E87
  obtain ⟨hB5, hB11, hB17, hB83⟩ := kb4 E87 hB5 hB11 hB17 hB83
  have hb := hb.step0 E87
  have q87_59 : Sl a87 59 vv := (hdp87 1 _ 59 zy rfl rfl).2 rfl
  have q87_69 : Sl a87 69 (.slice (some ⟨b81, 0, none⟩) 1 1) := (zE ((hdp87 11 _ 69 zy rfl rfl).1 rfl)).symm
  have hP93 := P
  refine op_append slt37 (zC hN87 rfl q87_59) hP93 (zC hN87 rfl q87_69) (Src.ofRd Try.underlying37 zz (RdC.ofBx (sz := 15) (n := 1) hB83 rfl zz) (by simp only [List.all_cons, List.all_nil, Bool.true_and, Bool.and_true, hO56.one, hx72.ff.1.one, hx72.ff.2.1.one, hx72.ff.2.2.1.1.one, hx72.ff.2.2.2.1.one, hx72.ff.2.2.2.2.1.1.one, hx72.ff.2.2.2.2.2.1.1.one, hx72.ff.2.2.2.2.2.2.1.one, hx72.nvr.one]; try rfl)) (by unfold maxLen; omega) zx (by first | exact Nat.le_trans (by assumption) hb.size | (have := hb.size; omega)) ?_
  intro v88 w89 hO91 E90 hm92
  have := E90.size
  have O := O.keepT hP93 E90 zz
  have Q := Q.keepG (Gr.of E90) d1.symm
  have hB5 := hB5.keepO hP93 E90 zz
  have hB11 := hB11.keepO hP93 E90 zz
  have hB17 := hB17.keepO hP93 E90 zz
  have hO56 := hO56.keepT hP93 E90 zz
  have hx72 := hx72.keep E90 ap75
  have hb := hb.stepL E90 (fun k _ h => h)
  have hO91 : Own w89 base 98 15 v88 (V ++ [(DVw.mk s.f.nm v56 (normL s.f.tags) a72)]).length (((V ++ [(DVw.mk s.f.nm v56 (normL s.f.tags) a72)])).flatMap cellsW) := by exact hO91.cast (by simp) (by simp [cellsW])
  refine kt_end rfl ⟨hB5, hB11⟩ ?_
  intro w96 E96 a96 hN96 hd96 hbs96 hph96
  have hd96 := hd96.trans ((by simp only [putsL_defers] : _ = _).trans hd)
  have := E96.size
  have O := O.keep0 E96
  have Q := Q.keepG (zi E96 NoB) (fun _ _ h => h)
  have hO56 := hO56.keep0 E96
  have hx72 := hx72.keep0 E96
  have hO91 := hO91.keep0 E96
  obtain ⟨hB5, hB17⟩ := kb2 E96 hB5 hB17
  have hb := hb.step0 E96
  have s96_4 := (hbs96 4 rfl).trans (zU hN rfl)
  have s96_8 := (hbs96 8 rfl).trans (zU hN rfl)
  have s96_70 : Sl a96 70 v88 := (zE ((hph96 12 _ 70 rfl rfl).1 rfl)).symm
  refine split_end ?_
  refine from_seq (tl := [_, _]) zz zy rfl ?_
  refine zM fld39_1 (zC hN96 rfl s96_4) ?_
  have hB5_old := hB5
  refine za (vs := [v88]) (cs' := [tv, v88]) size37 (zA hN96 rfl) (zC hN96 rfl s96_70) hO91.cl rfl (by simp only [List.all_cons, List.all_nil, Bool.true_and, Bool.and_true, hO91.one]; try rfl) hB5 (zI rfl) rfl ?_
  intro w99 hB5 E100
  have := E100.size
  have O := O.keepX hB5_old E100 zz
  have Q := Q.keepG (Gr.of E100) (Dj.one dj7)
  have hB17 := hB17.keep E100 sB
  have hO56 := hO56.keepX hB5_old E100 zz
  have hx72 := hx72.keep E100 sO
  have hO91 := hO91.keepX hB5_old E100 zz
  have hb := hb.step1 E100 zx
  refine zB ?_
  refine hK61 _ _ (zF fun K101 hK101 => ?_)
  refine zH ?_
  refine zY agg39 rfl (zC hN96 rfl s96_4) hB5 ?_
  have hB17_old := hB17
  refine zZ size39 (zC hN96 rfl s96_8) (zA hN96 rfl) rfl (by simp only [List.all_cons, List.all_nil, Bool.true_and, Bool.and_true, O.one, hO91.one]; try rfl) hB17 rfl ?_
  intro w104 hB17 E105
  have := E105.size
  have Q := Q.keepG (Gr.of E105) (Dj.one dj19)
  have hO56 := hO56.keepX hB17_old E105 zz
  have hx72 := hx72.keep E105 sO
  have hO91 := hO91.keepX hB17_old E105 zz
  have hb := hb.step1 E105 zx
  refine zD rfl ?_
  refine zB ?_
  refine hK101 _ _ (wp_ret ?_)
  refine retN (rs := [.cell 8 39, .tmp 9]) (vs := [(.agg #[tv, v88]), (.int .i64 0)]) rfl hd96 ⟨⟨_, (zC hN96 rfl s96_8), run_loadA (cs := [tv, v88]) agg39 rfl (fun j u hu => by rw [Nat.zero_add]; exact hB17.cell hu)⟩, ⟨(zA hN96 rfl), trivial⟩⟩ rfl ⟨_, rfl, ?_⟩
  have e9 : (viewE (V.map DVw.nm) o s kk) = 0 := by unfold viewE; rw [if_neg (fun h => c23 (vw_mem.2 h)), if_neg (by rw [List.length_map]; omega), if_neg (fun h => h c33), if_neg (fun h => h.elim (fun g => by omega) fun g => g (of_decide_eq_true c48))]
  have hz9 := normL_len s.f.tags
  rw [e9]; exact ⟨hb, _, V ++ [(DVw.mk s.f.nm v56 (normL s.f.tags) a72)], _, rfl, hO91, Q.snoc (L := w.heap.size) (B := w104.heap.size) ⟨hO56.rdw.mono zx (Nat.le_refl _), hx72.mono zx zx, Nat.le_trans hz9 zz⟩ hbw (Nat.le_refl _), fun k hk => hk.elim .inl fun q => .inr q.1, by simp; omega, fun _ => ⟨_, rfl, rfl, rfl, hq72⟩, fun h => absurd rfl h⟩
 rw [c48]
 refine zS (j := 4) (dj := 41) (b := false) rfl rfl rfl (zA hN rfl) ?_
 refine op_not (zA hN rfl) ?_
 refine zd (zA hN rfl) (zA hN rfl) ?_
 refine zD (zA hN rfl) ?_
 refine zB ?_
 refine hK44 _ _ (wp_cond_true (zA hN rfl) (zF fun K106 hK106 => ?_))
 refine zH ?_
 refine zY agg39 rfl (zA hN rfl) hB5 ?_
 have hB17_old := hB17
 refine zZ size39 (zA hN rfl) (zA hN rfl) rfl (by simp only [List.all_cons, List.all_nil, Bool.true_and, Bool.and_true, O.one, P.one]; try rfl) hB17 rfl ?_
 intro w109 hB17 E110
 have := E110.size
 have P := P.keepX hB17_old E110 zz
 have Q := Q.keepG (Gr.of E110) (Dj.one dj19)
 have hb := hb.step1 E110 zx
 refine zD rfl ?_
 refine zB ?_
 refine hK106 _ _ (wp_ret (zb (zO ( ?_))))
 refine retN (rs := [.cell 8 39, .tmp 9]) (vs := [(.agg #[tv, vv]), (.int .i64 1)]) rfl hd ⟨⟨_, (zA hN rfl), run_loadA (cs := [tv, vv]) agg39 rfl (fun j u hu => by rw [Nat.zero_add]; exact hB17.cell hu)⟩, ⟨(zA hN rfl), trivial⟩⟩ rfl ⟨_, rfl, ?_⟩
 have e9 : (viewE (V.map DVw.nm) o s kk) = 1 := by unfold viewE; rw [if_neg (fun h => c23 (vw_mem.2 h)), if_neg (by rw [List.length_map]; omega), if_neg (fun h => h c33), if_pos (.inr (of_decide_eq_false c48))]
 rw [e9]; exact ⟨hb, _, V, FV, rfl, P, Q, NewF.refl _ _, hVz, fun h => absurd h (by first | decide | exact c33), fun _ => rfl⟩

end Go.Proofs.Ythflnkfghogaoaa

namespace Go.Proofs.Ythflnkfghogaoaa
open Go.Gx
def SzT (T : List PTab) : Prop := T.length ≤ 1000 ∧ ∀ t ∈ T, t.cols.length ≤ 1000 ∧ t.idx.length ≤ 1000
theorem SzT.d {D : List DTab} (h : SzT (D.map DTab.t)) : D.length ≤ 1000000 ∧ ∀ d ∈ D, d.t.cols.length ≤ 1000000 ∧ d.t.idx.length ≤ 1000000 :=
  ⟨by have := h.1; rw [List.length_map] at this; omega, fun d hd => by have := h.2 d.t (List.mem_map.2 ⟨d, hd, rfl⟩); omega⟩
theorem sz_of {D D2 : List DTab} (h : D2.map DTab.t = D.map DTab.t) (hD : D.length ≤ 1000000) (hsz : ∀ d ∈ D, d.t.cols.length ≤ 1000000 ∧ d.t.idx.length ≤ 1000000) : D2.length ≤ 1000000 ∧ ∀ d ∈ D2, d.t.cols.length ≤ 1000000 ∧ d.t.idx.length ≤ 1000000 := by
  refine ⟨by have := congrArg List.length h; simp at this; omega, fun d hd => ?_⟩
  have : d.t ∈ D.map DTab.t := by rw [← h]; exact List.mem_map.2 ⟨d, hd, rfl⟩
  obtain ⟨d0, h0, h1⟩ := List.mem_map.1 this
  rw [← h1]; exact hsz d0 h0
theorem TabsR.fr {w : World} {base : Nat} {D : List DTab} {F : Nat → Prop} {v : Value} (h : TabsR w base D F) (O : Own w base 55 3 v D.length (D.flatMap cellsT)) : TsFr w base w.heap.size v D := ⟨O.rdw, fun d hd => ⟨(h.1 d hd).1.rdw, (h.1 d hd).2.rdw⟩⟩
def idxT : List PTab → List UInt8 → List UInt8 → List PTab
  | [], _, _ => []
  | t :: T, tb, nm => if t.nm = tb then { t with idx := t.idx ++ [nm] } :: T else t :: idxT T tb nm
def addE (T : List PTab) (N : List (List UInt8)) (o : Lb) (s : XS) : Int :=
  if s.f.kind = 1 then tabE T s.f.nm s.f.cols else if s.f.kind = 2 then idxE T s.f.tb s.f.nm else if s.f.kind = 3 then viewE N o s [6] else if s.f.kind = 4 then viewE N o s [5, 7, 8] else 1
def addT (T : List PTab) (s : XS) : List PTab := if s.f.kind = 1 then T ++ [⟨s.f.nm, s.f.cols, []⟩] else if s.f.kind = 2 then idxT T s.f.tb s.f.nm else T
def AddV (V V' : List DVw) (s : XS) : Prop := if s.f.kind = 3 ∨ s.f.kind = 4 then ∃ W d, V' = W ++ [d] ∧ W.length = V.length ∧ (∀ i, i < V.length → VSame (V.getD i default) (W.getD i default)) ∧ NewV s d else V'.length = V.length ∧ ∀ i, i < V.length → VSame (V.getD i default) (V'.getD i default)
theorem addE_1 {T : List PTab} {N : List (List UInt8)} {o : Lb} {s : XS} (h : s.f.kind = 1) : addE T N o s = tabE T s.f.nm s.f.cols := if_pos h
theorem addE_3 {T : List PTab} {N : List (List UInt8)} {o : Lb} {s : XS} (h : s.f.kind = 3) : addE T N o s = viewE N o s [6] := by unfold addE; rw [if_neg (by omega), if_neg (by omega), if_pos h]
theorem addE_4 {T : List PTab} {N : List (List UInt8)} {o : Lb} {s : XS} (h : s.f.kind = 4) : addE T N o s = viewE N o s [5, 7, 8] := by unfold addE; rw [if_neg (by omega), if_neg (by omega), if_neg (by omega), if_pos h]
theorem addE_5 {T : List PTab} {N : List (List UInt8)} {o : Lb} {s : XS} (h : s.f.kind ≠ 1 ∧ s.f.kind ≠ 2 ∧ s.f.kind ≠ 3 ∧ s.f.kind ≠ 4) : addE T N o s = 1 := by unfold addE; rw [if_neg h.1, if_neg h.2.1, if_neg h.2.2.1, if_neg h.2.2.2]
theorem addT_1 {T : List PTab} {s : XS} (h : s.f.kind = 1) : addT T s = T ++ [⟨s.f.nm, s.f.cols, []⟩] := if_pos h
theorem addT_v {T : List PTab} {s : XS} (h : s.f.kind ≠ 1 ∧ s.f.kind ≠ 2) : addT T s = T := by unfold addT; rw [if_neg h.1, if_neg h.2]
theorem AddV.n {V V' : List DVw} {s : XS} (h : s.f.kind ≠ 3 ∧ s.f.kind ≠ 4) (hl : V'.length = V.length) (hs : ∀ i, i < V.length → VSame (V.getD i default) (V'.getD i default)) : AddV V V' s := by unfold AddV; rw [if_neg (by omega)]; exact ⟨hl, hs⟩
theorem AddV.v {V W : List DVw} {s : XS} {d : DVw} (h : s.f.kind = 3 ∨ s.f.kind = 4) (hl : W.length = V.length) (hs : ∀ i, i < V.length → VSame (V.getD i default) (W.getD i default)) (hd : NewV s d) : AddV V (W ++ [d]) s := by unfold AddV; rw [if_pos h]; exact ⟨W, d, rfl, hl, hs, hd⟩
theorem names_same {V W : List DVw} (hl : W.length = V.length) (hs : ∀ i, i < V.length → VSame (V.getD i default) (W.getD i default)) : W.map DVw.nm = V.map DVw.nm := by
  refine List.ext_getElem (by simp [hl]) fun i h1 h2 => ?_
  have hv : i < V.length := by simpa using h2
  have := (hs i hv).1
  simp only [List.getElem_map]
  simp [List.getD_eq_getElem?_getD, hv, show i < W.length by omega] at this
  exact this.symm
end Go.Proofs.Ythflnkfghogaoaa

namespace Go.Proofs.Ythflnkfghogaoaa
open Go.Gx Go.RowKit
attribute [local irreducible] wpList wpStill Code.wp Calls

theorem AddN_ret {tv vv ow : Value} {D : List DTab} {V : List DVw} {o : Lb} {s : XS} {w : World} (hT : TsRd w w.heap.size tv D) (hD : D.length ≤ 1000000) (hsz : ∀ d ∈ D, d.t.cols.length ≤ 1000000 ∧ d.t.idx.length ≤ 1000000) (hV : VsFr w 0 w.heap.size vv V) (he : SFr w 0 w.heap.size s) (hol : o.length ≤ 100) (ho : RdC w 0 w.heap.size 1 ow o.length (o.map u16v)) (hk2 : s.f.kind ≠ 2) : Ret Try.prog 27 #[(.agg #[tv, vv]), (.agg #[(.int .i64 s.f.kind), (.string (bs s.f.tb)), (.string (bs s.f.nm)), s.f.cv, s.f.gv, s.f.vv, s.f.iv, (.string (bs s.f.join)), s.f.ov, s.f.wv, s.f.rv, (.bool s.f.desc), s.nv]), ow] w (fun v' w' => Below w.heap.size w w' ∧ ∃ (tv' vv' : Value) (D' : List DTab) (V' : List DVw), v' = .tuple #[.agg #[tv', vv'], .int .i64 (addE (D.map DTab.t) (V.map DVw.nm) o s)] ∧ TsFr w' w.heap.size w'.heap.size tv' D' ∧ VsFr w' w.heap.size w'.heap.size vv' V' ∧ ((addE (D.map DTab.t) (V.map DVw.nm) o s) = 0 → D'.map DTab.t = addT (D.map DTab.t) s ∧ AddV V V' s) ∧ ((addE (D.map DTab.t) (V.map DVw.nm) o s) ≠ 0 → D' = [] ∧ V' = [])) := by
 have hR := hT.1
 have hVz0 := hV.3
 have hb := Below.refl w.heap.size w
 refine enter (N := 55) Try.func27 rfl rfl (by simp) fun a0 hN hd hA => ?_
 have s0 : a0.tmps.getD 0 undef = (.agg #[tv, vv]) := hA 0 (by simp)
 have s1 : a0.tmps.getD 1 undef = (.agg #[(.int .i64 s.f.kind), (.string (bs s.f.tb)), (.string (bs s.f.nm)), s.f.cv, s.f.gv, s.f.vv, s.f.iv, (.string (bs s.f.join)), s.f.ov, s.f.wv, s.f.rv, (.bool s.f.desc), s.nv]) := hA 1 (by simp)
 have s2 : a0.tmps.getD 2 undef = ow := hA 2 (by simp)
 clear hA
 refine zF fun K1 hK1 => ?_
 refine zH ?_
 refine op_box (cs := [tv, vv]) (zC hN rfl s0) rfl ?_
 intro w2 b3 lo_b3 hi_b3 hB5 E4
 have := E4.size
 have hT := hT.keep0 E4
 have hV := hV.keep0 E4
 have he := he.keep0 E4
 have ho := ho.keep0 E4
 have hb := zP hb E4 hb.size
 refine op_box (cs := [(.int .i64 s.f.kind), (.string (bs s.f.tb)), (.string (bs s.f.nm)), s.f.cv, s.f.gv, s.f.vv, s.f.iv, (.string (bs s.f.join)), s.f.ov, s.f.wv, s.f.rv, (.bool s.f.desc), s.nv]) (zC hN rfl s1) rfl ?_
 intro w6 b7 lo_b7 hi_b7 hB9 E8
 have := E8.size
 have hT := hT.keep0 E8
 have hV := hV.keep0 E8
 have he := he.keep0 E8
 have ho := ho.keep0 E8
 have hB5 := hB5.keep0 E8
 have hb := zP hb E8 hb.size
 refine op_alloc (cs := [(.slice none 0 0), (.slice none 0 0)]) zero39 rfl ?_
 intro w10 b11 lo_b11 hi_b11 hB13 E12
 have := E12.size
 have hT := hT.keep0 E12
 have hV := hV.keep0 E12
 have he := he.keep0 E12
 have ho := ho.keep0 E12
 obtain ⟨hB5, hB9⟩ := kb2 E12 hB5 hB9
 have hb := zP hb E12 hb.size
 refine zD rfl ?_
 refine zB ?_
 refine hK1 _ _ (zF fun K14 hK14 => ?_)
 refine zH ?_
 refine zY agg39 rfl (zA hN rfl) hB5 ?_
 refine zj ok60 (twin_ret (hT.mono zx) hD hsz (hV.mono (Nat.zero_le _) zx)) ⟨(zA hN rfl), trivial⟩ ?_
 rintro _ w16 ⟨E17, tv15, vv15, D15, V15, F15, FV15, rfl, hO15, hS15, hM15, hP15, hQ15, hdv15, hdt15, hvl15, hvs15⟩
 have lo_F15 : ∀ x, F15 x → w10.heap.size ≤ x := fun x hx => (hS15.lt x hx).1
 have dj20 : ¬ F15 b11 := fun hf => by have := lo_F15 _ hf; have := hB13.lt; omega
 have lo_FV15 : ∀ x, FV15 x → w10.heap.size ≤ x := fun x hx => (hQ15.lt x hx).1
 have dj23 : ¬ FV15 b11 := fun hf => by have := lo_FV15 _ hf; have := hB13.lt; omega
 have E17 := zQ E17
 have := E17.size
 have he := he.keep0 E17
 have ho := ho.keep0 E17
 obtain ⟨hB5, hB9, hB13⟩ := kb3 E17 hB5 hB9 hB13
 have hb := zP hb E17 hb.size
 have hO15 := hO15.mono (base' := w.heap.size) zx
 have hP15 := hP15.mono (base' := w.heap.size) zx
 have hS15 : TabsR w16 w.heap.size D15 F15 := hS15.mono zx
 have hQ15 : VsIn w16 w.heap.size V15 FV15 := hQ15.mono zx
 refine op_alloc (cs := [(.slice none 0 0), (.slice none 0 0)]) zero39 rfl ?_
 intro w24 b25 lo_b25 hi_b25 hB27 E26
 have dj28 : ¬ F15 b25 := fun hf => by have := (hS15.lt _ hf).2; omega
 have dj29 : ¬ FV15 b25 := fun hf => by have := (hQ15.lt _ hf).2; omega
 have := E26.size
 have he := he.keep0 E26
 have ho := ho.keep0 E26
 have hO15 := hO15.keep0 E26
 obtain ⟨hB5, hB9, hB13⟩ := kb3 E26 hB5 hB9 hB13
 have hS15 := hS15.keepG (zi E26 NoB) (fun _ _ h => h)
 have hP15 := hP15.keep0 E26
 have hQ15 := hQ15.keepG (zi E26 NoB) (fun _ _ h => h)
 have hb := zP hb E26 hb.size
 have hB27_old := hB27
 refine zZ size39 (zA hN rfl) (zA hN rfl) rfl (by simp only [List.all_cons, List.all_nil, Bool.true_and, Bool.and_true, hO15.one, hP15.one]; try rfl) hB27 rfl ?_
 intro w32 hB27 E33
 have := E33.size
 have he := he.keep E33 sO
 have ho := ho.keep E33 sR
 have hB5 := hB5.keep E33 sB
 have hB9 := hB9.keep E33 (sN hB9 hB27_old)
 have hB13 := hB13.keep E33 sB
 have hO15 := hO15.keepX hB27_old E33 zz
 have hS15 := hS15.keepG (Gr.of E33) (Dj.one dj28)
 have hP15 := hP15.keepX hB27_old E33 zz
 have hQ15 := hQ15.keepG (Gr.of E33) (Dj.one dj29)
 have hb := below_step1 hb E33 hb.size zx
 refine zD rfl ?_
 refine zB ?_
 refine hK14 _ _ (zF fun K34 hK34 => ?_)
 refine zF fun K35 hK35 => ?_
 refine zH ?_
 obtain ⟨hD9, hz9⟩ := sz_of hM15 hD hsz
 have hVz9 : V15.length ≤ 1000 := by have := hVz0; omega
 have hnm9 := names_same hvl15 hvs15
 refine zM fld45_0 (zA hN rfl) ?_
 refine zN (v := (Value.int .i64 s.f.kind)) one3 (zA hN rfl) (hB9.cell rfl) ?_
 refine zB ?_
 refine hK35 _ _ (wp_block ?_)
 refine zF fun K36 hK36 => ?_
 refine zH ?_
 refine op_eql (zA hN rfl) rfl (fun c15 => ?_) (fun c15 => ?_)
 ·
  refine zD (zA hN rfl) ?_
  refine zB ?_
  refine hK36 _ _ (wp_cond_true (zA hN rfl) (zH ?_))
  refine zY agg39 rfl (zA hN rfl) hB27 ?_
  refine zY agg45 rfl (zA hN rfl) hB9 ?_
  refine zj ok61 (table_ret hO15 hS15 hP15 hQ15 hdv15 hdt15 hD9 hz9 hVz9 he (Nat.le_refl _) zx) ⟨(zA hN rfl), ⟨(zA hN rfl), trivial⟩⟩ ?_
  rintro _ w38 ⟨E39, tz37, D37z, F37z, rfl, hO37, hS37, hA37⟩
  have hOld37 := hO15
  have bl_b3 := hB5.lt
  have bl_b7 := hB9.lt
  have bl_b11 := hB13.lt
  have bl_b25 := hB27.lt
  have djo37 : Dj (Bl vv15) (Bl tv15) := hP15.notOwn hOld37 zz
  have := E39.size
  have hB13 := hB13.keepG E39 (hOld37.notBx hB13 zz)
  have hP15 := hP15.keepG E39 djo37
  have hQ15 := hQ15.keepG E39 hdt15.symm
  have hB27 := hB27.keepG E39 (hOld37.notBx hB27 zz)
  have hb := below_stepG hb E39 hb.size (fun k hk => (hOld37.lt k hk).1)
  refine zG (zA hN rfl) ?_
  refine zW (zA hN rfl) rfl ?_
  refine zW (zA hN rfl) rfl ?_
  have hB27_old := hB27
  refine zZ size39 (zA hN rfl) (zA hN rfl) rfl (by simp only [List.all_cons, List.all_nil, Bool.true_and, Bool.and_true, hO37.one, hP15.one]; try rfl) hB27 rfl ?_
  intro w42 hB27 E43
  have := E43.size
  have hB13 := hB13.keep E43 sB
  have hP15 := hP15.keepX hB27_old E43 zz
  have hQ15 := hQ15.keepG (Gr.of E43) (Dj.one dj29)
  have hO37 := hO37.keepX hB27_old E43 zz
  have hS37 := hS37.keepG (Gr.of E43) (Dj.one (hS37.notBx hB27_old zz zz))
  have hb := below_step1 hb E43 hb.size zx
  refine zD (zA hN rfl) ?_
  refine zB ?_
  refine hK34 _ _ (zF fun K44 hK44 => ?_)
  refine zF fun K45 hK45 => ?_
  refine zH ?_
  refine zG (zA hN rfl) ?_
  refine op_neq (zA hN rfl) rfl (fun c51 => ?_) (fun c51 => ?_)
  ·
   refine zB ?_
   refine hK45 _ _ (wp_cond_true (zA hN rfl) (zF fun K46 hK46 => ?_))
   refine zH ?_
   refine zf (pv := []) (v := (Value.agg #[(.slice none 0 0), (.slice none 0 0)])) trivial zy ?_
   refine zG (zA hN rfl) ?_
   refine zZ size39 (zA hN rfl) (zA hN rfl) rfl rfl hB13 rfl ?_
   intro w49 hB13 E50
   have := E50.size
   have hb := below_step1 hb E50 hb.size zx
   refine zD (zA hN rfl) ?_
   refine zB ?_
   refine hK46 _ _ (wp_ret (zO ( ?_)))
   refine retN (rs := [.cell 6 39, .tmp 7]) (vs := [(.agg #[(.slice none 0 0), (.slice none 0 0)]), (.int .i64 (tabE (D15.map DTab.t) s.f.nm s.f.cols))]) rfl hd ⟨⟨_, (zA hN rfl), run_loadA (cs := [(.slice none 0 0), (.slice none 0 0)]) agg39 rfl (fun j u hu => by rw [Nat.zero_add]; exact hB13.cell hu)⟩, ⟨(zA hN rfl), trivial⟩⟩ rfl ⟨_, rfl, ?_⟩
   have e9 : (addE (D.map DTab.t) (V.map DVw.nm) o s) = (tabE (D15.map DTab.t) s.f.nm s.f.cols) := (addE_1 c15).trans (by rw [hM15])
   rw [e9]; exact ⟨hb, _, _, [], [], rfl, ⟨RdC.nil _ _ _ _, fun _ h => (by cases h)⟩, VsFr.nil _ _ _, fun h => absurd h c51, fun _ => ⟨rfl, rfl⟩⟩
  refine zB ?_
  refine hK45 _ _ (wp_cond_false (zA hN rfl) (wp_skip (hK44 _ _ (zF fun K51 hK51 => ?_))))
  refine zH ?_
  refine zY agg39 rfl (zA hN rfl) hB27 ?_
  have hB13_old := hB13
  refine zZ size39 (zA hN rfl) (zA hN rfl) rfl (by simp only [List.all_cons, List.all_nil, Bool.true_and, Bool.and_true, hO37.one, hP15.one]; try rfl) hB13 rfl ?_
  intro w54 hB13 E55
  have := E55.size
  have hP15 := hP15.keepX hB13_old E55 zz
  have hQ15 := hQ15.keepG (Gr.of E55) (Dj.one dj23)
  have hO37 := hO37.keepX hB13_old E55 zz
  have hS37 := hS37.keepG (Gr.of E55) (Dj.one (hS37.notBx hB13_old zz zz))
  have hb := below_step1 hb E55 hb.size zx
  refine zD rfl ?_
  refine zB ?_
  refine hK51 _ _ (wp_ret ?_)
  refine retN (rs := [.cell 6 39, .tmp 7]) (vs := [(.agg #[tz37, vv15]), (.int .i64 0)]) rfl hd ⟨⟨_, (zA hN rfl), run_loadA (cs := [tz37, vv15]) agg39 rfl (fun j u hu => by rw [Nat.zero_add]; exact hB13.cell hu)⟩, ⟨(zA hN rfl), trivial⟩⟩ rfl ⟨_, rfl, ?_⟩
  have e9 : (addE (D.map DTab.t) (V.map DVw.nm) o s) = (tabE (D15.map DTab.t) s.f.nm s.f.cols) := (addE_1 c15).trans (by rw [hM15])
  rw [e9, c51]; exact ⟨hb, _, _, D37z, V15, rfl, TabsR.fr hS37 hO37, hQ15.fr hVz9 hP15, fun _ => ⟨by rw [hA37, if_pos c51, hM15, addT_1 c15], AddV.n zx hvl15 hvs15⟩, fun h => absurd rfl h⟩
 refine zD (zA hN rfl) ?_
 refine zB ?_
 refine hK36 _ _ (wp_cond_false (zA hN rfl) (zF fun K56 hK56 => ?_))
 refine zH ?_
 refine op_eql (zA hN rfl) rfl (fun c23 => ?_) (fun c23 => ?_)
 ·
  exact absurd c23 hk2
 refine zD (zA hN rfl) ?_
 refine zB ?_
 refine hK56 _ _ (wp_cond_false (zA hN rfl) (zF fun K57 hK57 => ?_))
 refine zH ?_
 refine op_eql (zA hN rfl) rfl (fun c31 => ?_) (fun c31 => ?_)
 ·
  refine zD (zA hN rfl) ?_
  refine zB ?_
  refine hK57 _ _ (wp_cond_true (zA hN rfl) (zH ?_))
  refine zY agg39 rfl (zA hN rfl) hB27 ?_
  refine zY agg45 rfl (zA hN rfl) hB9 ?_
  refine zG (zC hN rfl s2) ?_
  refine op_bslice (e := 3) (pv := [(0, (.int .i64 6))]) (cs := [(.int .i64 6)]) ⟨rfl, rfl, trivial⟩ zy ?_
  intro w58 b59 lo_b59 hi_b59 hB61 E60
  have := E60.size
  have he := he.keep0 E60
  have ho := ho.keep0 E60
  have hO15 := hO15.keep0 E60
  obtain ⟨hB5, hB9, hB13⟩ := kb3 E60 hB5 hB9 hB13
  have hS15 := hS15.keepG (zi E60 NoB) (fun _ _ h => h)
  have hP15 := hP15.keep0 E60
  have hQ15 := hQ15.keepG (zi E60 NoB) (fun _ _ h => h)
  have hB27 := hB27.keep0 E60
  have hb := zP hb E60 hb.size
  refine zj ok63 (view_ret (kk := [6]) hO15 hS15 hP15 hQ15 hdv15 hdt15 hD9 hz9 hVz9 he (Nat.le_refl _) zx hol (ho.mono (Nat.le_refl _) zx) ((RdC.ofBx (sz := 1) (n := 1) hB61 rfl zz).mono (Nat.zero_le _) zx)) ⟨(zA hN rfl), ⟨(zA hN rfl), ⟨(zA hN rfl), ⟨(zA hN rfl), trivial⟩⟩⟩⟩ ?_
  rintro _ w65 ⟨E66, vz64, V64z, F64z, rfl, hO64, hS64, hF64, hz64, hE64, hN64⟩
  have hOld64 := hP15
  have bl_b3 := hB5.lt
  have bl_b7 := hB9.lt
  have bl_b11 := hB13.lt
  have bl_b25 := hB27.lt
  have bl_b59 := hB61.lt
  have djo64 : Dj (Bl tv15) (Bl vv15) := hO15.notOwn hOld64 zz
  have dtb64 := (hS15.notOwn hP15 zz zz).symm
  have := E66.size
  have hB13 := hB13.keepG E66 (hOld64.notBx hB13 zz)
  have hO15 := hO15.keepG E66 djo64
  have hS15 := hS15.keepG E66 dtb64
  have hB27 := hB27.keepG E66 (hOld64.notBx hB27 zz)
  have hb := below_stepG hb E66 hb.size (fun k hk => (hOld64.lt k hk).1)
  have dj69 : ¬ F64z b11 := ne_stepF hF64 bl_b11 dj23
  have dj70 : ¬ F64z b25 := ne_stepF hF64 bl_b25 dj29
  refine zG (zA hN rfl) ?_
  refine zW (zA hN rfl) rfl ?_
  refine zW (zA hN rfl) rfl ?_
  have hB27_old := hB27
  refine zZ size39 (zA hN rfl) (zA hN rfl) rfl (by simp only [List.all_cons, List.all_nil, Bool.true_and, Bool.and_true, hO15.one, hO64.one]; try rfl) hB27 rfl ?_
  intro w74 hB27 E75
  have := E75.size
  have hB13 := hB13.keep E75 sB
  have hO15 := hO15.keepX hB27_old E75 zz
  have hS15 := hS15.keepG (Gr.of E75) (Dj.one dj28)
  have hO64 := hO64.keepX hB27_old E75 zz
  have hS64 := hS64.keepG (Gr.of E75) (Dj.one dj70)
  have hb := below_step1 hb E75 hb.size zx
  refine zD (zA hN rfl) ?_
  refine zB ?_
  refine hK34 _ _ (zF fun K76 hK76 => ?_)
  refine zF fun K77 hK77 => ?_
  refine zH ?_
  refine zG (zA hN rfl) ?_
  refine op_neq (zA hN rfl) rfl (fun c51 => ?_) (fun c51 => ?_)
  ·
   refine zB ?_
   refine hK77 _ _ (wp_cond_true (zA hN rfl) (zF fun K78 hK78 => ?_))
   refine zH ?_
   refine zf (pv := []) (v := (Value.agg #[(.slice none 0 0), (.slice none 0 0)])) trivial zy ?_
   refine zG (zA hN rfl) ?_
   refine zZ size39 (zA hN rfl) (zA hN rfl) rfl rfl hB13 rfl ?_
   intro w81 hB13 E82
   have := E82.size
   have hb := below_step1 hb E82 hb.size zx
   refine zD (zA hN rfl) ?_
   refine zB ?_
   refine hK78 _ _ (wp_ret (zO ( ?_)))
   refine retN (rs := [.cell 6 39, .tmp 7]) (vs := [(.agg #[(.slice none 0 0), (.slice none 0 0)]), (.int .i64 (viewE (V15.map DVw.nm) o s [6]))]) rfl hd ⟨⟨_, (zA hN rfl), run_loadA (cs := [(.slice none 0 0), (.slice none 0 0)]) agg39 rfl (fun j u hu => by rw [Nat.zero_add]; exact hB13.cell hu)⟩, ⟨(zA hN rfl), trivial⟩⟩ rfl ⟨_, rfl, ?_⟩
   have e9 : (addE (D.map DTab.t) (V.map DVw.nm) o s) = (viewE (V15.map DVw.nm) o s [6]) := (addE_3 c31).trans (by rw [hnm9])
   rw [e9]; exact ⟨hb, _, _, [], [], rfl, ⟨RdC.nil _ _ _ _, fun _ h => (by cases h)⟩, VsFr.nil _ _ _, fun h => absurd h c51, fun _ => ⟨rfl, rfl⟩⟩
  refine zB ?_
  refine hK77 _ _ (wp_cond_false (zA hN rfl) (wp_skip (hK76 _ _ (zF fun K83 hK83 => ?_))))
  refine zH ?_
  refine zY agg39 rfl (zA hN rfl) hB27 ?_
  have hB13_old := hB13
  refine zZ size39 (zA hN rfl) (zA hN rfl) rfl (by simp only [List.all_cons, List.all_nil, Bool.true_and, Bool.and_true, hO15.one, hO64.one]; try rfl) hB13 rfl ?_
  intro w86 hB13 E87
  have := E87.size
  have hO15 := hO15.keepX hB13_old E87 zz
  have hS15 := hS15.keepG (Gr.of E87) (Dj.one dj20)
  have hO64 := hO64.keepX hB13_old E87 zz
  have hS64 := hS64.keepG (Gr.of E87) (Dj.one dj69)
  have hb := below_step1 hb E87 hb.size zx
  refine zD rfl ?_
  refine zB ?_
  refine hK83 _ _ (wp_ret ?_)
  refine retN (rs := [.cell 6 39, .tmp 7]) (vs := [(.agg #[tv15, vz64]), (.int .i64 0)]) rfl hd ⟨⟨_, (zA hN rfl), run_loadA (cs := [tv15, vz64]) agg39 rfl (fun j u hu => by rw [Nat.zero_add]; exact hB13.cell hu)⟩, ⟨(zA hN rfl), trivial⟩⟩ rfl ⟨_, rfl, ?_⟩
  have e9 : (addE (D.map DTab.t) (V.map DVw.nm) o s) = (viewE (V15.map DVw.nm) o s [6]) := (addE_3 c31).trans (by rw [hnm9])
  obtain ⟨d9, hVd, hnd⟩ := hE64 c51
  rw [e9, c51]; exact ⟨hb, _, _, D15, V64z, rfl, TabsR.fr hS15 hO15, hS64.fr hz64 hO64, fun _ => ⟨by rw [hM15, addT_v zx], by rw [hVd]; exact AddV.v zx hvl15 hvs15 hnd⟩, fun h => absurd rfl h⟩
 refine zD (zA hN rfl) ?_
 refine zB ?_
 refine hK57 _ _ (wp_cond_false (zA hN rfl) (zF fun K88 hK88 => ?_))
 refine zH ?_
 refine op_eql (zA hN rfl) rfl (fun c41 => ?_) (fun c41 => ?_)
 ·
  refine zD (zA hN rfl) ?_
  refine zB ?_
  refine hK88 _ _ (wp_cond_true (zA hN rfl) (zH ?_))
  refine zY agg39 rfl (zA hN rfl) hB27 ?_
  refine zY agg45 rfl (zA hN rfl) hB9 ?_
  refine zG (zC hN rfl s2) ?_
  refine op_bslice (e := 3) (pv := [(0, (.int .i64 5)), (1, (.int .i64 7)), (2, (.int .i64 8))]) (cs := [(.int .i64 5), (.int .i64 7), (.int .i64 8)]) ⟨rfl, rfl, ⟨rfl, rfl, ⟨rfl, rfl, trivial⟩⟩⟩ zy ?_
  intro w89 b90 lo_b90 hi_b90 hB92 E91
  have := E91.size
  have he := he.keep0 E91
  have ho := ho.keep0 E91
  have hO15 := hO15.keep0 E91
  obtain ⟨hB5, hB9, hB13⟩ := kb3 E91 hB5 hB9 hB13
  have hS15 := hS15.keepG (zi E91 NoB) (fun _ _ h => h)
  have hP15 := hP15.keep0 E91
  have hQ15 := hQ15.keepG (zi E91 NoB) (fun _ _ h => h)
  have hB27 := hB27.keep0 E91
  have hb := zP hb E91 hb.size
  refine zj ok63 (view_ret (kk := [5, 7, 8]) hO15 hS15 hP15 hQ15 hdv15 hdt15 hD9 hz9 hVz9 he (Nat.le_refl _) zx hol (ho.mono (Nat.le_refl _) zx) ((RdC.ofBx (sz := 1) (n := 3) hB92 rfl zz).mono (Nat.zero_le _) zx)) ⟨(zA hN rfl), ⟨(zA hN rfl), ⟨(zA hN rfl), ⟨(zA hN rfl), trivial⟩⟩⟩⟩ ?_
  rintro _ w96 ⟨E97, vz95, V95z, F95z, rfl, hO95, hS95, hF95, hz95, hE95, hN95⟩
  have hOld95 := hP15
  have bl_b3 := hB5.lt
  have bl_b7 := hB9.lt
  have bl_b11 := hB13.lt
  have bl_b25 := hB27.lt
  have bl_b90 := hB92.lt
  have djo95 : Dj (Bl tv15) (Bl vv15) := hO15.notOwn hOld95 zz
  have dtb95 := (hS15.notOwn hP15 zz zz).symm
  have := E97.size
  have hB13 := hB13.keepG E97 (hOld95.notBx hB13 zz)
  have hO15 := hO15.keepG E97 djo95
  have hS15 := hS15.keepG E97 dtb95
  have hB27 := hB27.keepG E97 (hOld95.notBx hB27 zz)
  have hb := below_stepG hb E97 hb.size (fun k hk => (hOld95.lt k hk).1)
  have dj100 : ¬ F95z b11 := ne_stepF hF95 bl_b11 dj23
  have dj101 : ¬ F95z b25 := ne_stepF hF95 bl_b25 dj29
  refine zG (zA hN rfl) ?_
  refine zW (zA hN rfl) rfl ?_
  refine zW (zA hN rfl) rfl ?_
  have hB27_old := hB27
  refine zZ size39 (zA hN rfl) (zA hN rfl) rfl (by simp only [List.all_cons, List.all_nil, Bool.true_and, Bool.and_true, hO15.one, hO95.one]; try rfl) hB27 rfl ?_
  intro w105 hB27 E106
  have := E106.size
  have hB13 := hB13.keep E106 sB
  have hO15 := hO15.keepX hB27_old E106 zz
  have hS15 := hS15.keepG (Gr.of E106) (Dj.one dj28)
  have hO95 := hO95.keepX hB27_old E106 zz
  have hS95 := hS95.keepG (Gr.of E106) (Dj.one dj101)
  have hb := below_step1 hb E106 hb.size zx
  refine zD (zA hN rfl) ?_
  refine zB ?_
  refine hK34 _ _ (zF fun K107 hK107 => ?_)
  refine zF fun K108 hK108 => ?_
  refine zH ?_
  refine zG (zA hN rfl) ?_
  refine op_neq (zA hN rfl) rfl (fun c51 => ?_) (fun c51 => ?_)
  ·
   refine zB ?_
   refine hK108 _ _ (wp_cond_true (zA hN rfl) (zF fun K109 hK109 => ?_))
   refine zH ?_
   refine zf (pv := []) (v := (Value.agg #[(.slice none 0 0), (.slice none 0 0)])) trivial zy ?_
   refine zG (zA hN rfl) ?_
   refine zZ size39 (zA hN rfl) (zA hN rfl) rfl rfl hB13 rfl ?_
   intro w112 hB13 E113
   have := E113.size
   have hb := below_step1 hb E113 hb.size zx
   refine zD (zA hN rfl) ?_
   refine zB ?_
   refine hK109 _ _ (wp_ret (zO ( ?_)))
   refine retN (rs := [.cell 6 39, .tmp 7]) (vs := [(.agg #[(.slice none 0 0), (.slice none 0 0)]), (.int .i64 (viewE (V15.map DVw.nm) o s [5, 7, 8]))]) rfl hd ⟨⟨_, (zA hN rfl), run_loadA (cs := [(.slice none 0 0), (.slice none 0 0)]) agg39 rfl (fun j u hu => by rw [Nat.zero_add]; exact hB13.cell hu)⟩, ⟨(zA hN rfl), trivial⟩⟩ rfl ⟨_, rfl, ?_⟩
   have e9 : (addE (D.map DTab.t) (V.map DVw.nm) o s) = (viewE (V15.map DVw.nm) o s [5, 7, 8]) := (addE_4 c41).trans (by rw [hnm9])
   rw [e9]; exact ⟨hb, _, _, [], [], rfl, ⟨RdC.nil _ _ _ _, fun _ h => (by cases h)⟩, VsFr.nil _ _ _, fun h => absurd h c51, fun _ => ⟨rfl, rfl⟩⟩
  refine zB ?_
  refine hK108 _ _ (wp_cond_false (zA hN rfl) (wp_skip (hK107 _ _ (zF fun K114 hK114 => ?_))))
  refine zH ?_
  refine zY agg39 rfl (zA hN rfl) hB27 ?_
  have hB13_old := hB13
  refine zZ size39 (zA hN rfl) (zA hN rfl) rfl (by simp only [List.all_cons, List.all_nil, Bool.true_and, Bool.and_true, hO15.one, hO95.one]; try rfl) hB13 rfl ?_
  intro w117 hB13 E118
  have := E118.size
  have hO15 := hO15.keepX hB13_old E118 zz
  have hS15 := hS15.keepG (Gr.of E118) (Dj.one dj20)
  have hO95 := hO95.keepX hB13_old E118 zz
  have hS95 := hS95.keepG (Gr.of E118) (Dj.one dj100)
  have hb := below_step1 hb E118 hb.size zx
  refine zD rfl ?_
  refine zB ?_
  refine hK114 _ _ (wp_ret ?_)
  refine retN (rs := [.cell 6 39, .tmp 7]) (vs := [(.agg #[tv15, vz95]), (.int .i64 0)]) rfl hd ⟨⟨_, (zA hN rfl), run_loadA (cs := [tv15, vz95]) agg39 rfl (fun j u hu => by rw [Nat.zero_add]; exact hB13.cell hu)⟩, ⟨(zA hN rfl), trivial⟩⟩ rfl ⟨_, rfl, ?_⟩
  have e9 : (addE (D.map DTab.t) (V.map DVw.nm) o s) = (viewE (V15.map DVw.nm) o s [5, 7, 8]) := (addE_4 c41).trans (by rw [hnm9])
  obtain ⟨d9, hVd, hnd⟩ := hE95 c51
  rw [e9, c51]; exact ⟨hb, _, _, D15, V95z, rfl, TabsR.fr hS15 hO15, hS95.fr hz95 hO95, fun _ => ⟨by rw [hM15, addT_v zx], by rw [hVd]; exact AddV.v zx hvl15 hvs15 hnd⟩, fun h => absurd rfl h⟩
 refine zD (zA hN rfl) ?_
 refine zB ?_
 refine hK88 _ _ (wp_cond_false (zA hN rfl) (wp_skip (hK34 _ _ (zF fun K119 hK119 => ?_))))
 refine zF fun K120 hK120 => ?_
 refine zH ?_
 refine zG (zA hN rfl) ?_
 refine op_bin (v := .bool true) (zA hN rfl) rfl (by rw [binOp_neq]; rfl) (zB ?_)
 refine hK120 _ _ (wp_cond_true (zA hN rfl) (zF fun K121 hK121 => ?_))
 refine zH ?_
 refine zf (pv := []) (v := (Value.agg #[(.slice none 0 0), (.slice none 0 0)])) trivial zy ?_
 refine zG (zA hN rfl) ?_
 refine zZ size39 (zA hN rfl) (zA hN rfl) rfl rfl hB13 rfl ?_
 intro w124 hB13 E125
 have := E125.size
 have hb := below_step1 hb E125 hb.size zx
 refine zD (zA hN rfl) ?_
 refine zB ?_
 refine hK121 _ _ (wp_ret (zO ( ?_)))
 refine retN (rs := [.cell 6 39, .tmp 7]) (vs := [(.agg #[(.slice none 0 0), (.slice none 0 0)]), (.int .i64 1)]) rfl hd ⟨⟨_, (zA hN rfl), run_loadA (cs := [(.slice none 0 0), (.slice none 0 0)]) agg39 rfl (fun j u hu => by rw [Nat.zero_add]; exact hB13.cell hu)⟩, ⟨(zA hN rfl), trivial⟩⟩ rfl ⟨_, rfl, ?_⟩
 have e9 : (addE (D.map DTab.t) (V.map DVw.nm) o s) = 1 := addE_5 zx
 rw [e9]; exact ⟨hb, _, _, [], [], rfl, ⟨RdC.nil _ _ _ _, fun _ h => (by cases h)⟩, VsFr.nil _ _ _, fun h => absurd h zz, fun _ => ⟨rfl, rfl⟩⟩

theorem begun9_ret {w : World} : Ret Try.prog 26 #[] w (fun v' w' => Below w.heap.size w w' ∧ v' = .bool true) := by
 have hb := Below.refl w.heap.size w
 refine enter (N := 37) Try.func26 rfl rfl (by simp) fun a0 hN hd hA => ?_
 clear hA
 refine zF fun K1 hK1 => ?_
 refine zH ?_
 refine zD rfl ?_
 refine zB ?_
 refine hK1 _ _ (zF fun K2 hK2 => ?_)
 refine zH ?_
 refine zf (pv := []) (v := (Value.agg #[(.slice none 0 0), (.slice none 0 0)])) trivial zy ?_
 refine zf (pv := [(0, (.string (bs [107]))), (1, (.int .i64 1))]) (v := (Value.agg #[(.string (bs [107])), (.int .i64 1), (.string (bs []))])) ⟨rfl, rfl, ⟨rfl, rfl, trivial⟩⟩ zy ?_
 refine op_bslice (e := 68) (pv := [(0, (.agg #[(.string (bs [107])), (.int .i64 1), (.string (bs []))]))]) (cs := [(.string (bs [107])), (.int .i64 1), (.string (bs []))]) ⟨rfl, (zA hN rfl), trivial⟩ zy ?_
 intro w3 b4 lo_b4 hi_b4 hB6 E5
 have := E5.size
 have hb := zP hb E5 hb.size
 refine zf (pv := [(0, (.int .i64 1)), (2, (.string (bs [116]))), (3, (.slice (some ⟨b4, 0, none⟩) 1 1))]) (v := (Value.agg #[(.int .i64 1), (.string (bs [])), (.string (bs [116])), (.slice (some ⟨b4, 0, none⟩) 1 1), (.slice none 0 0), (.slice none 0 0), (.slice none 0 0), (.string (bs [])), (.slice none 0 0), (.slice none 0 0), (.slice none 0 0), (.bool false), (.slice none 0 0)])) ⟨rfl, rfl, ⟨rfl, rfl, ⟨rfl, (zA hN rfl), trivial⟩⟩⟩ zy ?_
 refine zj ok27 (AddN_ret (D := ([] : List DTab)) (V := ([] : List DVw)) (o := ([] : Lb)) (s := (XS.mk (StF.mk 1 [] ([116]) (.slice (some ⟨b4, 0, none⟩) 1 1) ([(PCol.mk ([107]) 1 [])]) (.slice none 0 0) [] (.slice none 0 0) [] (.slice none 0 0) [] [] (.slice none 0 0) [] (.slice none 0 0) [] (.slice none 0 0) [] false) (.slice none 0 0) [])) ⟨RdC.nil _ _ _ _, fun _ h => (by cases h)⟩ zz (fun _ h => (by cases h)) (VsFr.nil _ _ _) (SFr.flat (s := (XS.mk (StF.mk 1 [] ([116]) (.slice (some ⟨b4, 0, none⟩) 1 1) ([(PCol.mk ([107]) 1 [])]) (.slice none 0 0) [] (.slice none 0 0) [] (.slice none 0 0) [] [] (.slice none 0 0) [] (.slice none 0 0) [] (.slice none 0 0) [] false) (.slice none 0 0) [])) ⟨(((RdC.ofBx (sz := 3) (n := 1) hB6 rfl zz).mono (Nat.zero_le _) hB6.lt).cast rfl rfl), (RdC.nil _ _ _ _), XsFr.nil _ _ _, (RdC.nil _ _ _ _), XsFr.nil _ _ _, XsFr.nil _ _ _, XsFr.nil _ _ _⟩ ⟨(zI rfl), (zI rfl), (zI rfl)⟩ rfl rfl) (zI rfl) (RdC.nil _ _ _ _) (show (1 : Int) ≠ 2 by decide)) ⟨(zA hN rfl), ⟨(zA hN rfl), ⟨rfl, trivial⟩⟩⟩ ?_
 rintro _ w8 ⟨E9, tz7, vz7, D7z, V7z, rfl, hT7, hV7, hE7, hN7⟩
 have hR7 := hT7.1
 have hVR7 := hV7.1
 have E9 := zQ E9
 have := E9.size
 have hb := zP hb E9 hb.size
 refine zG (zA hN rfl) ?_
 refine zW (zA hN rfl) rfl ?_
 refine zW (zA hN rfl) rfl ?_
 refine op_alloc (cs := [(.slice none 0 0), (.slice none 0 0)]) zero39 rfl ?_
 intro w10 b11 lo_b11 hi_b11 hB13 E12
 have := E12.size
 have hT7 := hT7.keep0 E12
 have hR7 := hR7.keep0 E12
 have hV7 := hV7.keep0 E12
 have hb := zP hb E12 hb.size
 refine zZ size39 (zA hN rfl) (zA hN rfl) rfl (by simp only [List.all_cons, List.all_nil, Bool.true_and, Bool.and_true, hR7.one, hV7.rdc.one]; try rfl) hB13 rfl ?_
 intro w16 hB13 E17
 have := E17.size
 have hT7 := hT7.keep E17 sO
 have hV7 := hV7.keep E17 sO
 have hb := below_step1 hb E17 hb.size zx
 refine zD (zA hN rfl) ?_
 refine zB ?_
 refine hK2 _ _ (zF fun K18 hK18 => ?_)
 refine zH ?_
 obtain ⟨hM9, _⟩ := hE7 rfl
 have hM8 : D7z.map DTab.t = [PTab.mk [116] [PCol.mk [107] 1 []] []] := hM9.trans rfl
 have hDz := SzT.d (D := D7z) (by rw [hM8]; exact ⟨by decide, by decide⟩)
 refine zY agg39 rfl (zA hN rfl) hB13 ?_
 rcases Bool.eq_false_or_eq_true ((tabAt (D7z.map DTab.t) ([116])).isSome) with k15 | k15
 ·
  refine zj ok57 (Table2T k15 (hT7.rd.mono zx) hDz.1 hDz.2 (hV7.mono (Nat.zero_le _) zx)) ⟨(zA hN rfl), ⟨rfl, trivial⟩⟩ ?_
  rintro _ w20 ⟨E21, d19, rfl, ht19, hO19, hP19⟩
  have E21 := zQ E21
  have := E21.size
  have hb := zP hb E21 hb.size
  have hO19 := hO19.mono (base' := w.heap.size) zx
  have hP19 := hP19.mono (base' := w.heap.size) zx
  refine zG (zA hN rfl) ?_
  refine zW (zA hN rfl) rfl ?_
  refine zW (zA hN rfl) rfl ?_
  refine op_alloc (cs := [(.string (bs [])), (.slice none 0 0), (.slice none 0 0)]) zero55 rfl ?_
  intro w22 b23 lo_b23 hi_b23 hB25 E24
  have := E24.size
  have hO19 := hO19.keep0 E24
  have hP19 := hP19.keep0 E24
  have hb := zP hb E24 hb.size
  have hB25_old := hB25
  refine zZ size55 (zA hN rfl) (zA hN rfl) rfl (by simp only [List.all_cons, List.all_nil, Bool.true_and, Bool.and_true, hO19.one, hP19.one]; try rfl) hB25 rfl ?_
  intro w28 hB25 E29
  have := E29.size
  have hO19 := hO19.keepX hB25_old E29 zz
  have hP19 := hP19.keepX hB25_old E29 zz
  have hb := below_step1 hb E29 hb.size zx
  refine zD (zA hN rfl) ?_
  refine zB ?_
  refine hK18 _ _ (zF fun K30 hK30 => ?_)
  refine zH ?_
  have hd8 : d19.t = PTab.mk [116] [PCol.mk [107] 1 []] [] := by rw [hM8] at ht19; exact (zE ht19).symm
  refine zG (zA hN rfl) ?_
  refine op_eql (zA hN rfl) rfl (fun c19 => ?_) (fun c19 => ?_)
  ·
   refine zG (zA hN rfl) ?_
   refine zS (j := 2) (dj := 20) (b := true) rfl rfl rfl (zA hN rfl) ?_
   refine zG (zA hN rfl) ?_
   refine zc (zA hN rfl) (zA hN rfl) ?_
   refine zG (zA hN rfl) ?_
   refine zS (j := 5) (dj := 23) (b := true) rfl rfl rfl (zA hN rfl) ?_
   refine zY agg55 rfl (zA hN rfl) hB25 ?_
   refine zS (j := 5) (dj := 23) (b := true) rfl rfl rfl (zA hN rfl) ?_
   refine zj ok58 (Column_ret d19.t.nm d19.t.cols _ d19.iv ([107]) _ (hO19.rdw.mono (Nat.zero_le _) zx)) ⟨(zA hN rfl), ⟨rfl, trivial⟩⟩ ?_
   rintro _ w31 ⟨E32, rfl⟩
   have E32 := zQ E32
   have := E32.size
   have hO19 := hO19.keep0 E32
   have hP19 := hP19.keep0 E32
   have hB25 := hB25.keep0 E32
   have hb := zP hb E32 hb.size
   refine zS (j := 5) (dj := 23) (b := true) rfl rfl rfl (zA hN rfl) ?_
   refine op_eql (zA hN rfl) rfl (fun c26 => ?_) (fun c26 => ?_)
   ·
    refine zc (zA hN rfl) (zA hN rfl) ?_
    refine zG (zA hN rfl) ?_
    refine zS (j := 10) (dj := 28) (b := true) rfl rfl rfl (zA hN rfl) ?_
    refine zY agg55 rfl (zA hN rfl) hB25 ?_
    refine zS (j := 10) (dj := 28) (b := true) rfl rfl rfl (zA hN rfl) ?_
    refine zj ok58 (Column_ret d19.t.nm d19.t.cols _ d19.iv ([113]) _ (hO19.rdw.mono (Nat.zero_le _) zx)) ⟨(zA hN rfl), ⟨rfl, trivial⟩⟩ ?_
    rintro _ w33 ⟨E34, rfl⟩
    have E34 := zQ E34
    have := E34.size
    have hO19 := hO19.keep0 E34
    have hP19 := hP19.keep0 E34
    have hB25 := hB25.keep0 E34
    have hb := zP hb E34 hb.size
    refine zS (j := 10) (dj := 28) (b := true) rfl rfl rfl (zA hN rfl) ?_
    refine op_eql (zA hN rfl) rfl (fun c31 => ?_) (fun c31 => ?_)
    ·
     refine zc (zA hN rfl) (zA hN rfl) ?_
     refine zG (zA hN rfl) ?_
     refine zS (j := 15) (dj := 33) (b := true) rfl rfl rfl (zA hN rfl) ?_
     refine zY agg55 rfl (zA hN rfl) hB25 ?_
     refine zS (j := 15) (dj := 33) (b := true) rfl rfl rfl (zA hN rfl) ?_
     refine zj ok59 (Indexed_ret ([107]) (hO19.rdw.mono (Nat.zero_le _) zx) (hP19.rdw.mono (Nat.zero_le _) zx)) ⟨(zA hN rfl), ⟨rfl, trivial⟩⟩ ?_
     rintro _ w35 ⟨E36, rfl⟩
     have E36 := zQ E36
     have := E36.size
     have hb := zP hb E36 hb.size
     rcases Bool.eq_false_or_eq_true ((decide ((colIx d19.t.cols ([107])) = 0 ∨ [107] ∈ d19.t.idx))) with c35 | c35
     ·
      rw [c35]
      refine zc (zA hN rfl) (zA hN rfl) ?_
      refine zD (zA hN rfl) ?_
      refine zB ?_
      refine hK30 _ _ (wp_ret ?_)
      refine ret1 rfl hd (zA hN rfl) ⟨_, rfl, ?_⟩
      exact ⟨hb, rfl⟩
     exact absurd (.inl (by rw [hd8]; rfl)) (of_decide_eq_false c35)
    exact absurd (by rw [hd8]; rfl) c31
   exact absurd (by rw [hd8]; rfl) c26
  exact absurd rfl c19
 exact absurd (show (tabAt [PTab.mk [116] [PCol.mk [107] 1 []] []] [116]).isSome = true from rfl) (by rw [hM8] at k15; rw [k15]; decide)

end Go.Proofs.Ythflnkfghogaoaa

namespace Go.Proofs.Ythflnkfghogaoaa
open Go.Gx
def refR (r : Nat) : List UInt8 := ([[97], [98], [99]] : List (List UInt8)).getD r []
def refsC (k r p : Nat) (two : Bool) : List PCol := [⟨[107], if p = 0 then 1 + (k : Int) else 2, if p = 0 then refR r else []⟩, ⟨[120], if p = 1 then 1 + (k : Int) else 1, if p = 1 then refR r else []⟩, ⟨[121], if p = 2 then 1 + (k : Int) else 1, if p = 2 then refR r else if two = true ∧ p = 1 then [97] else []⟩]
def refsW (k r p : Nat) (two : Bool) : Int := if p = 0 then 14 else if r ≠ 0 then 9 else if k = 1 then 11 else if two = true ∧ p = 1 then 14 else 0
def tabA : PTab := ⟨[97], [⟨[107], 1, []⟩], []⟩
theorem refs_all : ∀ k : Fin 2, ∀ r : Fin 3, ∀ p : Fin 3, ∀ two : Bool, tabE [tabA] [98] (refsC k.1 r.1 p.1 two) = refsW k.1 r.1 p.1 two := by decide +kernel
theorem refs_law {k r p : Nat} {two : Bool} (hk : k < 2) (hr : r < 3) (hp : p < 3) : tabE [tabA] [98] (refsC k r p two) = refsW k r p two := refs_all ⟨k, hk⟩ ⟨r, hr⟩ ⟨p, hp⟩ two
end Go.Proofs.Ythflnkfghogaoaa
