/- Walks, written by a program: what each function of the translation hands back. -/
import Derived.Test.YtmhdbphpmgjpcaaB3
set_option linter.unusedVariables false
set_option linter.unusedSimpArgs false

namespace Go.Proofs.Ytmhdbphpmgjpcaa
open Go.Gx Go.RowKit
attribute [local irreducible] wpList wpStill Code.wp Calls
open Go.Sort (insertionSort insOuter insInner swp siftDown heapSort heapBuild heapPop scanUp scanDown partition partLoop partitionEqual partEqLoop scanSorted partialIns bitsLen partialInsertionSort shiftDown shiftUp SortedIn reverseRange reverseLoop fixDown fixUp)
set_option maxHeartbeats 2000000 in
theorem partialW_ret (d : Ar) (v : Value) (n base : Nat) (a b : Nat) (w : World) (hd : d.size = n) (hn : n ≤ 4000000000000000000) (O : Own w base 46 1 v n (d.toList.map u16v)) (hab : a < b) (hbn : b ≤ n) : Ret Try.prog 158 #[v, (.int .i64 ((a : Nat) : Int)), (.int .i64 ((b : Nat) : Int))] w (fun v' w' => w.grownBy w' v.ownBlock ∧ v' = .bool (partialInsertionSort ltT d a b).2 ∧ Own w' base 46 1 v n ((partialInsertionSort ltT d a b).1.toList.map u16v)) := by
 have hb := grown_refl w v.ownBlock
 refine enter (N := 133) Try.func158 rfl rfl (by simp) fun c hN hd hA => ?_
 have f : c.tmps.getD 0 undef = v := hA 0 (by simp)
 have g : c.tmps.getD 1 undef = (.int .i64 ((a : Nat) : Int)) := hA 1 (by simp)
 have k : c.tmps.getD 2 undef = (.int .i64 ((b : Nat) : Int)) := hA 2 (by simp)
 clear hA
 refine zF fun _ l => zH (zD rfl (zB (l _ _ (zF fun _ l => zH (zG (zC hN rfl g) ?_)))))
 refine op_add (zA hN rfl) rfl (add64 zx) (zD (zA hN rfl) (zB (l _ _ (zF fun _ l => zF fun _ m => zH (zD rfl (zB (m _ _ (wp_block (loop_m (fun mz_ az_ w' => ∃ (s ii : Nat) (dk : Ar), mz_ = (5 - s) ∧ (Sl az_ 0 v) ∧ (Sl az_ 1 (.int .i64 ((a : Nat) : Int))) ∧ (Sl az_ 2 (.int .i64 ((b : Nat) : Int))) ∧ (Sl az_ 8 (.int .i64 ((s : Nat) : Int))) ∧ (Sl az_ 7 (.int .i64 ((ii : Nat) : Int))) ∧ (dk.size = n) ∧ (s ≤ 5 ∧ a + 1 ≤ ii ∧ ii ≤ b) ∧ (partialIns ltT a b 5 (a + 1) d = partialIns ltT a b (5 - s) ii dk) ∧ (w.grownBy w' v.ownBlock) ∧ (w.heap.size ≤ w'.heap.size) ∧ (Own w' base 46 1 v n (dk.toList.map u16v))) _ hN hd ⟨0, (a + 1), _, rfl, (zL hN rfl f), (zL hN rfl g), (zL hN rfl k), (zU hN rfl).trans (congrArg (Value.int .i64) zx), (zU hN rfl).trans (congrArg (Value.int .i64) zx), (by first | assumption | (simp only [Array.size_setIfInBounds, swp_sz, siftDown_size]; assumption)), zx, rfl, hb, (Nat.le_refl _), O⟩ ?_)))))))))
 rintro _ E q p u ⟨s, ii, dk, rfl, B, y, z, t, A, hdk, C, hs, hb, D, o⟩
 have := hb.size
 refine zF fun _ m => zF fun _ F => zH (zG (zC p rfl t) (op_lss (zA p rfl) rfl (fun G => ?_) (fun G => ?_)))
 ·
  refine zB (F _ _ (wp_cond_true (zA p rfl) (wp_skip (m _ _ (zF fun _ m => wp_block (seq_join1 (N := 133) (fun az_ w' => ∃ (H : Nat), (Sl az_ 0 v) ∧ (Sl az_ 1 (.int .i64 ((a : Nat) : Int))) ∧ (Sl az_ 2 (.int .i64 ((b : Nat) : Int))) ∧ (Sl az_ 8 (.int .i64 ((s : Nat) : Int))) ∧ (Sl az_ 7 (.int .i64 ((H : Nat) : Int))) ∧ (ii ≤ H ∧ H ≤ b) ∧ (scanSorted ltT dk b ii = H) ∧ (w.grownBy w' v.ownBlock) ∧ (q.heap.size ≤ w'.heap.size) ∧ (Own w' base 46 1 v n (dk.toList.map u16v))) (fun I => ?_) ?_))))))
  ·
   refine zF fun _ F => wp_block (loop_m (fun mz_ az_ w' => ∃ (H : Nat), mz_ = (b + 1 - H) ∧ (Sl az_ 0 v) ∧ (Sl az_ 1 (.int .i64 ((a : Nat) : Int))) ∧ (Sl az_ 2 (.int .i64 ((b : Nat) : Int))) ∧ (Sl az_ 8 (.int .i64 ((s : Nat) : Int))) ∧ (Sl az_ 7 (.int .i64 ((H : Nat) : Int))) ∧ (ii ≤ H ∧ H ≤ b) ∧ (scanSorted ltT dk b ii = scanSorted ltT dk b H) ∧ (w.grownBy w' v.ownBlock) ∧ (q.heap.size ≤ w'.heap.size) ∧ (Own w' base 46 1 v n (dk.toList.map u16v))) _ p u ⟨ii, rfl, (zL p rfl B), (zL p rfl y), (zL p rfl z), (zL p rfl t), (zL p rfl A).trans (congrArg (Value.int .i64) zx), zx, rfl, hb, (Nat.le_refl _), o⟩ ?_)
   rintro _ U W J M ⟨H, rfl, L, S, P, Q, K, T, R, hb, V, o⟩
   have := hb.size
   refine zF fun _ U => zF fun _ V => reg_still mixed zy ?_
   intro X W
   have := W.size
   have o := o.keep0 W
   have hb := grow_step0 hb W
   refine st_step rfl (fun _ W => zG (zC J rfl K) W) (st_step rfl (fun _ W => zG (zC J rfl P) W) ?_)
   by_cases X : ((H : Nat) : Int) < ((b : Nat) : Int)
   ·
    refine st_step rfl (fun _ W => op_cmp (b := true) (zA J rfl) (zA J rfl) (b_lss (decide_eq_true X)) W) (st_step rfl (fun _ W => zG (zA J rfl) W) (st_g_true (j := 3) (dj := 20) (b := true) rfl rfl rfl (zA J rfl) (st_step rfl (fun _ W => zG (zC J rfl L) W) (st_g_true (j := 3) (dj := 20) (b := true) rfl rfl rfl (zA J rfl) (st_step rfl (fun _ W => zG (zC J rfl K) W) (st_g_true (j := 3) (dj := 20) (b := true) rfl rfl rfl (zA J rfl) (st_index_rd slt45 (zA J rfl) o.rdw (zA J rfl) zx zx ?_)))))))
    intro b7 Z aa ab Y
    refine st_g_true (j := 3) (dj := 20) (b := true) rfl rfl rfl (zA J rfl) (st_step rfl (fun _ W => zN (v := (Value.int .u16 (dk[H]!.toNat : Int))) one46 (zA J rfl) (by have := Y 0 (.int .u16 (dk[H]!.toNat : Int)) zz (el_arr (i := H) zx (by first | omega | (simp only [Array.size_setIfInBounds, swp_sz, siftDown_size]; omega))); simpa using this) W) (st_g_true (j := 3) (dj := 20) (b := true) rfl rfl rfl (zA J rfl) (st_step rfl (fun _ W => zG (zC J rfl L) W) (st_g_true (j := 3) (dj := 20) (b := true) rfl rfl rfl (zA J rfl) (st_step rfl (fun _ W => zG (zC J rfl K) W) (st_g_true (j := 3) (dj := 20) (b := true) rfl rfl rfl (zA J rfl) (st_step rfl (fun _ W => op_sub (zA J rfl) rfl (sub64 zx) W) (st_g_true (j := 3) (dj := 20) (b := true) rfl rfl rfl (zA J rfl) (st_index_rd slt45 (zA J rfl) o.rdw (zA J rfl) zx zx ?_)))))))))
    intro Z ac ab aa Y
    refine st_g_true (j := 3) (dj := 20) (b := true) rfl rfl rfl (zA J rfl) (st_step rfl (fun _ W => zN (v := (Value.int .u16 (dk[(H - 1)]!.toNat : Int))) one46 (zA J rfl) (by have := Y 0 (.int .u16 (dk[(H - 1)]!.toNat : Int)) zz (el_arr (i := (H - 1)) zx (by first | omega | (simp only [Array.size_setIfInBounds, swp_sz, siftDown_size]; omega))); simpa using this) W) (st_g_true (j := 3) (dj := 20) (b := true) rfl rfl rfl (zA J rfl) (st_fn (vs := [(.int .u16 (dk[H]!.toNat : Int)), (.int .u16 (dk[(H - 1)]!.toNat : Int))]) ok159 (⟨(zA J rfl), ⟨(zA J rfl), trivial⟩⟩) (Less16_ret dk[H]! dk[(H - 1)]! _) (st_g_true (j := 3) (dj := 20) (b := true) rfl rfl rfl (zA J rfl) (st_step rfl (fun _ W => op_not (zA J rfl) W) (st_step rfl (fun _ W => zc (zA J rfl) (zA J rfl) W) (st_nil (V _ _ (wp_cond_split (zA J rfl) (fun Z => ?_) (fun Z => ?_))))))))))
    ·
     refine wp_skip (U _ _ (wp_block (zH (zG (zC J rfl K) (op_add (zA J rfl) rfl (add64 zx) (zD (zA J rfl) (zB (blk_normal ?_))))))))
     -- round 14T 19T 32T
     exact zg _ J M ⟨(H + 1), rfl, (zL J rfl L), (zL J rfl S), (zL J rfl P), (zL J rfl Q), (zU J rfl).trans (congrArg (Value.int .i64) zx), zx, (R.trans (scanSorted_go zx (not_t Z))), hb, zx, o⟩ zx
    refine wp_exit (then_exit (then_exit (blk_hit (F _ _ ?_))))
    exact I _ _ _ J M ⟨H, (zL J rfl L), (zL J rfl S), (zL J rfl P), (zL J rfl Q), (zL J rfl K), zx, (R.trans (scanSorted_stop (.inr (not_f Z)))), hb, zx, o⟩
   refine st_step rfl (fun _ W => op_cmp (b := false) (zA J rfl) (zA J rfl) (b_lss (decide_eq_false X)) W) (st_step rfl (fun _ W => zG (zA J rfl) W) (st_g_false (j := 3) (dj := 20) (b := true) rfl rfl rfl (zA J rfl) rfl rfl (st_g_false (j := 3) (dj := 20) (b := true) rfl rfl rfl (zA J rfl) rfl rfl (st_g_false (j := 3) (dj := 20) (b := true) rfl rfl rfl (zA J rfl) rfl rfl (st_g_false (j := 3) (dj := 20) (b := true) rfl rfl rfl (zA J rfl) rfl rfl (st_g_false (j := 3) (dj := 20) (b := true) rfl rfl rfl (zA J rfl) rfl rfl ?_))))))
   refine st_g_false (j := 3) (dj := 20) (b := true) rfl rfl rfl (zA J rfl) rfl rfl (st_g_false (j := 3) (dj := 20) (b := true) rfl rfl rfl (zA J rfl) rfl rfl (st_g_false (j := 3) (dj := 20) (b := true) rfl rfl rfl (zA J rfl) rfl rfl (st_g_false (j := 3) (dj := 20) (b := true) rfl rfl rfl (zA J rfl) rfl rfl (st_g_false (j := 3) (dj := 20) (b := true) rfl rfl rfl (zA J rfl) rfl rfl (st_g_false (j := 3) (dj := 20) (b := true) rfl rfl rfl (zA J rfl) rfl rfl (st_step rfl (fun _ W => zd (zA J rfl) rfl W) (st_nil (V _ _ (wp_cond_false (zA J rfl) (wp_exit (then_exit (then_exit (blk_hit (F _ _ ?_))))))))))))))
   exact I _ _ _ J M ⟨H, (zL J rfl L), (zL J rfl S), (zL J rfl P), (zL J rfl Q), (zL J rfl K), zx, (R.trans (scanSorted_stop (.inl zx))), hb, zx, o⟩
  rintro Y Z J R ⟨H, P, S, Q, X, K, T, L, hb, aa, o⟩
  have := hb.size
  refine zF fun _ F => zF fun _ U => zH (zG (zC J rfl K) (zG (zC J rfl Q) (op_eql (zA J rfl) (zA J rfl) (fun T => ?_) (fun T => ?_))))
  ·
   refine zB (U _ _ (wp_cond_true (zA J rfl) (zF fun _ U => zH (zD rfl (zB (U _ _ (wp_ret (zO (zb (zO (zO (zb (zO ( (ret1 rfl R (zA J rfl) ⟨_, rfl, ?_⟩)))))))))))))))
   have hq : partialInsertionSort ltT d a b = (dk, true) := hs.trans (pi_true zx L zx)
   exact ⟨hb, by rw [hq]; rfl, o.cast rfl (by rw [hq])⟩
  refine zB (U _ _ (wp_cond_false (zA J rfl) (wp_skip (F _ _ (zF fun _ F => zF fun _ U => zH (zG (zC J rfl Q) (zG (zC J rfl S) (op_sub (zA J rfl) (zA J rfl) (sub64 zx) (op_lss (zA J rfl) rfl (fun ab => ?_) (fun ab => ?_))))))))))
  ·
   refine zB (U _ _ (wp_cond_true (zA J rfl) (zF fun _ U => zH (zD rfl (zB (U _ _ (wp_ret (zO (zb (zO (zO (zb (zO ( (ret1 rfl R (zA J rfl) ⟨_, rfl, ?_⟩)))))))))))))))
   have hq : partialInsertionSort ltT d a b = (dk, false) := hs.trans (pi_short zx L zx zx)
   exact ⟨hb, by rw [hq]; rfl, o.cast rfl (by rw [hq])⟩
  refine zB (U _ _ (wp_cond_false (zA J rfl) (wp_skip (F _ _ (zF fun _ F => reg_mid (e := 46) (sz := 1) (base := base) (n := n) (v := v) (Φ := phiL [(fun uz _ => uz = v), (fun uz _ => uz = (.int .i64 ((H : Nat) : Int))), (fun uz _ => uz = v), (fun uz _ => uz = (.int .i64 ((H : Nat) : Int))), (fun uz _ => uz = (.int .i64 (((H : Nat) : Int) - 1))), (fun uz _ => uz = v), (fun uz _ => uz = (.int .i64 ((H : Nat) : Int))), (fun uz _ => uz = (.int .i64 (((H : Nat) : Int) - 1))), (fun uz _ => ∃ bz oz, uz = ptr bz oz ∧ AtV v (H - 1) bz oz), (fun uz _ => uz = (.int .u16 (dk[(H - 1)]!.toNat : Int))), (fun uz _ => uz = v), (fun uz _ => uz = (.int .i64 ((H : Nat) : Int))), (fun uz _ => ∃ bz oz, uz = ptr bz oz ∧ AtV v H bz oz), (fun uz _ => uz = (.int .u16 (dk[H]!.toNat : Int))), (fun uz _ => ∃ bz oz, uz = ptr bz oz ∧ AtV v H bz oz), (fun _ _ => True), (fun uz _ => ∃ bz oz, uz = ptr bz oz ∧ AtV v (H - 1) bz oz), (fun _ _ => True)]) [15, 17] [(dk.toList.map u16v), ((dk.setIfInBounds H dk[(H - 1)]!).toList.map u16v), (((dk.setIfInBounds H dk[(H - 1)]!).setIfInBounds (H - 1) dk[H]!).toList.map u16v)] mixed zy zy zy zy J o (StL.get (StL.eq (StL.eq (StL.eq (StL.eq (StL.eq (StL.eq (StL.eq (StL.eq (StL.at (StL.eq (StL.eq (StL.eq (StL.at (StL.eq (StL.at (StL.cons (fun _ _ _ _ h => h) (StL.at (StL.cons (fun _ _ _ _ h => h) (StL.nil _)))))))))))))))))))) (ObRs.get (ObRs.cons ?_ (ObRs.cons ?_ (ObRs.cons ?_ (ObRs.cons ?_ (ObRs.cons ?_ (ObRs.cons ?_ (ObRs.cons ?_ (ObRs.cons ?_ (ObRs.cons ?_ (ObRs.cons ?_ (ObRs.cons ?_ (ObRs.cons ?_ (ObRs.cons ?_ (ObRs.cons ?_ (ObRs.cons ?_ (ObRs.pass rfl (ObRs.cons ?_ (ObRs.pass rfl (ObRs.nil)))))))))))))))))))) (ObWs.get (ObWs.cons ?_ (ObWs.cons ?_ (ObWs.nil)))) ?_)))))
  ·
   intro aA wA cA hNA hRA hckA hOA hbsA hdpA
   have ac := (hbsA 0 rfl).trans (zL J rfl P)
   clear hbsA hdpA
   refine zG (zC hNA rfl ac) ?_
   exact obR_end rfl rfl (grown_refl _ _)
  ·
   intro aA wA cA hNA hRA hckA hOA hbsA hdpA
   have ad := (hbsA 7 rfl).trans (zL J rfl K)
   clear hbsA hdpA
   refine zG (zC hNA rfl ad) ?_
   exact obR_end rfl rfl (grown_refl _ _)
  ·
   intro aA wA cA hNA hRA hckA hOA hbsA hdpA
   have ac := (hbsA 0 rfl).trans (zL J rfl P)
   clear hbsA hdpA
   refine zG (zC hNA rfl ac) ?_
   exact obR_end rfl rfl (grown_refl _ _)
  ·
   intro aA wA cA hNA hRA hckA hOA hbsA hdpA
   have ad := (hbsA 7 rfl).trans (zL J rfl K)
   clear hbsA hdpA
   refine zG (zC hNA rfl ad) ?_
   exact obR_end rfl rfl (grown_refl _ _)
  ·
   intro aA wA cA hNA hRA hckA hOA hbsA hdpA
   have ae : Sl aA 45 (.int .i64 ((H : Nat) : Int)) := hdpA 3 _ 45 zy rfl rfl
   clear hbsA hdpA
   refine op_sub (zC hNA rfl ae) rfl (sub64 zx) ?_
   exact obR_end rfl rfl (grown_refl _ _)
  ·
   intro aA wA cA hNA hRA hckA hOA hbsA hdpA
   have ac := (hbsA 0 rfl).trans (zL J rfl P)
   clear hbsA hdpA
   refine zG (zC hNA rfl ac) ?_
   exact obR_end rfl rfl (grown_refl _ _)
  ·
   intro aA wA cA hNA hRA hckA hOA hbsA hdpA
   have ad := (hbsA 7 rfl).trans (zL J rfl K)
   clear hbsA hdpA
   refine zG (zC hNA rfl ad) ?_
   exact obR_end rfl rfl (grown_refl _ _)
  ·
   intro aA wA cA hNA hRA hckA hOA hbsA hdpA
   have ae : Sl aA 48 (.int .i64 ((H : Nat) : Int)) := hdpA 6 _ 48 zy rfl rfl
   clear hbsA hdpA
   refine op_sub (zC hNA rfl ae) rfl (sub64 zx) ?_
   exact obR_end rfl rfl (grown_refl _ _)
  ·
   intro aA wA cA hNA hRA hckA hOA hbsA hdpA
   have ae : Sl aA 47 v := hdpA 5 _ 47 zy rfl rfl
   have af : Sl aA 49 (.int .i64 (((H : Nat) : Int) - 1)) := hdpA 7 _ 49 zy rfl rfl
   clear hbsA hdpA
   refine op_index_own (i := (H - 1)) slt45 (zC hNA rfl ae) hOA (zC hNA rfl af) zx zx ?_
   intro b_ o_ _ hA_
   exact obR_end rfl ⟨b_, o_, rfl, by simpa using hA_⟩ (grown_refl _ _)
  ·
   intro aA wA cA hNA hRA hckA hOA hbsA hdpA
   obtain ⟨ah, ag, ae, af⟩ := hdpA 8 _ 50 zy rfl rfl
   clear hbsA hdpA
   obtain rfl : cA = 0 := Nat.le_zero.1 (hckA 0 15 rfl zy)
   have hOA : Own wA base 46 1 v n (dk.toList.map u16v) := hOA
   refine zN (v := (Value.int .u16 (dk[(H - 1)]!.toNat : Int))) one46 (zC hNA rfl ae) (by have := hOA.cellAt af 0 _ (el_at (i := (H - 1)) (by first | omega | (simp only [Array.size_setIfInBounds, swp_sz, siftDown_size]; omega))); simpa using this) ?_
   exact obR_end rfl rfl (grown_refl _ _)
  ·
   intro aA wA cA hNA hRA hckA hOA hbsA hdpA
   have ac := (hbsA 0 rfl).trans (zL J rfl P)
   clear hbsA hdpA
   refine zG (zC hNA rfl ac) ?_
   exact obR_end rfl rfl (grown_refl _ _)
  ·
   intro aA wA cA hNA hRA hckA hOA hbsA hdpA
   have ad := (hbsA 7 rfl).trans (zL J rfl K)
   clear hbsA hdpA
   refine zG (zC hNA rfl ad) ?_
   exact obR_end rfl rfl (grown_refl _ _)
  ·
   intro aA wA cA hNA hRA hckA hOA hbsA hdpA
   have ad : Sl aA 52 v := hdpA 10 _ 52 zy rfl rfl
   have ae : Sl aA 53 (.int .i64 ((H : Nat) : Int)) := hdpA 11 _ 53 zy rfl rfl
   clear hbsA hdpA
   refine op_index_own (i := H) slt45 (zC hNA rfl ad) hOA (zC hNA rfl ae) zx zx ?_
   intro b_ o_ _ hA_
   exact obR_end rfl ⟨b_, o_, rfl, by simpa using hA_⟩ (grown_refl _ _)
  ·
   intro aA wA cA hNA hRA hckA hOA hbsA hdpA
   obtain ⟨af, ag, ad, ae⟩ := hdpA 12 _ 54 zy rfl rfl
   clear hbsA hdpA
   obtain rfl : cA = 0 := Nat.le_zero.1 (hckA 0 15 rfl zy)
   have hOA : Own wA base 46 1 v n (dk.toList.map u16v) := hOA
   refine zN (v := (Value.int .u16 (dk[H]!.toNat : Int))) one46 (zC hNA rfl ad) (by have := hOA.cellAt ae 0 _ (el_at (i := H) (by first | omega | (simp only [Array.size_setIfInBounds, swp_sz, siftDown_size]; omega))); simpa using this) ?_
   exact obR_end rfl rfl (grown_refl _ _)
  ·
   intro aA wA cA hNA hRA hckA hOA hbsA hdpA
   have ad : Sl aA 42 v := hdpA 0 _ 42 zy rfl rfl
   have ae : Sl aA 43 (.int .i64 ((H : Nat) : Int)) := hdpA 1 _ 43 zy rfl rfl
   clear hbsA hdpA
   refine op_index_own (i := H) slt45 (zC hNA rfl ad) hOA (zC hNA rfl ae) zx zx ?_
   intro b_ o_ _ hA_
   exact obR_end rfl ⟨b_, o_, rfl, by simpa using hA_⟩ (grown_refl _ _)
  ·
   intro aA wA cA hNA hRA hckA hOA hbsA hdpA
   have ad : Sl aA 44 v := hdpA 2 _ 44 zy rfl rfl
   have ae : Sl aA 46 (.int .i64 (((H : Nat) : Int) - 1)) := hdpA 4 _ 46 zy rfl rfl
   clear hbsA hdpA
   refine op_index_own (i := (H - 1)) slt45 (zC hNA rfl ad) hOA (zC hNA rfl ae) zx zx ?_
   intro b_ o_ _ hA_
   exact obR_end rfl ⟨b_, o_, rfl, by simpa using hA_⟩ (grown_refl _ _)
  ·
   intro o_ ho_; obtain rfl := zE ho_; intro aA wA hNA hRA hbsA hdpA hOA
   obtain ⟨ag, af, ad, ae⟩ := hdpA 14 _ 56 zy rfl rfl
   have af : Sl aA 51 (.int .u16 (dk[(H - 1)]!.toNat : Int)) := hdpA 9 _ 51 zy rfl rfl
   clear hbsA hdpA
   have hOA : Own wA base 46 1 v n (dk.toList.map u16v) := hOA
   refine op_store_own (vs := [(.int .u16 (dk[(H - 1)]!.toNat : Int))]) size46 (zC hNA rfl ad) (zC hNA rfl af) rfl rfl rfl hOA ae (by have := hOA.1; simp at this ⊢; omega) ?_
   intro w_ hO_ E_
   exact obW_end rfl (hO_.cast rfl (set_arr (by first | omega | (simp only [Array.size_setIfInBounds, swp_sz, siftDown_size]; omega)))) E_
  ·
   intro o_ ho_; obtain rfl := zE ho_; intro aA wA hNA hRA hbsA hdpA hOA
   obtain ⟨ag, af, ae, ad⟩ := hdpA 16 _ 57 zy rfl rfl
   have af : Sl aA 55 (.int .u16 (dk[H]!.toNat : Int)) := hdpA 13 _ 55 zy rfl rfl
   clear hbsA hdpA
   have hOA : Own wA base 46 1 v n ((dk.setIfInBounds H dk[(H - 1)]!).toList.map u16v) := hOA
   refine op_store_own (vs := [(.int .u16 (dk[H]!.toNat : Int))]) size46 (zC hNA rfl ae) (zC hNA rfl af) rfl rfl rfl hOA ad (by have := hOA.1; simp at this ⊢; omega) ?_
   intro w_ hO_ E_
   exact obW_end rfl (hO_.cast rfl (set_arr (by first | omega | (simp only [Array.size_setIfInBounds, swp_sz, siftDown_size]; omega)))) E_
  intro ak ah ad ag ae aj af ai
  have ag := ag.trans R
  have al := (ae 0 rfl).trans (zL J rfl P)
  have am := (ae 1 rfl).trans (zL J rfl S)
  have an := (ae 2 rfl).trans (zL J rfl Q)
  have ao := (ae 7 rfl).trans (zL J rfl K)
  have ap := (ae 8 rfl).trans (zL J rfl X)
  clear ae aj
  have af : Own ah base 46 1 v n (((dk.setIfInBounds H dk[(H - 1)]!).setIfInBounds (H - 1) dk[H]!).toList.map u16v) := af
  have := ai.size
  have hb := grow_stepX hb ai rfl
  refine F _ _ (seq_join1 (N := 133) (fun az_ w' => ∃ (d3 : Ar), (Sl az_ 0 v) ∧ (Sl az_ 1 (.int .i64 ((a : Nat) : Int))) ∧ (Sl az_ 2 (.int .i64 ((b : Nat) : Int))) ∧ (Sl az_ 7 (.int .i64 ((H : Nat) : Int))) ∧ (Sl az_ 8 (.int .i64 ((s : Nat) : Int))) ∧ (d3 = fixDown ltT a H (swp dk H (H - 1))) ∧ (d3.size = n) ∧ (w.grownBy w' v.ownBlock) ∧ (ah.heap.size ≤ w'.heap.size) ∧ (Own w' base 46 1 v n (d3.toList.map u16v))) (fun aq => ?_) ?_)
  ·
   refine zF fun _ F => zF fun _ U => zH (zG (zC ad rfl ao) (zG (zC ad rfl am) (op_sub (zA ad rfl) (zA ad rfl) (sub64 zx) (op_geq (zA ad rfl) rfl (fun ar => ?_) (fun ar => ?_)))))
   ·
    refine zB (U _ _ (wp_cond_true (zA ad rfl) (zF fun _ U => zH (zG (zC ad rfl ao) (op_sub (r := ((H - 1 : Nat) : Int)) (zA ad rfl) rfl (by rw [IntKind.wrap_i64]; omega) (zD (zA ad rfl) (zB (U _ _ (wp_block (loop_m (fun mz_ az_ w' => ∃ (j3 : Nat) (d2 : Ar), mz_ = (j3 + 1) ∧ (Sl az_ 0 v) ∧ (Sl az_ 1 (.int .i64 ((a : Nat) : Int))) ∧ (Sl az_ 2 (.int .i64 ((b : Nat) : Int))) ∧ (Sl az_ 7 (.int .i64 ((H : Nat) : Int))) ∧ (Sl az_ 8 (.int .i64 ((s : Nat) : Int))) ∧ (Sl az_ 9 (.int .i64 ((j3 : Nat) : Int))) ∧ (d2.size = n) ∧ (j3 ≤ H - 1) ∧ (shiftDown ltT (H - 1) (swp dk H (H - 1)) = shiftDown ltT j3 d2) ∧ (w.grownBy w' v.ownBlock) ∧ (ah.heap.size ≤ w'.heap.size) ∧ (Own w' base 46 1 v n (d2.toList.map u16v))) _ ad ag ⟨(H - 1), _, rfl, (zL ad rfl al), (zL ad rfl am), (zL ad rfl an), (zL ad rfl ao), (zL ad rfl ap), (zU ad rfl).trans (congrArg (Value.int .i64) zx), (by first | assumption | (simp only [Array.size_setIfInBounds, swp_sz, siftDown_size]; assumption)), zx, rfl, hb, (Nat.le_refl _), af⟩ ?_))))))))))
    rintro _ aI aG au ay ⟨j3, d2, rfl, av, aB, aD, aC, az, aw, aH, aF, hdn, hb, aE, ax⟩
    have := hb.size
    refine zF fun _ U => zF fun _ V => zH (zG (zC au rfl aw) (op_geq (zA au rfl) rfl (fun aJ => ?_) (fun aJ => ?_)))
    ·
     refine zB (V _ _ (wp_cond_true (zA au rfl) (wp_skip (U _ _ (zF fun _ U => wp_block (zF fun _ V => zF fun _ J5 => reg_still mixed zy ?_))))))
     intro aL aK
     have := aK.size
     have ax := ax.keep0 aK
     have hb := grow_step0 hb aK
     refine st_step rfl (fun _ W => zG (zC au rfl av) W) (st_step rfl (fun _ W => zG (zC au rfl aw) W) (st_index_rd slt45 (zA au rfl) ax.rdw (zA au rfl) zx zx ?_))
     intro aN aP aO aQ aM
     refine st_step rfl (fun _ W => zN (v := (Value.int .u16 (d2[j3]!.toNat : Int))) one46 (zA au rfl) (by have := aM 0 (.int .u16 (d2[j3]!.toNat : Int)) zz (el_arr (i := j3) zx (by first | omega | (simp only [Array.size_setIfInBounds, swp_sz, siftDown_size]; omega))); simpa using this) W) (st_step rfl (fun _ W => zG (zC au rfl av) W) (st_step rfl (fun _ W => zG (zC au rfl aw) W) (st_step rfl (fun _ W => op_sub (zA au rfl) rfl (sub64 zx) W) (st_index_rd slt45 (zA au rfl) ax.rdw (zA au rfl) zx zx ?_))))
     intro aT aS aV aU aR
     refine st_step rfl (fun _ W => zN (v := (Value.int .u16 (d2[(j3 - 1)]!.toNat : Int))) one46 (zA au rfl) (by have := aR 0 (.int .u16 (d2[(j3 - 1)]!.toNat : Int)) zz (el_arr (i := (j3 - 1)) zx (by first | omega | (simp only [Array.size_setIfInBounds, swp_sz, siftDown_size]; omega))); simpa using this) W) (st_fn (vs := [(.int .u16 (d2[j3]!.toNat : Int)), (.int .u16 (d2[(j3 - 1)]!.toNat : Int))]) ok159 (⟨(zA au rfl), ⟨(zA au rfl), trivial⟩⟩) (Less16_ret d2[j3]! d2[(j3 - 1)]! _) (st_step rfl (fun _ W => op_not (zA au rfl) W) (st_nil (J5 _ _ (wp_cond_split (zA au rfl) (fun aW => ?_) (fun aW => ?_))))))
     ·
      refine wp_exit (then_exit (blk_miss zz (then_exit (then_exit (blk_hit (F _ _ ?_))))))
      exact aq _ _ _ au ay ⟨_, (zL au rfl av), (zL au rfl aB), (zL au rfl aD), (zL au rfl aC), (zL au rfl az), ((fixDown_t zx).trans (hdn.trans (shiftDown_stop (.inr (not_t aW))))).symm, (by first | assumption | (simp only [Array.size_setIfInBounds, swp_sz, siftDown_size]; assumption)), hb, zx, ax⟩
     refine wp_skip (V _ _ (reg_mid (e := 46) (sz := 1) (base := base) (n := n) (v := v) (Φ := phiL [(fun uz _ => uz = v), (fun uz _ => uz = (.int .i64 ((j3 : Nat) : Int))), (fun uz _ => uz = v), (fun uz _ => uz = (.int .i64 ((j3 : Nat) : Int))), (fun uz _ => uz = (.int .i64 (((j3 : Nat) : Int) - 1))), (fun uz _ => uz = v), (fun uz _ => uz = (.int .i64 ((j3 : Nat) : Int))), (fun uz _ => uz = (.int .i64 (((j3 : Nat) : Int) - 1))), (fun uz _ => ∃ bz oz, uz = ptr bz oz ∧ AtV v (j3 - 1) bz oz), (fun uz _ => uz = (.int .u16 (d2[(j3 - 1)]!.toNat : Int))), (fun uz _ => uz = v), (fun uz _ => uz = (.int .i64 ((j3 : Nat) : Int))), (fun uz _ => ∃ bz oz, uz = ptr bz oz ∧ AtV v j3 bz oz), (fun uz _ => uz = (.int .u16 (d2[j3]!.toNat : Int))), (fun uz _ => ∃ bz oz, uz = ptr bz oz ∧ AtV v j3 bz oz), (fun _ _ => True), (fun uz _ => ∃ bz oz, uz = ptr bz oz ∧ AtV v (j3 - 1) bz oz), (fun _ _ => True)]) [15, 17] [(d2.toList.map u16v), ((d2.setIfInBounds j3 d2[(j3 - 1)]!).toList.map u16v), (((d2.setIfInBounds j3 d2[(j3 - 1)]!).setIfInBounds (j3 - 1) d2[j3]!).toList.map u16v)] mixed zy zy zy zy au ax (StL.get (StL.eq (StL.eq (StL.eq (StL.eq (StL.eq (StL.eq (StL.eq (StL.eq (StL.at (StL.eq (StL.eq (StL.eq (StL.at (StL.eq (StL.at (StL.cons (fun _ _ _ _ h => h) (StL.at (StL.cons (fun _ _ _ _ h => h) (StL.nil _)))))))))))))))))))) (ObRs.get (ObRs.cons ?_ (ObRs.cons ?_ (ObRs.cons ?_ (ObRs.cons ?_ (ObRs.cons ?_ (ObRs.cons ?_ (ObRs.cons ?_ (ObRs.cons ?_ (ObRs.cons ?_ (ObRs.cons ?_ (ObRs.cons ?_ (ObRs.cons ?_ (ObRs.cons ?_ (ObRs.cons ?_ (ObRs.cons ?_ (ObRs.pass rfl (ObRs.cons ?_ (ObRs.pass rfl (ObRs.nil)))))))))))))))))))) (ObWs.get (ObWs.cons ?_ (ObWs.cons ?_ (ObWs.nil)))) ?_))
     ·
      intro aA wA cA hNA hRA hckA hOA hbsA hdpA
      have ac := (hbsA 0 rfl).trans (zL au rfl av)
      clear hbsA hdpA
      refine zG (zC hNA rfl ac) ?_
      exact obR_end rfl rfl (grown_refl _ _)
     ·
      intro aA wA cA hNA hRA hckA hOA hbsA hdpA
      have aX := (hbsA 9 rfl).trans (zL au rfl aw)
      clear hbsA hdpA
      refine zG (zC hNA rfl aX) ?_
      exact obR_end rfl rfl (grown_refl _ _)
     ·
      intro aA wA cA hNA hRA hckA hOA hbsA hdpA
      have ac := (hbsA 0 rfl).trans (zL au rfl av)
      clear hbsA hdpA
      refine zG (zC hNA rfl ac) ?_
      exact obR_end rfl rfl (grown_refl _ _)
     ·
      intro aA wA cA hNA hRA hckA hOA hbsA hdpA
      have aX := (hbsA 9 rfl).trans (zL au rfl aw)
      clear hbsA hdpA
      refine zG (zC hNA rfl aX) ?_
      exact obR_end rfl rfl (grown_refl _ _)
     ·
      intro aA wA cA hNA hRA hckA hOA hbsA hdpA
      have aY : Sl aA 82 (.int .i64 ((j3 : Nat) : Int)) := hdpA 3 _ 82 zy rfl rfl
      clear hbsA hdpA
      refine op_sub (zC hNA rfl aY) rfl (sub64 zx) ?_
      exact obR_end rfl rfl (grown_refl _ _)
     ·
      intro aA wA cA hNA hRA hckA hOA hbsA hdpA
      have ac := (hbsA 0 rfl).trans (zL au rfl av)
      clear hbsA hdpA
      refine zG (zC hNA rfl ac) ?_
      exact obR_end rfl rfl (grown_refl _ _)
     ·
      intro aA wA cA hNA hRA hckA hOA hbsA hdpA
      have aX := (hbsA 9 rfl).trans (zL au rfl aw)
      clear hbsA hdpA
      refine zG (zC hNA rfl aX) ?_
      exact obR_end rfl rfl (grown_refl _ _)
     ·
      intro aA wA cA hNA hRA hckA hOA hbsA hdpA
      have aY : Sl aA 85 (.int .i64 ((j3 : Nat) : Int)) := hdpA 6 _ 85 zy rfl rfl
      clear hbsA hdpA
      refine op_sub (zC hNA rfl aY) rfl (sub64 zx) ?_
      exact obR_end rfl rfl (grown_refl _ _)
     ·
      intro aA wA cA hNA hRA hckA hOA hbsA hdpA
      have aY : Sl aA 84 v := hdpA 5 _ 84 zy rfl rfl
      have aZ : Sl aA 86 (.int .i64 (((j3 : Nat) : Int) - 1)) := hdpA 7 _ 86 zy rfl rfl
      clear hbsA hdpA
      refine op_index_own (i := (j3 - 1)) slt45 (zC hNA rfl aY) hOA (zC hNA rfl aZ) zx zx ?_
      intro b_ o_ _ hA_
      exact obR_end rfl ⟨b_, o_, rfl, by simpa using hA_⟩ (grown_refl _ _)
     ·
      intro aA wA cA hNA hRA hckA hOA hbsA hdpA
      obtain ⟨a0, a1, aZ, aY⟩ := hdpA 8 _ 87 zy rfl rfl
      clear hbsA hdpA
      obtain rfl : cA = 0 := Nat.le_zero.1 (hckA 0 15 rfl zy)
      have hOA : Own wA base 46 1 v n (d2.toList.map u16v) := hOA
      refine zN (v := (Value.int .u16 (d2[(j3 - 1)]!.toNat : Int))) one46 (zC hNA rfl aZ) (by have := hOA.cellAt aY 0 _ (el_at (i := (j3 - 1)) (by first | omega | (simp only [Array.size_setIfInBounds, swp_sz, siftDown_size]; omega))); simpa using this) ?_
      exact obR_end rfl rfl (grown_refl _ _)
     ·
      intro aA wA cA hNA hRA hckA hOA hbsA hdpA
      have ac := (hbsA 0 rfl).trans (zL au rfl av)
      clear hbsA hdpA
      refine zG (zC hNA rfl ac) ?_
      exact obR_end rfl rfl (grown_refl _ _)
     ·
      intro aA wA cA hNA hRA hckA hOA hbsA hdpA
      have aX := (hbsA 9 rfl).trans (zL au rfl aw)
      clear hbsA hdpA
      refine zG (zC hNA rfl aX) ?_
      exact obR_end rfl rfl (grown_refl _ _)
     ·
      intro aA wA cA hNA hRA hckA hOA hbsA hdpA
      have aX : Sl aA 89 v := hdpA 10 _ 89 zy rfl rfl
      have aY : Sl aA 90 (.int .i64 ((j3 : Nat) : Int)) := hdpA 11 _ 90 zy rfl rfl
      clear hbsA hdpA
      refine op_index_own (i := j3) slt45 (zC hNA rfl aX) hOA (zC hNA rfl aY) zx zx ?_
      intro b_ o_ _ hA_
      exact obR_end rfl ⟨b_, o_, rfl, by simpa using hA_⟩ (grown_refl _ _)
     ·
      intro aA wA cA hNA hRA hckA hOA hbsA hdpA
      obtain ⟨a0, aZ, aX, aY⟩ := hdpA 12 _ 91 zy rfl rfl
      clear hbsA hdpA
      obtain rfl : cA = 0 := Nat.le_zero.1 (hckA 0 15 rfl zy)
      have hOA : Own wA base 46 1 v n (d2.toList.map u16v) := hOA
      refine zN (v := (Value.int .u16 (d2[j3]!.toNat : Int))) one46 (zC hNA rfl aX) (by have := hOA.cellAt aY 0 _ (el_at (i := j3) (by first | omega | (simp only [Array.size_setIfInBounds, swp_sz, siftDown_size]; omega))); simpa using this) ?_
      exact obR_end rfl rfl (grown_refl _ _)
     ·
      intro aA wA cA hNA hRA hckA hOA hbsA hdpA
      have aX : Sl aA 79 v := hdpA 0 _ 79 zy rfl rfl
      have aY : Sl aA 80 (.int .i64 ((j3 : Nat) : Int)) := hdpA 1 _ 80 zy rfl rfl
      clear hbsA hdpA
      refine op_index_own (i := j3) slt45 (zC hNA rfl aX) hOA (zC hNA rfl aY) zx zx ?_
      intro b_ o_ _ hA_
      exact obR_end rfl ⟨b_, o_, rfl, by simpa using hA_⟩ (grown_refl _ _)
     ·
      intro aA wA cA hNA hRA hckA hOA hbsA hdpA
      have aX : Sl aA 81 v := hdpA 2 _ 81 zy rfl rfl
      have aY : Sl aA 83 (.int .i64 (((j3 : Nat) : Int) - 1)) := hdpA 4 _ 83 zy rfl rfl
      clear hbsA hdpA
      refine op_index_own (i := (j3 - 1)) slt45 (zC hNA rfl aX) hOA (zC hNA rfl aY) zx zx ?_
      intro b_ o_ _ hA_
      exact obR_end rfl ⟨b_, o_, rfl, by simpa using hA_⟩ (grown_refl _ _)
     ·
      intro o_ ho_; obtain rfl := zE ho_; intro aA wA hNA hRA hbsA hdpA hOA
      obtain ⟨aZ, a0, aX, aY⟩ := hdpA 14 _ 93 zy rfl rfl
      have aZ : Sl aA 88 (.int .u16 (d2[(j3 - 1)]!.toNat : Int)) := hdpA 9 _ 88 zy rfl rfl
      clear hbsA hdpA
      have hOA : Own wA base 46 1 v n (d2.toList.map u16v) := hOA
      refine op_store_own (vs := [(.int .u16 (d2[(j3 - 1)]!.toNat : Int))]) size46 (zC hNA rfl aX) (zC hNA rfl aZ) rfl rfl rfl hOA aY (by have := hOA.1; simp at this ⊢; omega) ?_
      intro w_ hO_ E_
      exact obW_end rfl (hO_.cast rfl (set_arr (by first | omega | (simp only [Array.size_setIfInBounds, swp_sz, siftDown_size]; omega)))) E_
     ·
      intro o_ ho_; obtain rfl := zE ho_; intro aA wA hNA hRA hbsA hdpA hOA
      obtain ⟨a0, aZ, aX, aY⟩ := hdpA 16 _ 94 zy rfl rfl
      have ar : Sl aA 92 (.int .u16 (d2[j3]!.toNat : Int)) := hdpA 13 _ 92 zy rfl rfl
      clear hbsA hdpA
      have hOA : Own wA base 46 1 v n ((d2.setIfInBounds j3 d2[(j3 - 1)]!).toList.map u16v) := hOA
      refine op_store_own (vs := [(.int .u16 (d2[j3]!.toNat : Int))]) size46 (zC hNA rfl aX) (zC hNA rfl ar) rfl rfl rfl hOA aY (by have := hOA.1; simp at this ⊢; omega) ?_
      intro w_ hO_ E_
      exact obW_end rfl (hO_.cast rfl (set_arr (by first | omega | (simp only [Array.size_setIfInBounds, swp_sz, siftDown_size]; omega)))) E_
     intro aK aJ ar aF aE aI aG aH
     have aF := aF.trans ay
     have aK := (aE 0 rfl).trans (zL au rfl av)
     have aL := (aE 1 rfl).trans (zL au rfl aB)
     have aM := (aE 2 rfl).trans (zL au rfl aD)
     have aN := (aE 7 rfl).trans (zL au rfl aC)
     have aO := (aE 8 rfl).trans (zL au rfl az)
     have aP := (aE 9 rfl).trans (zL au rfl aw)
     clear aE aI
     have aG : Own aJ base 46 1 v n (((d2.setIfInBounds j3 d2[(j3 - 1)]!).setIfInBounds (j3 - 1) d2[j3]!).toList.map u16v) := aG
     have := aH.size
     have hb := grow_stepX hb aH rfl
     refine U _ _ (zH (zG (zC ar rfl aP) (op_sub (zA ar rfl) rfl (sub64 zx) (zD (zA ar rfl) (zB ?_)))))
     -- round 14T 37F 41F 61T 65T 78F
     exact zg _ ar aF ⟨(j3 - 1), _, rfl, (zL ar rfl aK), (zL ar rfl aL), (zL ar rfl aM), (zL ar rfl aN), (zL ar rfl aO), (zU ar rfl).trans (congrArg (Value.int .i64) zx), (by first | assumption | (simp only [Array.size_setIfInBounds, swp_sz, siftDown_size]; assumption)), zx, (hdn.trans (shiftDown_go zx (not_f aW))), hb, zx, aG⟩ zx
    refine zB (V _ _ (wp_cond_false (zA au rfl) (wp_exit (then_exit (then_exit (blk_hit (F _ _ ?_)))))))
    exact aq _ _ _ au ay ⟨_, (zL au rfl av), (zL au rfl aB), (zL au rfl aD), (zL au rfl aC), (zL au rfl az), ((fixDown_t zx).trans (hdn.trans (shiftDown_stop (.inl zx)))).symm, (by first | assumption | (simp only [Array.size_setIfInBounds, swp_sz, siftDown_size]; assumption)), hb, zx, ax⟩
   refine zB (U _ _ (wp_cond_false (zA ad rfl) (wp_skip (F _ _ ?_))))
   exact aq _ _ _ ad ag ⟨_, (zL ad rfl al), (zL ad rfl am), (zL ad rfl an), (zL ad rfl ao), (zL ad rfl ap), (fixDown_f zx).symm, (by first | assumption | (simp only [Array.size_setIfInBounds, swp_sz, siftDown_size]; assumption)), hb, zx, af⟩
  rintro aF aC ar az ⟨d3, ax, aw, av, au, ay, hdd, aE, hb, aD, aB⟩
  have := hb.size
  refine zF fun _ F => zH (zG (zC ar rfl av) (zG (zC ar rfl au) (op_sub (zA ar rfl) (zA ar rfl) (sub64 zx) (op_geq (zA ar rfl) rfl (fun aG => ?_) (fun aG => ?_)))))
  ·
   refine zB (F _ _ (wp_cond_true (zA ar rfl) (zF fun _ F => zH (zG (zC ar rfl au) (op_add (zA ar rfl) rfl (add64 zx) (zD (zA ar rfl) (zB (F _ _ (wp_block (loop_m (fun mz_ az_ w' => ∃ (j4 : Nat) (d4 : Ar), mz_ = (b + 1 - j4) ∧ (Sl az_ 0 v) ∧ (Sl az_ 1 (.int .i64 ((a : Nat) : Int))) ∧ (Sl az_ 2 (.int .i64 ((b : Nat) : Int))) ∧ (Sl az_ 7 (.int .i64 ((H : Nat) : Int))) ∧ (Sl az_ 8 (.int .i64 ((s : Nat) : Int))) ∧ (Sl az_ 10 (.int .i64 ((j4 : Nat) : Int))) ∧ (d4.size = n) ∧ (H + 1 ≤ j4 ∧ j4 ≤ b) ∧ (shiftUp ltT b (H + 1) d3 = shiftUp ltT b j4 d4) ∧ (w.grownBy w' v.ownBlock) ∧ (aC.heap.size ≤ w'.heap.size) ∧ (Own w' base 46 1 v n (d4.toList.map u16v))) _ ar az ⟨(H + 1), _, rfl, (zL ar rfl ax), (zL ar rfl aw), (zL ar rfl av), (zL ar rfl au), (zL ar rfl ay), (zU ar rfl).trans (congrArg (Value.int .i64) zx), (by first | assumption | (simp only [Array.size_setIfInBounds, swp_sz, siftDown_size]; assumption)), zx, rfl, hb, (Nat.le_refl _), aB⟩ ?_))))))))))
   rintro _ aR aQ aH aM ⟨j4, d4, rfl, aI, aO, aL, aN, aP, aJ, M, aS, hup, hb, aT, aK⟩
   have := hb.size
   refine zF fun _ F => zF fun _ U => zH (zG (zC aH rfl aJ) (zG (zC aH rfl aL) (op_lss (zA aH rfl) (zA aH rfl) (fun M => ?_) (fun M => ?_))))
   ·
    refine zB (U _ _ (wp_cond_true (zA aH rfl) (wp_skip (F _ _ (zF fun _ F => wp_block (zF fun _ U => zF fun _ V => reg_still mixed zy ?_))))))
    intro aV aU
    have := aU.size
    have aK := aK.keep0 aU
    have hb := grow_step0 hb aU
    refine st_step rfl (fun _ W => zG (zC aH rfl aI) W) (st_step rfl (fun _ W => zG (zC aH rfl aJ) W) (st_index_rd slt45 (zA aH rfl) aK.rdw (zA aH rfl) zx zx ?_))
    intro aZ a0 aY aX aW
    refine st_step rfl (fun _ W => zN (v := (Value.int .u16 (d4[j4]!.toNat : Int))) one46 (zA aH rfl) (by have := aW 0 (.int .u16 (d4[j4]!.toNat : Int)) zz (el_arr (i := j4) zx (by first | omega | (simp only [Array.size_setIfInBounds, swp_sz, siftDown_size]; omega))); simpa using this) W) (st_step rfl (fun _ W => zG (zC aH rfl aI) W) (st_step rfl (fun _ W => zG (zC aH rfl aJ) W) (st_step rfl (fun _ W => op_sub (zA aH rfl) rfl (sub64 zx) W) (st_index_rd slt45 (zA aH rfl) aK.rdw (zA aH rfl) zx zx ?_))))
    intro a4 a3 a2 a5 a1
    refine st_step rfl (fun _ W => zN (v := (Value.int .u16 (d4[(j4 - 1)]!.toNat : Int))) one46 (zA aH rfl) (by have := a1 0 (.int .u16 (d4[(j4 - 1)]!.toNat : Int)) zz (el_arr (i := (j4 - 1)) zx (by first | omega | (simp only [Array.size_setIfInBounds, swp_sz, siftDown_size]; omega))); simpa using this) W) (st_fn (vs := [(.int .u16 (d4[j4]!.toNat : Int)), (.int .u16 (d4[(j4 - 1)]!.toNat : Int))]) ok159 (⟨(zA aH rfl), ⟨(zA aH rfl), trivial⟩⟩) (Less16_ret d4[j4]! d4[(j4 - 1)]! _) (st_step rfl (fun _ W => op_not (zA aH rfl) W) (st_nil (V _ _ (wp_cond_split (zA aH rfl) (fun a6 => ?_) (fun a6 => ?_))))))
    ·
     refine wp_exit (then_exit (blk_miss zz (then_exit (then_exit (blk_hit (m _ _ (zH (zG (zC aH rfl aP) (op_add (zA aH rfl) rfl (add64 zx) (zD (zA aH rfl) (zB ?_)))))))))))
     -- round 14T 37F 41F 98T 103T 116T
     exact zg _ aH aM ⟨(s + 1), H, _, rfl, (zL aH rfl aI), (zL aH rfl aO), (zL aH rfl aL), (zU aH rfl).trans (congrArg (Value.int .i64) zx), (zL aH rfl aN).trans (congrArg (Value.int .i64) zx), (by first | assumption | (simp only [Array.size_setIfInBounds, swp_sz, siftDown_size]; assumption)), zx, (hs.trans (pi_go zx L zx zx hdd ((fixUp_t zx).trans (hup.trans (shiftUp_stop (.inr (not_t a6))))).symm)), hb, zx, aK⟩ zx
    refine wp_skip (U _ _ (reg_mid (e := 46) (sz := 1) (base := base) (n := n) (v := v) (Φ := phiL [(fun uz _ => uz = v), (fun uz _ => uz = (.int .i64 ((j4 : Nat) : Int))), (fun uz _ => uz = v), (fun uz _ => uz = (.int .i64 ((j4 : Nat) : Int))), (fun uz _ => uz = (.int .i64 (((j4 : Nat) : Int) - 1))), (fun uz _ => uz = v), (fun uz _ => uz = (.int .i64 ((j4 : Nat) : Int))), (fun uz _ => uz = (.int .i64 (((j4 : Nat) : Int) - 1))), (fun uz _ => ∃ bz oz, uz = ptr bz oz ∧ AtV v (j4 - 1) bz oz), (fun uz _ => uz = (.int .u16 (d4[(j4 - 1)]!.toNat : Int))), (fun uz _ => uz = v), (fun uz _ => uz = (.int .i64 ((j4 : Nat) : Int))), (fun uz _ => ∃ bz oz, uz = ptr bz oz ∧ AtV v j4 bz oz), (fun uz _ => uz = (.int .u16 (d4[j4]!.toNat : Int))), (fun uz _ => ∃ bz oz, uz = ptr bz oz ∧ AtV v j4 bz oz), (fun _ _ => True), (fun uz _ => ∃ bz oz, uz = ptr bz oz ∧ AtV v (j4 - 1) bz oz), (fun _ _ => True)]) [15, 17] [(d4.toList.map u16v), ((d4.setIfInBounds j4 d4[(j4 - 1)]!).toList.map u16v), (((d4.setIfInBounds j4 d4[(j4 - 1)]!).setIfInBounds (j4 - 1) d4[j4]!).toList.map u16v)] mixed zy zy zy zy aH aK (StL.get (StL.eq (StL.eq (StL.eq (StL.eq (StL.eq (StL.eq (StL.eq (StL.eq (StL.at (StL.eq (StL.eq (StL.eq (StL.at (StL.eq (StL.at (StL.cons (fun _ _ _ _ h => h) (StL.at (StL.cons (fun _ _ _ _ h => h) (StL.nil _)))))))))))))))))))) (ObRs.get (ObRs.cons ?_ (ObRs.cons ?_ (ObRs.cons ?_ (ObRs.cons ?_ (ObRs.cons ?_ (ObRs.cons ?_ (ObRs.cons ?_ (ObRs.cons ?_ (ObRs.cons ?_ (ObRs.cons ?_ (ObRs.cons ?_ (ObRs.cons ?_ (ObRs.cons ?_ (ObRs.cons ?_ (ObRs.cons ?_ (ObRs.pass rfl (ObRs.cons ?_ (ObRs.pass rfl (ObRs.nil)))))))))))))))))))) (ObWs.get (ObWs.cons ?_ (ObWs.cons ?_ (ObWs.nil)))) ?_))
    ·
     intro aA wA cA hNA hRA hckA hOA hbsA hdpA
     have ac := (hbsA 0 rfl).trans (zL aH rfl aI)
     clear hbsA hdpA
     refine zG (zC hNA rfl ac) ?_
     exact obR_end rfl rfl (grown_refl _ _)
    ·
     intro aA wA cA hNA hRA hckA hOA hbsA hdpA
     have V := (hbsA 10 rfl).trans (zL aH rfl aJ)
     clear hbsA hdpA
     refine zG (zC hNA rfl V) ?_
     exact obR_end rfl rfl (grown_refl _ _)
    ·
     intro aA wA cA hNA hRA hckA hOA hbsA hdpA
     have ac := (hbsA 0 rfl).trans (zL aH rfl aI)
     clear hbsA hdpA
     refine zG (zC hNA rfl ac) ?_
     exact obR_end rfl rfl (grown_refl _ _)
    ·
     intro aA wA cA hNA hRA hckA hOA hbsA hdpA
     have V := (hbsA 10 rfl).trans (zL aH rfl aJ)
     clear hbsA hdpA
     refine zG (zC hNA rfl V) ?_
     exact obR_end rfl rfl (grown_refl _ _)
    ·
     intro aA wA cA hNA hRA hckA hOA hbsA hdpA
     have W : Sl aA 120 (.int .i64 ((j4 : Nat) : Int)) := hdpA 3 _ 120 zy rfl rfl
     clear hbsA hdpA
     refine op_sub (zC hNA rfl W) rfl (sub64 zx) ?_
     exact obR_end rfl rfl (grown_refl _ _)
    ·
     intro aA wA cA hNA hRA hckA hOA hbsA hdpA
     have ac := (hbsA 0 rfl).trans (zL aH rfl aI)
     clear hbsA hdpA
     refine zG (zC hNA rfl ac) ?_
     exact obR_end rfl rfl (grown_refl _ _)
    ·
     intro aA wA cA hNA hRA hckA hOA hbsA hdpA
     have V := (hbsA 10 rfl).trans (zL aH rfl aJ)
     clear hbsA hdpA
     refine zG (zC hNA rfl V) ?_
     exact obR_end rfl rfl (grown_refl _ _)
    ·
     intro aA wA cA hNA hRA hckA hOA hbsA hdpA
     have W : Sl aA 123 (.int .i64 ((j4 : Nat) : Int)) := hdpA 6 _ 123 zy rfl rfl
     clear hbsA hdpA
     refine op_sub (zC hNA rfl W) rfl (sub64 zx) ?_
     exact obR_end rfl rfl (grown_refl _ _)
    ·
     intro aA wA cA hNA hRA hckA hOA hbsA hdpA
     have W : Sl aA 122 v := hdpA 5 _ 122 zy rfl rfl
     have a7 : Sl aA 124 (.int .i64 (((j4 : Nat) : Int) - 1)) := hdpA 7 _ 124 zy rfl rfl
     clear hbsA hdpA
     refine op_index_own (i := (j4 - 1)) slt45 (zC hNA rfl W) hOA (zC hNA rfl a7) zx zx ?_
     intro b_ o_ _ hA_
     exact obR_end rfl ⟨b_, o_, rfl, by simpa using hA_⟩ (grown_refl _ _)
    ·
     intro aA wA cA hNA hRA hckA hOA hbsA hdpA
     obtain ⟨a9, a8, a7, W⟩ := hdpA 8 _ 125 zy rfl rfl
     clear hbsA hdpA
     obtain rfl : cA = 0 := Nat.le_zero.1 (hckA 0 15 rfl zy)
     have hOA : Own wA base 46 1 v n (d4.toList.map u16v) := hOA
     refine zN (v := (Value.int .u16 (d4[(j4 - 1)]!.toNat : Int))) one46 (zC hNA rfl a7) (by have := hOA.cellAt W 0 _ (el_at (i := (j4 - 1)) (by first | omega | (simp only [Array.size_setIfInBounds, swp_sz, siftDown_size]; omega))); simpa using this) ?_
     exact obR_end rfl rfl (grown_refl _ _)
    ·
     intro aA wA cA hNA hRA hckA hOA hbsA hdpA
     have ac := (hbsA 0 rfl).trans (zL aH rfl aI)
     clear hbsA hdpA
     refine zG (zC hNA rfl ac) ?_
     exact obR_end rfl rfl (grown_refl _ _)
    ·
     intro aA wA cA hNA hRA hckA hOA hbsA hdpA
     have V := (hbsA 10 rfl).trans (zL aH rfl aJ)
     clear hbsA hdpA
     refine zG (zC hNA rfl V) ?_
     exact obR_end rfl rfl (grown_refl _ _)
    ·
     intro aA wA cA hNA hRA hckA hOA hbsA hdpA
     have V : Sl aA 127 v := hdpA 10 _ 127 zy rfl rfl
     have W : Sl aA 128 (.int .i64 ((j4 : Nat) : Int)) := hdpA 11 _ 128 zy rfl rfl
     clear hbsA hdpA
     refine op_index_own (i := j4) slt45 (zC hNA rfl V) hOA (zC hNA rfl W) zx zx ?_
     intro b_ o_ _ hA_
     exact obR_end rfl ⟨b_, o_, rfl, by simpa using hA_⟩ (grown_refl _ _)
    ·
     intro aA wA cA hNA hRA hckA hOA hbsA hdpA
     obtain ⟨a7, ac, V, W⟩ := hdpA 12 _ 129 zy rfl rfl
     clear hbsA hdpA
     obtain rfl : cA = 0 := Nat.le_zero.1 (hckA 0 15 rfl zy)
     have hOA : Own wA base 46 1 v n (d4.toList.map u16v) := hOA
     refine zN (v := (Value.int .u16 (d4[j4]!.toNat : Int))) one46 (zC hNA rfl V) (by have := hOA.cellAt W 0 _ (el_at (i := j4) (by first | omega | (simp only [Array.size_setIfInBounds, swp_sz, siftDown_size]; omega))); simpa using this) ?_
     exact obR_end rfl rfl (grown_refl _ _)
    ·
     intro aA wA cA hNA hRA hckA hOA hbsA hdpA
     have V : Sl aA 117 v := hdpA 0 _ 117 zy rfl rfl
     have W : Sl aA 118 (.int .i64 ((j4 : Nat) : Int)) := hdpA 1 _ 118 zy rfl rfl
     clear hbsA hdpA
     refine op_index_own (i := j4) slt45 (zC hNA rfl V) hOA (zC hNA rfl W) zx zx ?_
     intro b_ o_ _ hA_
     exact obR_end rfl ⟨b_, o_, rfl, by simpa using hA_⟩ (grown_refl _ _)
    ·
     intro aA wA cA hNA hRA hckA hOA hbsA hdpA
     have V : Sl aA 119 v := hdpA 2 _ 119 zy rfl rfl
     have W : Sl aA 121 (.int .i64 (((j4 : Nat) : Int) - 1)) := hdpA 4 _ 121 zy rfl rfl
     clear hbsA hdpA
     refine op_index_own (i := (j4 - 1)) slt45 (zC hNA rfl V) hOA (zC hNA rfl W) zx zx ?_
     intro b_ o_ _ hA_
     exact obR_end rfl ⟨b_, o_, rfl, by simpa using hA_⟩ (grown_refl _ _)
    ·
     intro o_ ho_; obtain rfl := zE ho_; intro aA wA hNA hRA hbsA hdpA hOA
     obtain ⟨ac, a7, V, W⟩ := hdpA 14 _ 131 zy rfl rfl
     have ac : Sl aA 126 (.int .u16 (d4[(j4 - 1)]!.toNat : Int)) := hdpA 9 _ 126 zy rfl rfl
     clear hbsA hdpA
     have hOA : Own wA base 46 1 v n (d4.toList.map u16v) := hOA
     refine op_store_own (vs := [(.int .u16 (d4[(j4 - 1)]!.toNat : Int))]) size46 (zC hNA rfl V) (zC hNA rfl ac) rfl rfl rfl hOA W (by have := hOA.1; simp at this ⊢; omega) ?_
     intro w_ hO_ E_
     exact obW_end rfl (hO_.cast rfl (set_arr (by first | omega | (simp only [Array.size_setIfInBounds, swp_sz, siftDown_size]; omega)))) E_
    ·
     intro o_ ho_; obtain rfl := zE ho_; intro aA wA hNA hRA hbsA hdpA hOA
     obtain ⟨ac, a7, V, W⟩ := hdpA 16 _ 132 zy rfl rfl
     have c : Sl aA 130 (.int .u16 (d4[j4]!.toNat : Int)) := hdpA 13 _ 130 zy rfl rfl
     clear hbsA hdpA
     have hOA : Own wA base 46 1 v n ((d4.setIfInBounds j4 d4[(j4 - 1)]!).toList.map u16v) := hOA
     refine op_store_own (vs := [(.int .u16 (d4[j4]!.toNat : Int))]) size46 (zC hNA rfl V) (zC hNA rfl c) rfl rfl rfl hOA W (by have := hOA.1; simp at this ⊢; omega) ?_
     intro w_ hO_ E_
     exact obW_end rfl (hO_.cast rfl (set_arr (by first | omega | (simp only [Array.size_setIfInBounds, swp_sz, siftDown_size]; omega)))) E_
    intro z y c g f t k q
    have g := g.trans aM
    have z := (f 0 rfl).trans (zL aH rfl aI)
    have A := (f 1 rfl).trans (zL aH rfl aO)
    have B := (f 2 rfl).trans (zL aH rfl aL)
    have C := (f 7 rfl).trans (zL aH rfl aN)
    have D := (f 8 rfl).trans (zL aH rfl aP)
    have E := (f 10 rfl).trans (zL aH rfl aJ)
    clear f t
    have k : Own y base 46 1 v n (((d4.setIfInBounds j4 d4[(j4 - 1)]!).setIfInBounds (j4 - 1) d4[j4]!).toList.map u16v) := k
    have := q.size
    have hb := grow_stepX hb q rfl
    refine F _ _ (zH (zG (zC c rfl E) (op_add (zA c rfl) rfl (add64 zx) (zD (zA c rfl) (zB ?_)))))
    -- round 14T 37F 41F 98T 103T 116F
    exact zg _ c g ⟨(j4 + 1), _, rfl, (zL c rfl z), (zL c rfl A), (zL c rfl B), (zL c rfl C), (zL c rfl D), (zU c rfl).trans (congrArg (Value.int .i64) zx), (by first | assumption | (simp only [Array.size_setIfInBounds, swp_sz, siftDown_size]; assumption)), zx, (hup.trans (shiftUp_go zx (not_f a6))), hb, zx, k⟩ zx
   refine zB (U _ _ (wp_cond_false (zA aH rfl) (wp_exit (then_exit (then_exit (blk_hit (m _ _ (zH (zG (zC aH rfl aP) (op_add (zA aH rfl) rfl (add64 zx) (zD (zA aH rfl) (zB ?_))))))))))))
   -- round 14T 37F 41F 98T 103F
   exact zg _ aH aM ⟨(s + 1), H, _, rfl, (zL aH rfl aI), (zL aH rfl aO), (zL aH rfl aL), (zU aH rfl).trans (congrArg (Value.int .i64) zx), (zL aH rfl aN).trans (congrArg (Value.int .i64) zx), (by first | assumption | (simp only [Array.size_setIfInBounds, swp_sz, siftDown_size]; assumption)), zx, (hs.trans (pi_go zx L zx zx hdd ((fixUp_t zx).trans (hup.trans (shiftUp_stop (.inl zx)))).symm)), hb, zx, aK⟩ zx
  refine zB (F _ _ (wp_cond_false (zA ar rfl) (wp_skip (m _ _ (zH (zG (zC ar rfl ay) (op_add (zA ar rfl) rfl (add64 zx) (zD (zA ar rfl) (zB ?_)))))))))
  -- round 14T 37F 41F 98F
  exact zg _ ar az ⟨(s + 1), H, _, rfl, (zL ar rfl ax), (zL ar rfl aw), (zL ar rfl av), (zU ar rfl).trans (congrArg (Value.int .i64) zx), (zL ar rfl au).trans (congrArg (Value.int .i64) zx), (by first | assumption | (simp only [Array.size_setIfInBounds, swp_sz, siftDown_size]; assumption)), zx, (hs.trans (pi_go zx L zx zx hdd (fixUp_f zx).symm)), hb, zx, aB⟩ zx
 refine zB (F _ _ (wp_cond_false (zA p rfl) (wp_exit (then_exit (then_exit (blk_hit (l _ _ (zF fun _ l => zH (zD rfl (zB (l _ _ (wp_ret (ret1 rfl u (zA p rfl) ⟨_, rfl, ?_⟩)))))))))))))
 have hq : partialInsertionSort ltT d a b = (dk, false) := hs.trans (by rw [show 5 - s = 0 by omega]; rfl)
 exact ⟨hb, by rw [hq]; rfl, o.cast rfl (by rw [hq])⟩
open Go.Sort (insertionSort insOuter insInner swp siftDown heapSort heapBuild heapPop scanUp scanDown partition partLoop partitionEqual partEqLoop scanSorted partialIns bitsLen partialInsertionSort shiftDown shiftUp SortedIn reverseRange reverseLoop fixDown fixUp)
set_option maxHeartbeats 2000000 in
theorem bpW_ret (d : Ar) (v : Value) (n base : Nat) (a b : Nat) (w : World) (hd : d.size = n) (hn : n ≤ 4000000000000000000) (O : Own w base 46 1 v n (d.toList.map u16v)) (hab : a ≤ b) (hbn : b ≤ n) : Ret Try.prog 155 #[v, (.int .i64 ((a : Nat) : Int)), (.int .i64 ((b : Nat) : Int))] w (fun v' w' => w.grownBy w' v.ownBlock ∧ v' = .tuple #[] ∧ ∃ d', PI a b d d' ∧ Own w' base 46 1 v n (d'.toList.map u16v)) := by
 have hb := grown_refl w v.ownBlock
 refine enter (N := 65) Try.func155 rfl rfl (by simp) fun c hN hd hA => ?_
 have f : c.tmps.getD 0 undef = v := hA 0 (by simp)
 have g : c.tmps.getD 1 undef = (.int .i64 ((a : Nat) : Int)) := hA 1 (by simp)
 have j : c.tmps.getD 2 undef = (.int .i64 ((b : Nat) : Int)) := hA 2 (by simp)
 clear hA
 refine zF fun _ k => ?_
 refine zH (zG (zC hN rfl j) (zG (zC hN rfl g) (op_sub (r := (((b - a) : Nat) : Int)) (zA hN rfl) (zA hN rfl) (by rw [IntKind.wrap_i64]; omega) (zD (zA hN rfl) (zB (k _ _ (zF fun _ k => zH (zG (zA hN rfl) (op_geq (zA hN rfl) rfl (fun l => ?_) (fun l => ?_))))))))))
 ·
  refine zB (k _ _ (wp_cond_true (zA hN rfl) (zF fun _ k => zH (zG (zA hN rfl) (op_conv (r := (((b - a) : Nat) : Int)) (zA hN rfl) us3 Try.underlying244 (wrap_u64 zx) (op_alloc (cs := [(.int .u64 0)]) zero244 rfl ?_))))))
  intro q o s t m p
  have := p.size
  have hb := grow_step0 hb p
  have u := m
  refine za (vs := [(.int .u64 (((b - a) : Nat) : Int))]) (cs' := [(.int .u64 (((b - a) : Nat) : Int))]) size244 (zA hN rfl) (zA hN rfl) rfl rfl rfl m (zI rfl) rfl ?_
  intro z m y
  have := y.size
  have hb := grow_step1 hb y zx
  refine zB (k _ _ (zF fun _ k => zH (zG (zA hN rfl) (zj ok174 (npW_ret (b - a) _ zx) ⟨(zA hN rfl), trivial⟩ ?_))))
  rintro _ C ⟨B, A, rfl, D, E⟩
  have B := zQ B
  have := B.size
  have O := ((O.keep0 p).keepX u y zz).keep0 B
  have m := m.keep0 B
  have hb := grow_step0 hb B
  refine zD (zA hN rfl) (zB (k _ _ (zF fun _ k => zH ?_)))
  refine zG (zC hN rfl g) (zG (zA hN rfl) (op_quo (r := ((((b - a) / 4) : Nat) : Int)) (zA hN rfl) rfl zz (by rw [IntKind.wrap_i64, Int.tdiv_eq_ediv_of_nonneg zx]; omega) (op_mul (r := ((((b - a) / 4 * 2) : Nat) : Int)) (zA hN rfl) rfl (by rw [IntKind.wrap_i64]; omega) (op_add (zA hN rfl) (zA hN rfl) (add64 zx) (op_sub (r := (((a + ((b - a) / 4 * 2) - 1) : Nat) : Int)) (zA hN rfl) rfl (by rw [IntKind.wrap_i64]; omega) (zD (zA hN rfl) (zB (k _ _ (wp_block (loop_m (fun mz_ az_ w' => ∃ (ix xs : Nat) (dk : Ar), mz_ = (a + b + 10 - ix) ∧ (Sl az_ 0 v) ∧ (Sl az_ 1 (.int .i64 ((a : Nat) : Int))) ∧ (Sl az_ 6 (.int .i64 (((b - a) : Nat) : Int))) ∧ (Sl az_ 7 (ptr o 0)) ∧ (Sl az_ 8 (.int .u64 ((A : Nat) : Int))) ∧ (Sl az_ 9 (.int .i64 ((ix : Nat) : Int))) ∧ (dk.size = n) ∧ (a + ((b - a) / 4 * 2) - 1 ≤ ix ∧ ix ≤ a + ((b - a) / 4 * 2) + 2) ∧ (PI a b d dk) ∧ (w.grownBy w' v.ownBlock) ∧ (C.heap.size ≤ w'.heap.size) ∧ (Bx w' o 244 [(.int .u64 ((xs : Nat) : Int))]) ∧ (Own w' base 46 1 v n (dk.toList.map u16v))) _ hN hd ⟨(a + ((b - a) / 4 * 2) - 1), (b - a), _, rfl, (zL hN rfl f), (zL hN rfl g), (zU hN rfl), (zU hN rfl), (zU hN rfl), (zU hN rfl).trans (congrArg (Value.int .i64) zx), (by first | assumption | (simp only [Array.size_setIfInBounds, swp_sz, siftDown_size]; assumption)), zx, (PI.rfl' _ _ _), hb, (Nat.le_refl _), m, O⟩ ?_))))))))))
  rintro _ Q T F L ⟨ix, xs, dk, rfl, P, I, H, M, K, J, hdk, S, hpi, hb, R, hxs, G⟩
  have := hb.size
  refine zF fun _ k => ?_
  refine zF fun _ U => zH (zG (zC F rfl J) (zG (zC F rfl I) (zG (zC F rfl H) (op_quo (r := ((((b - a) / 4) : Nat) : Int)) (zA F rfl) rfl zz (by rw [IntKind.wrap_i64, Int.tdiv_eq_ediv_of_nonneg zx]; omega) (op_mul (r := ((((b - a) / 4 * 2) : Nat) : Int)) (zA F rfl) rfl (by rw [IntKind.wrap_i64]; omega) (op_add (zA F rfl) (zA F rfl) (add64 zx) (op_add (zA F rfl) rfl (add64 zx) (op_leq (zA F rfl) (zA F rfl) (fun V => ?_) (fun V => ?_)))))))))
  ·
   refine zB (U _ _ (wp_cond_true (zA F rfl) (wp_skip (k _ _ (zF fun _ k => wp_block (zF fun _ U => zH (zj ok175 (xnextW_ret o _ _ hxs) ⟨(zC F rfl M), trivial⟩ ?_)))))))
   rintro _ Z ⟨Y, W, rfl, aa, X⟩
   have hxs_old := hxs
   have := Y.size
   have G := G.keepX hxs_old Y zz
   have hb := grow_step1 hb Y zx
   refine zG (zC F rfl K) (op_sub (r := (((A - 1) : Nat) : Int)) (zA F rfl) rfl (by rw [show (A : Int) - 1 = ((A - 1 : Nat) : Int) by omega]; exact wrap_u64 zx) (op_and (r := (((W &&& (A - 1)) : Nat) : Int)) (zA F rfl) (zA F rfl) (and_64 zx zx) ?_))
   have hand : (W &&& (A - 1)) ≤ A - 1 := Nat.and_le_right
   refine op_conv (r := (((W &&& (A - 1)) : Nat) : Int)) (zA F rfl) us184 Try.underlying3 (by rw [IntKind.wrap_i64]; omega) (zD (zA F rfl) (zB (U _ _ (seq_join1 (N := 65) (fun az_ w' => ∃ (ot : Nat), (Sl az_ 0 v) ∧ (Sl az_ 1 (.int .i64 ((a : Nat) : Int))) ∧ (Sl az_ 6 (.int .i64 (((b - a) : Nat) : Int))) ∧ (Sl az_ 7 (ptr o 0)) ∧ (Sl az_ 8 (.int .u64 ((A : Nat) : Int))) ∧ (Sl az_ 9 (.int .i64 ((ix : Nat) : Int))) ∧ (Sl az_ 10 (.int .i64 ((ot : Nat) : Int))) ∧ (ot < b - a) ∧ (w.grownBy w' v.ownBlock) ∧ (Z.heap.size ≤ w'.heap.size) ∧ (Own w' base 46 1 v n (dk.toList.map u16v)) ∧ (Bx w' o 244 [(.int .u64 ((W : Nat) : Int))])) (fun ab => ?_) ?_))))
   ·
    refine zF fun _ U => zF fun _ J2 => zH (zG (zA F rfl) (zG (zC F rfl H) (op_geq (zA F rfl) (zA F rfl) (fun ac => ?_) (fun ac => ?_))))
    ·
     refine zB (J2 _ _ (wp_cond_true (zA F rfl) (zH (zG (zA F rfl) (zG (zC F rfl H) (op_sub (zA F rfl) (zA F rfl) (sub64 zx) (zD (zA F rfl) (zB (U _ _ ?_)))))))))
     exact ab _ _ _ F L ⟨((W &&& (A - 1)) - (b - a)), (zL F rfl P), (zL F rfl I), (zL F rfl H), (zL F rfl M), (zL F rfl K), (zL F rfl J), (zU F rfl).trans (congrArg (Value.int .i64) zx), zx, hb, zx, G, X⟩
    refine zB (J2 _ _ (wp_cond_false (zA F rfl) (wp_skip (U _ _ ?_))))
    exact ab _ _ _ F L ⟨(W &&& (A - 1)), (zL F rfl P), (zL F rfl I), (zL F rfl H), (zL F rfl M), (zL F rfl K), (zL F rfl J), (zU F rfl).trans (congrArg (Value.int .i64) zx), zx, hb, zx, G, X⟩
   rintro an al ac ai ⟨ot, ad, ae, aj, ah, ak, af, ag, hot, hb, am, G, X⟩
   have := hb.size
   refine reg_mid (e := 46) (sz := 1) (base := base) (n := n) (v := v) (Φ := phiL [(fun uz _ => uz = v), (fun uz _ => uz = (.int .i64 ((ix : Nat) : Int))), (fun uz _ => uz = v), (fun uz _ => uz = (.int .i64 ((a : Nat) : Int))), (fun uz _ => uz = (.int .i64 ((ot : Nat) : Int))), (fun uz _ => uz = (.int .i64 (((a : Nat) : Int) + ((ot : Nat) : Int)))), (fun uz _ => uz = v), (fun uz _ => uz = (.int .i64 ((a : Nat) : Int))), (fun uz _ => uz = (.int .i64 ((ot : Nat) : Int))), (fun uz _ => uz = (.int .i64 (((a : Nat) : Int) + ((ot : Nat) : Int)))), (fun uz _ => ∃ bz oz, uz = ptr bz oz ∧ AtV v (a + ot) bz oz), (fun uz _ => uz = (.int .u16 (dk[(a + ot)]!.toNat : Int))), (fun uz _ => uz = v), (fun uz _ => uz = (.int .i64 ((ix : Nat) : Int))), (fun uz _ => ∃ bz oz, uz = ptr bz oz ∧ AtV v ix bz oz), (fun uz _ => uz = (.int .u16 (dk[ix]!.toNat : Int))), (fun uz _ => ∃ bz oz, uz = ptr bz oz ∧ AtV v ix bz oz), (fun _ _ => True), (fun uz _ => ∃ bz oz, uz = ptr bz oz ∧ AtV v (a + ot) bz oz), (fun _ _ => True)]) [17, 19] [(dk.toList.map u16v), ((dk.setIfInBounds ix dk[(a + ot)]!).toList.map u16v), (((dk.setIfInBounds ix dk[(a + ot)]!).setIfInBounds (a + ot) dk[ix]!).toList.map u16v)] mixed zy zy zy zy ac G (StL.get (StL.eq (StL.eq (StL.eq (StL.eq (StL.eq (StL.eq (StL.eq (StL.eq (StL.eq (StL.eq (StL.at (StL.eq (StL.eq (StL.eq (StL.at (StL.eq (StL.at (StL.cons (fun _ _ _ _ h => h) (StL.at (StL.cons (fun _ _ _ _ h => h) (StL.nil _)))))))))))))))))))))) (ObRs.get (ObRs.cons ?_ (ObRs.cons ?_ (ObRs.cons ?_ (ObRs.cons ?_ (ObRs.cons ?_ (ObRs.cons ?_ (ObRs.cons ?_ (ObRs.cons ?_ (ObRs.cons ?_ (ObRs.cons ?_ (ObRs.cons ?_ (ObRs.cons ?_ (ObRs.cons ?_ (ObRs.cons ?_ (ObRs.cons ?_ (ObRs.cons ?_ (ObRs.cons ?_ (ObRs.pass rfl (ObRs.cons ?_ (ObRs.pass rfl (ObRs.nil)))))))))))))))))))))) (ObWs.get (ObWs.cons ?_ (ObWs.cons ?_ (ObWs.nil)))) ?_
   ·
    intro aA wA cA hNA hRA hckA hOA hbsA hdpA
    have ao := (hbsA 0 rfl).trans (zL ac rfl ad)
    clear hbsA hdpA
    refine zG (zC hNA rfl ao) ?_
    exact obR_end rfl rfl (grown_refl _ _)
   ·
    intro aA wA cA hNA hRA hckA hOA hbsA hdpA
    have ap := (hbsA 9 rfl).trans (zL ac rfl af)
    clear hbsA hdpA
    refine zG (zC hNA rfl ap) ?_
    exact obR_end rfl rfl (grown_refl _ _)
   ·
    intro aA wA cA hNA hRA hckA hOA hbsA hdpA
    have ao := (hbsA 0 rfl).trans (zL ac rfl ad)
    clear hbsA hdpA
    refine zG (zC hNA rfl ao) ?_
    exact obR_end rfl rfl (grown_refl _ _)
   ·
    intro aA wA cA hNA hRA hckA hOA hbsA hdpA
    have aq := (hbsA 1 rfl).trans (zL ac rfl ae)
    clear hbsA hdpA
    refine zG (zC hNA rfl aq) ?_
    exact obR_end rfl rfl (grown_refl _ _)
   ·
    intro aA wA cA hNA hRA hckA hOA hbsA hdpA
    have ar := (hbsA 10 rfl).trans (zL ac rfl ag)
    clear hbsA hdpA
    refine zG (zC hNA rfl ar) ?_
    exact obR_end rfl rfl (grown_refl _ _)
   ·
    intro aA wA cA hNA hRA hckA hOA hbsA hdpA
    have au : Sl aA 50 (.int .i64 ((a : Nat) : Int)) := hdpA 3 _ 50 zy rfl rfl
    have av : Sl aA 51 (.int .i64 ((ot : Nat) : Int)) := hdpA 4 _ 51 zy rfl rfl
    clear hbsA hdpA
    refine op_add (zC hNA rfl au) (zC hNA rfl av) (add64 zx) ?_
    exact obR_end rfl rfl (grown_refl _ _)
   ·
    intro aA wA cA hNA hRA hckA hOA hbsA hdpA
    have ao := (hbsA 0 rfl).trans (zL ac rfl ad)
    clear hbsA hdpA
    refine zG (zC hNA rfl ao) ?_
    exact obR_end rfl rfl (grown_refl _ _)
   ·
    intro aA wA cA hNA hRA hckA hOA hbsA hdpA
    have aq := (hbsA 1 rfl).trans (zL ac rfl ae)
    clear hbsA hdpA
    refine zG (zC hNA rfl aq) ?_
    exact obR_end rfl rfl (grown_refl _ _)
   ·
    intro aA wA cA hNA hRA hckA hOA hbsA hdpA
    have ar := (hbsA 10 rfl).trans (zL ac rfl ag)
    clear hbsA hdpA
    refine zG (zC hNA rfl ar) ?_
    exact obR_end rfl rfl (grown_refl _ _)
   ·
    intro aA wA cA hNA hRA hckA hOA hbsA hdpA
    have aq : Sl aA 54 (.int .i64 ((a : Nat) : Int)) := hdpA 7 _ 54 zy rfl rfl
    have ar : Sl aA 55 (.int .i64 ((ot : Nat) : Int)) := hdpA 8 _ 55 zy rfl rfl
    clear hbsA hdpA
    refine op_add (zC hNA rfl aq) (zC hNA rfl ar) (add64 zx) ?_
    exact obR_end rfl rfl (grown_refl _ _)
   ·
    intro aA wA cA hNA hRA hckA hOA hbsA hdpA
    have aq : Sl aA 53 v := hdpA 6 _ 53 zy rfl rfl
    have ar : Sl aA 56 (.int .i64 (((a : Nat) : Int) + ((ot : Nat) : Int))) := hdpA 9 _ 56 zy rfl rfl
    clear hbsA hdpA
    refine op_index_own (i := (a + ot)) slt45 (zC hNA rfl aq) hOA (zC hNA rfl ar) zx zx ?_
    intro b_ o_ _ hA_
    exact obR_end rfl ⟨b_, o_, rfl, by simpa using hA_⟩ (grown_refl _ _)
   ·
    intro aA wA cA hNA hRA hckA hOA hbsA hdpA
    obtain ⟨av, au, ar, aq⟩ := hdpA 10 _ 57 zy rfl rfl
    clear hbsA hdpA
    obtain rfl : cA = 0 := Nat.le_zero.1 (hckA 0 17 rfl zy)
    have hOA : Own wA base 46 1 v n (dk.toList.map u16v) := hOA
    refine zN (v := (Value.int .u16 (dk[(a + ot)]!.toNat : Int))) one46 (zC hNA rfl ar) (by have := hOA.cellAt aq 0 _ (el_at (i := (a + ot)) (by first | omega | (simp only [Array.size_setIfInBounds, swp_sz, siftDown_size]; omega))); simpa using this) ?_
    exact obR_end rfl rfl (grown_refl _ _)
   ·
    intro aA wA cA hNA hRA hckA hOA hbsA hdpA
    have ao := (hbsA 0 rfl).trans (zL ac rfl ad)
    clear hbsA hdpA
    refine zG (zC hNA rfl ao) ?_
    exact obR_end rfl rfl (grown_refl _ _)
   ·
    intro aA wA cA hNA hRA hckA hOA hbsA hdpA
    have ap := (hbsA 9 rfl).trans (zL ac rfl af)
    clear hbsA hdpA
    refine zG (zC hNA rfl ap) ?_
    exact obR_end rfl rfl (grown_refl _ _)
   ·
    intro aA wA cA hNA hRA hckA hOA hbsA hdpA
    have ao : Sl aA 59 v := hdpA 12 _ 59 zy rfl rfl
    have ap : Sl aA 60 (.int .i64 ((ix : Nat) : Int)) := hdpA 13 _ 60 zy rfl rfl
    clear hbsA hdpA
    refine op_index_own (i := ix) slt45 (zC hNA rfl ao) hOA (zC hNA rfl ap) zx zx ?_
    intro b_ o_ _ hA_
    exact obR_end rfl ⟨b_, o_, rfl, by simpa using hA_⟩ (grown_refl _ _)
   ·
    intro aA wA cA hNA hRA hckA hOA hbsA hdpA
    obtain ⟨ar, aq, ao, ap⟩ := hdpA 14 _ 61 zy rfl rfl
    clear hbsA hdpA
    obtain rfl : cA = 0 := Nat.le_zero.1 (hckA 0 17 rfl zy)
    have hOA : Own wA base 46 1 v n (dk.toList.map u16v) := hOA
    refine zN (v := (Value.int .u16 (dk[ix]!.toNat : Int))) one46 (zC hNA rfl ao) (by have := hOA.cellAt ap 0 _ (el_at (i := ix) (by first | omega | (simp only [Array.size_setIfInBounds, swp_sz, siftDown_size]; omega))); simpa using this) ?_
    exact obR_end rfl rfl (grown_refl _ _)
   ·
    intro aA wA cA hNA hRA hckA hOA hbsA hdpA
    have ao : Sl aA 47 v := hdpA 0 _ 47 zy rfl rfl
    have ap : Sl aA 48 (.int .i64 ((ix : Nat) : Int)) := hdpA 1 _ 48 zy rfl rfl
    clear hbsA hdpA
    refine op_index_own (i := ix) slt45 (zC hNA rfl ao) hOA (zC hNA rfl ap) zx zx ?_
    intro b_ o_ _ hA_
    exact obR_end rfl ⟨b_, o_, rfl, by simpa using hA_⟩ (grown_refl _ _)
   ·
    intro aA wA cA hNA hRA hckA hOA hbsA hdpA
    have ao : Sl aA 49 v := hdpA 2 _ 49 zy rfl rfl
    have ap : Sl aA 52 (.int .i64 (((a : Nat) : Int) + ((ot : Nat) : Int))) := hdpA 5 _ 52 zy rfl rfl
    clear hbsA hdpA
    refine op_index_own (i := (a + ot)) slt45 (zC hNA rfl ao) hOA (zC hNA rfl ap) zx zx ?_
    intro b_ o_ _ hA_
    exact obR_end rfl ⟨b_, o_, rfl, by simpa using hA_⟩ (grown_refl _ _)
   ·
    intro o_ ho_; obtain rfl := zE ho_; intro aA wA hNA hRA hbsA hdpA hOA
    obtain ⟨ar, aq, ap, ao⟩ := hdpA 16 _ 63 zy rfl rfl
    have aq : Sl aA 58 (.int .u16 (dk[(a + ot)]!.toNat : Int)) := hdpA 11 _ 58 zy rfl rfl
    clear hbsA hdpA
    have hOA : Own wA base 46 1 v n (dk.toList.map u16v) := hOA
    refine op_store_own (vs := [(.int .u16 (dk[(a + ot)]!.toNat : Int))]) size46 (zC hNA rfl ap) (zC hNA rfl aq) rfl rfl rfl hOA ao (by have := hOA.1; simp at this ⊢; omega) ?_
    intro w_ hO_ E_
    exact obW_end rfl (hO_.cast rfl (set_arr (by first | omega | (simp only [Array.size_setIfInBounds, swp_sz, siftDown_size]; omega)))) E_
   ·
    intro o_ ho_; obtain rfl := zE ho_; intro aA wA hNA hRA hbsA hdpA hOA
    obtain ⟨ar, aq, ao, ap⟩ := hdpA 18 _ 64 zy rfl rfl
    have c : Sl aA 62 (.int .u16 (dk[ix]!.toNat : Int)) := hdpA 15 _ 62 zy rfl rfl
    clear hbsA hdpA
    have hOA : Own wA base 46 1 v n ((dk.setIfInBounds ix dk[(a + ot)]!).toList.map u16v) := hOA
    refine op_store_own (vs := [(.int .u16 (dk[ix]!.toNat : Int))]) size46 (zC hNA rfl ao) (zC hNA rfl c) rfl rfl rfl hOA ap (by have := hOA.1; simp at this ⊢; omega) ?_
    intro w_ hO_ E_
    exact obW_end rfl (hO_.cast rfl (set_arr (by first | omega | (simp only [Array.size_setIfInBounds, swp_sz, siftDown_size]; omega)))) E_
   intro p o c l f m g j
   have l := l.trans ai
   have p := (f 0 rfl).trans (zL ac rfl ad)
   have q := (f 1 rfl).trans (zL ac rfl ae)
   have s := (f 6 rfl).trans (zL ac rfl aj)
   have t := (f 7 rfl).trans (zL ac rfl ah)
   have u := (f 8 rfl).trans (zL ac rfl ak)
   have y := (f 9 rfl).trans (zL ac rfl af)
   clear f m
   have g : Own o base 46 1 v n (((dk.setIfInBounds ix dk[(a + ot)]!).setIfInBounds (a + ot) dk[ix]!).toList.map u16v) := g
   have := j.size
   have X := X.keepO G j zz
   have hb := grow_stepX hb j rfl
   refine k _ _ (zH (zG (zC c rfl y) (op_add (zA c rfl) rfl (add64 zx) (zD (zA c rfl) (zB ?_)))))
   -- round 15T 33T
   exact zg _ c l ⟨(ix + 1), W, _, rfl, (zL c rfl p), (zL c rfl q), (zL c rfl s), (zL c rfl t), (zL c rfl u), (zU c rfl).trans (congrArg (Value.int .i64) zx), (by first | assumption | (simp only [Array.size_setIfInBounds, swp_sz, siftDown_size]; assumption)), zx, (hpi.tr (PI.swp zx zx zx zx (by first | omega | (simp only [Array.size_setIfInBounds, swp_sz]; omega)))), hb, zx, X, g⟩ zx
  refine zB (U _ _ (wp_cond_false (zA F rfl) (wp_exit (then_exit (then_exit (blk_hit (end_ret (ret0 rfl L  ⟨_, rfl, ?_⟩))))))))
  exact ⟨hb, rfl, _, hpi, G⟩
 refine zB (k _ _ (wp_cond_false (zA hN rfl) (wp_skip (end_ret (ret0 rfl hd  ⟨_, rfl, ?_⟩)))))
 exact ⟨hb, rfl, _, PI.rfl' _ _ _, O⟩
open Go.Sort (insertionSort insOuter insInner swp siftDown heapSort heapBuild heapPop scanUp scanDown partition partLoop partitionEqual partEqLoop scanSorted partialIns bitsLen partialInsertionSort shiftDown shiftUp SortedIn reverseRange reverseLoop fixDown fixUp)
def PdqIH (z : Nat) (v : Value) (n base : Nat) : Prop := ∀ (d : Ar) (a b lim : Nat) (w : World), d.size = n → a ≤ b → b ≤ n → lim ≤ 100 → b - a < z → Go.Sort.Below ltT a b d → Own w base 46 1 v n (d.toList.map u16v) → Ret Try.prog 147 #[v, .int .i64 (a : Int), .int .i64 (b : Int), .int .i64 (lim : Int)] w (fun v' w' => w.grownBy w' v.ownBlock ∧ v' = .tuple #[] ∧ ∃ d', PI a b d d' ∧ SortedIn ltT a b d' ∧ Own w' base 46 1 v n (d'.toList.map u16v))

set_option maxHeartbeats 4000000 in
theorem pdqW_step (z : Nat) (v : Value) (n base : Nat) (hn : n ≤ 4000000000000000000) (ih : PdqIH z v n base) (d : Ar) (a b lim : Nat) (w : World) (hd : d.size = n) (hab : a ≤ b) (hbn : b ≤ n) (hlim : lim ≤ 100) (hz : b - a = z) (hB : Go.Sort.Below ltT a b d) (O : Own w base 46 1 v n (d.toList.map u16v)) : Ret Try.prog 147 #[v, (.int .i64 ((a : Nat) : Int)), (.int .i64 ((b : Nat) : Int)), (.int .i64 ((lim : Nat) : Int))] w (fun v' w' => w.grownBy w' v.ownBlock ∧ v' = .tuple #[] ∧ ∃ d', PI a b d d' ∧ SortedIn ltT a b d' ∧ Own w' base 46 1 v n (d'.toList.map u16v)) := by
 have hb := grown_refl w v.ownBlock
 refine enter (N := 134) Try.func147 rfl rfl (by simp) fun c hN hd hA => ?_
 have e : c.tmps.getD 0 undef = v := hA 0 (by simp)
 have f : c.tmps.getD 1 undef = (.int .i64 ((a : Nat) : Int)) := hA 1 (by simp)
 have g : c.tmps.getD 2 undef = (.int .i64 ((b : Nat) : Int)) := hA 2 (by simp)
 have h : c.tmps.getD 3 undef = (.int .i64 ((lim : Nat) : Int)) := hA 3 (by simp)
 clear hA
 refine zF fun _ c => zH (zD rfl (zB (c _ _ (zF fun _ c => zH (zD rfl (zB (c _ _ (wp_block (loop_m (fun mz_ az_ w' => ∃ (x y lm : Nat) (wb wp : Bool) (dk : Ar), mz_ = (y - x) ∧ (Sl az_ 0 v) ∧ (Sl az_ 1 (.int .i64 ((x : Nat) : Int))) ∧ (Sl az_ 2 (.int .i64 ((y : Nat) : Int))) ∧ (Sl az_ 3 (.int .i64 ((lm : Nat) : Int))) ∧ (Sl az_ 8 (.bool wb)) ∧ (Sl az_ 9 (.bool wp)) ∧ (dk.size = n) ∧ (lm ≤ lim) ∧ (Inv a b x y d dk) ∧ (w.grownBy w' v.ownBlock) ∧ (w.heap.size ≤ w'.heap.size) ∧ (Own w' base 46 1 v n (dk.toList.map u16v))) _ hN hd ⟨a, b, lim, true, true, _, rfl, (zL hN rfl e), (zL hN rfl f).trans (congrArg (Value.int .i64) zx), (zL hN rfl g).trans (congrArg (Value.int .i64) zx), (zL hN rfl h).trans (congrArg (Value.int .i64) zx), (zU hN rfl), (zU hN rfl), (by first | assumption | (simp only [Array.size_setIfInBounds, swp_sz, siftDown_size]; assumption)), Nat.le_refl _, (Inv.start hB hab zx), hb, (Nat.le_refl _), O⟩ ?_)))))))))
 rintro _ t q e l ⟨x, y, lm, wb, wp, dk, rfl, h, f, g, m, o, p, hdk, hlm, hinv, hb, s, k⟩
 have := hb.size
 refine wp_block (zF fun _ c => zH ?_)
 have hrg := hinv.rng
 have hzk := hinv.sz
 refine zG (zC e rfl g) (zG (zC e rfl f) (op_sub (r := (((y - x) : Nat) : Int)) (zA e rfl) (zA e rfl) (by rw [IntKind.wrap_i64]; omega) (zD (zA e rfl) (zB (c _ _ (zF fun _ c => zF fun _ s => zH (zG (zA e rfl) (op_leq (zA e rfl) rfl (fun t => ?_) (fun t => ?_)))))))))
 ·
  refine zB ?_
  refine s _ _ (wp_cond_true (zA e rfl) (zF fun _ s => zH (zG (zC e rfl h) (zG (zC e rfl f) (zG (zC e rfl g) (zj ok153 (insSort_ret dk _ _ _ x y _ (by first | assumption | (simp only [Array.size_setIfInBounds, swp_sz, siftDown_size]; assumption)) zx k zx zx) ⟨(zA e rfl), ⟨(zA e rfl), ⟨(zA e rfl), trivial⟩⟩⟩ ?_))))))
  rintro _ A ⟨t, rfl, u⟩
  have := t.size
  have hb := grow_stepX hb t rfl
  refine zB (s _ _ (wp_ret (zO (zb (zO (zb ( (ret0 rfl l  ⟨_, rfl, ?_⟩))))))))
  exact ⟨hb, rfl, _, hinv.ins.1, hinv.ins.2, u⟩
 refine zB (s _ _ (wp_cond_false (zA e rfl) (wp_skip (c _ _ (zF fun _ c => zF fun _ s => zH (zG (zC e rfl m) (op_eql (zA e rfl) rfl (fun t => ?_) (fun t => ?_))))))))
 ·
  refine zB ?_
  refine s _ _ (wp_cond_true (zA e rfl) (zF fun _ s => zH (zG (zC e rfl h) (zG (zC e rfl f) (zG (zC e rfl g) (ze (vs := [v, (.int .i64 ((x : Nat) : Int)), (.int .i64 ((y : Nat) : Int))]) ok154 ⟨(zA e rfl), ⟨(zA e rfl), ⟨(zA e rfl), trivial⟩⟩⟩ (heapW_ret dk _ _ _ x y _ (by first | assumption | (simp only [Array.size_setIfInBounds, swp_sz, siftDown_size]; assumption)) zx k zx zx) ?_))))))
  rintro _ A ⟨t, rfl, u⟩
  have := t.size
  have hb := grow_stepX hb t rfl
  refine zB (s _ _ (wp_ret (zO (zb (zO (zb ( (ret0 rfl l  ⟨_, rfl, ?_⟩))))))))
  exact ⟨hb, rfl, _, hinv.heap.1, hinv.heap.2, u⟩
 refine zB (s _ _ (wp_cond_false (zA e rfl) (wp_skip (c _ _ (seq_join1 (N := 134) (fun az_ w' => ∃ (u : Ar) (t : Nat), (Sl az_ 0 v) ∧ (Sl az_ 1 (.int .i64 ((x : Nat) : Int))) ∧ (Sl az_ 2 (.int .i64 ((y : Nat) : Int))) ∧ (Sl az_ 8 (.bool wb)) ∧ (Sl az_ 9 (.bool wp)) ∧ (Sl az_ 10 (.int .i64 (((y - x) : Nat) : Int))) ∧ (Sl az_ 3 (.int .i64 ((t : Nat) : Int))) ∧ (t ≤ lm) ∧ (Inv a b x y d u) ∧ (u.size = n) ∧ (w.grownBy w' v.ownBlock) ∧ (q.heap.size ≤ w'.heap.size) ∧ (Own w' base 46 1 v n (u.toList.map u16v))) (fun A => ?_) ?_)))))
 ·
  refine zF fun _ c => zF fun _ s => zH (zG (zC e rfl o) (op_not (zA e rfl) (zB (s _ _ (wp_cond_split (zA e rfl) (fun q => ?_) (fun q => ?_))))))
  ·
   refine zF fun _ s => zH (zG (zC e rfl h) (zG (zC e rfl f) (zG (zC e rfl g) (zj ok155 (bpW_ret dk _ _ _ x y _ (by first | assumption | (simp only [Array.size_setIfInBounds, swp_sz, siftDown_size]; assumption)) zx k zx zx) ⟨(zA e rfl), ⟨(zA e rfl), ⟨(zA e rfl), trivial⟩⟩⟩ ?_))))
   rintro _ E ⟨B, rfl, D, q, C⟩
   have := B.size
   have hb := grow_stepX hb B rfl
   have B : D.size = n := by first | exact (PI.sz q).trans (by assumption) | (have hq := PI.sz q; simp only [Array.size_setIfInBounds, swp_sz] at hq; omega)
   refine zB (s _ _ (zH (zG (zC e rfl m) (op_sub (r := (((lm - 1) : Nat) : Int)) (zA e rfl) rfl (by rw [IntKind.wrap_i64]; omega) (zD (zA e rfl) (zB (c _ _ ?_)))))))
   exact A _ _ _ e l ⟨_, (lm - 1), (zL e rfl h), (zL e rfl f), (zL e rfl g), (zL e rfl o), (zL e rfl p), (zU e rfl), (zU e rfl).trans (congrArg (Value.int .i64) zx), zx, (hinv.perm q), (by first | assumption | (simp only [Array.size_setIfInBounds, swp_sz, siftDown_size]; assumption)), hb, zx, C⟩
  refine wp_skip (c _ _ ?_)
  exact A _ _ _ e l ⟨_, lm, (zL e rfl h), (zL e rfl f), (zL e rfl g), (zL e rfl o), (zL e rfl p), (zU e rfl), (zL e rfl m).trans (congrArg (Value.int .i64) zx), zx, hinv, (by first | assumption | (simp only [Array.size_setIfInBounds, swp_sz, siftDown_size]; assumption)), hb, zx, k⟩
 rintro E B e o ⟨u, t, l, h, k, p, A, q, m, C, f, D, hb, F, g⟩
 have := hb.size
 refine zF fun _ c => zH (zG (zC e rfl l) (zG (zC e rfl h) (zG (zC e rfl k) (zj ok156 (choosePW_ret u v _ x y _ (by first | assumption | (simp only [Array.size_setIfInBounds, swp_sz, siftDown_size]; assumption)) zx (g.rdw.mono (Nat.zero_le _) (Nat.le_refl _)) zx zx) ⟨(zA e rfl), ⟨(zA e rfl), ⟨(zA e rfl), trivial⟩⟩⟩ ?_))))
 rintro _ D ⟨B, C, E, rfl, F, G⟩
 have B := zQ B
 have := B.size
 have g := g.keep0 B
 have hb := grow_step0 hb B
 refine zG (zA e rfl) (zW (zA e rfl) rfl (zW (zA e rfl) rfl (zD (zA e rfl) (zD (zA e rfl) (zB (c _ _ (seq_join1 (N := 134) (fun az_ w' => ∃ (E : Ar) (B : Nat) (F : Int), (Sl az_ 0 v) ∧ (Sl az_ 1 (.int .i64 ((x : Nat) : Int))) ∧ (Sl az_ 2 (.int .i64 ((y : Nat) : Int))) ∧ (Sl az_ 3 (.int .i64 ((t : Nat) : Int))) ∧ (Sl az_ 8 (.bool wb)) ∧ (Sl az_ 9 (.bool wp)) ∧ (Sl az_ 10 (.int .i64 (((y - x) : Nat) : Int))) ∧ (Sl az_ 11 (.int .i64 ((B : Nat) : Int))) ∧ (Sl az_ 12 (.int .i64 F)) ∧ (x ≤ B ∧ B < y) ∧ (Inv a b x y d E) ∧ (E.size = n) ∧ (w.grownBy w' v.ownBlock) ∧ (D.heap.size ≤ w'.heap.size) ∧ (Own w' base 46 1 v n (E.toList.map u16v))) (fun G => ?_) ?_)))))))
 ·
  refine zF fun _ c => zF fun _ s => zH (zG (zA e rfl) (op_eql (zA e rfl) rfl (fun D => ?_) (fun D => ?_)))
  ·
   refine zB ?_
   refine s _ _ (wp_cond_true (zA e rfl) (zF fun _ s => zH (zG (zC e rfl l) (zG (zC e rfl h) (zG (zC e rfl k) (zj ok157 (revW_ret u _ _ _ x y _ (by first | assumption | (simp only [Array.size_setIfInBounds, swp_sz, siftDown_size]; assumption)) zx g zx zx) ⟨(zA e rfl), ⟨(zA e rfl), ⟨(zA e rfl), trivial⟩⟩⟩ ?_))))))
   rintro _ H ⟨u, rfl, D⟩
   have := u.size
   have hb := grow_stepX hb u rfl
   refine zB (s _ _ (zF fun _ s => zH (zG (zC e rfl k) (op_sub (r := (((y - 1) : Nat) : Int)) (zA e rfl) rfl (by rw [IntKind.wrap_i64]; omega) ?_))))
   refine zG (zA e rfl) (zG (zC e rfl h) (op_sub (r := (((C - x) : Nat) : Int)) (zA e rfl) (zA e rfl) (by rw [IntKind.wrap_i64]; omega) (op_sub (r := (((y - 1 - (C - x)) : Nat) : Int)) (zA e rfl) (zA e rfl) (by rw [IntKind.wrap_i64]; omega) (zD (zA e rfl) (zB (s _ _ (zH (zD rfl (zB (c _ _ ?_))))))))))
   exact G _ _ _ e o ⟨_, (y - 1 - (C - x)), _, (zL e rfl l), (zL e rfl h), (zL e rfl k), (zL e rfl m), (zL e rfl p), (zL e rfl A), (zL e rfl q), (zU e rfl).trans (congrArg (Value.int .i64) zx), (zU e rfl), zx, f.rev, (by rw [Inv.sz (by first | exact f.rev | exact f)]; assumption), hb, zx, D⟩
  refine zB (s _ _ (wp_cond_false (zA e rfl) (wp_skip (c _ _ ?_))))
  exact G _ _ _ e o ⟨_, C, _, (zL e rfl l), (zL e rfl h), (zL e rfl k), (zL e rfl m), (zL e rfl p), (zL e rfl A), (zL e rfl q), (zU e rfl).trans (congrArg (Value.int .i64) zx), (zU e rfl), zx, f, (by rw [Inv.sz (by first | exact f.rev | exact f)]; assumption), hb, zx, g⟩
 rintro J D e m ⟨E, B, F, g, h, l, p, o, k, u, C, G, q, f, I, hb, H, A⟩
 have := hb.size
 refine seq_join1 (N := 134) (fun az_ w' => ∃ (F : Ar), (Sl az_ 0 v) ∧ (Sl az_ 1 (.int .i64 ((x : Nat) : Int))) ∧ (Sl az_ 2 (.int .i64 ((y : Nat) : Int))) ∧ (Sl az_ 3 (.int .i64 ((t : Nat) : Int))) ∧ (Sl az_ 8 (.bool wb)) ∧ (Sl az_ 9 (.bool wp)) ∧ (Sl az_ 10 (.int .i64 (((y - x) : Nat) : Int))) ∧ (Sl az_ 11 (.int .i64 ((B : Nat) : Int))) ∧ (Inv a b x y d F) ∧ (F.size = n) ∧ (w.grownBy w' v.ownBlock) ∧ (D.heap.size ≤ w'.heap.size) ∧ (Own w' base 46 1 v n (F.toList.map u16v))) (fun H => ?_) ?_
 ·
  refine zF fun _ c => zF fun _ s => zH (zG (zC e rfl o) (zG (zA e rfl) ?_))
  rcases Bool.eq_false_or_eq_true (wb) with D | D
  ·
   rw [D]
   refine zS (j := 1) (dj := 62) (b := true) rfl rfl rfl (zA e rfl) (zG (zC e rfl k) (zc (zA e rfl) (zA e rfl) (zG (zA e rfl) ?_)))
   rcases Bool.eq_false_or_eq_true (wp) with I | I
   ·
    rw [I]
    refine zS (j := 4) (dj := 65) (b := true) rfl rfl rfl (zA e rfl) (zG (zC e rfl G) (zS (j := 4) (dj := 65) (b := true) rfl rfl rfl (zA e rfl) (op_eql (zA e rfl) rfl (fun J => ?_) (fun J => ?_))))
    ·
     refine zc (zA e rfl) (zA e rfl) (zB ?_)
     refine s _ _ (wp_cond_true (zA e rfl) (zF fun _ s => zH (zG (zC e rfl g) (zG (zC e rfl h) (zG (zC e rfl l) (zj ok158 (partialW_ret E _ _ _ x y _ (by first | assumption | (simp only [Array.size_setIfInBounds, swp_sz, siftDown_size]; assumption)) zx A zx zx) ⟨(zA e rfl), ⟨(zA e rfl), ⟨(zA e rfl), trivial⟩⟩⟩ ?_))))))
     rintro _ K ⟨G, rfl, J⟩
     have := G.size
     have hb := grow_stepX hb G rfl
     rcases Bool.eq_false_or_eq_true ((partialInsertionSort ltT E x y).2) with G | G
     ·
      rw [G]
      refine zB (s _ _ (wp_cond_true (zA e rfl) (wp_ret (zO (zb (zO (zb ( (ret0 rfl m  ⟨_, rfl, ?_⟩)))))))))
      exact ⟨hb, rfl, _, ((f.pins zx).2 (by first | assumption | simpa using G)).1, ((f.pins zx).2 (by first | assumption | simpa using G)).2, J⟩
     rw [G]
     refine zB (s _ _ (wp_cond_false (zA e rfl) (wp_skip (c _ _ ?_))))
     exact H _ _ _ e m ⟨_, (zL e rfl g), (zL e rfl h), (zL e rfl l), (zL e rfl p), (zL e rfl o), (zL e rfl k), (zL e rfl u), (zL e rfl C), (f.pins zx).1, (by rw [Inv.sz (by first | exact (f.pins zx).1 | exact f)]; assumption), hb, zx, J⟩
    refine zc (zA e rfl) (zA e rfl) (zB (s _ _ (wp_cond_false (zA e rfl) (wp_skip (c _ _ ?_)))))
    exact H _ _ _ e m ⟨_, (zL e rfl g), (zL e rfl h), (zL e rfl l), (zL e rfl p), (zL e rfl o), (zL e rfl k), (zL e rfl u), (zL e rfl C), f, (by rw [Inv.sz (by first | exact (f.pins zx).1 | exact f)]; assumption), hb, zx, A⟩
   rw [I]
   refine zR (j := 4) (dj := 65) (b := true) rfl rfl rfl (zA e rfl) rfl rfl (zR (j := 4) (dj := 65) (b := true) rfl rfl rfl (zA e rfl) rfl rfl (zd (zA e rfl) rfl (zB (s _ _ (wp_cond_false (zA e rfl) (wp_skip (c _ _ ?_)))))))
   exact H _ _ _ e m ⟨_, (zL e rfl g), (zL e rfl h), (zL e rfl l), (zL e rfl p), (zL e rfl o), (zL e rfl k), (zL e rfl u), (zL e rfl C), f, (by rw [Inv.sz (by first | exact (f.pins zx).1 | exact f)]; assumption), hb, zx, A⟩
  rw [D]
  refine zR (j := 1) (dj := 62) (b := true) rfl rfl rfl (zA e rfl) rfl rfl (zd (zA e rfl) rfl (zG (zA e rfl) (zR (j := 4) (dj := 65) (b := true) rfl rfl rfl (zA e rfl) rfl rfl (zR (j := 4) (dj := 65) (b := true) rfl rfl rfl (zA e rfl) rfl rfl (zd (zA e rfl) rfl (zB (s _ _ (wp_cond_false (zA e rfl) (wp_skip (c _ _ ?_))))))))))
  exact H _ _ _ e m ⟨_, (zL e rfl g), (zL e rfl h), (zL e rfl l), (zL e rfl p), (zL e rfl o), (zL e rfl k), (zL e rfl u), (zL e rfl C), f, (by rw [Inv.sz (by first | exact (f.pins zx).1 | exact f)]; assumption), hb, zx, A⟩
 rintro G E e o ⟨F, g, h, l, A, p, u, D, m, C, k, hb, H, f⟩
 have := hb.size
 refine seq_join1 (N := 134) (fun az_ w' => (Sl az_ 0 v) ∧ (Sl az_ 2 (.int .i64 ((y : Nat) : Int))) ∧ (Sl az_ 3 (.int .i64 ((t : Nat) : Int))) ∧ (Sl az_ 8 (.bool wb)) ∧ (Sl az_ 9 (.bool wp)) ∧ (Sl az_ 10 (.int .i64 (((y - x) : Nat) : Int))) ∧ (Sl az_ 11 (.int .i64 ((B : Nat) : Int))) ∧ (Sl az_ 1 (.int .i64 ((x : Nat) : Int))) ∧ (w.grownBy w' v.ownBlock) ∧ (E.heap.size ≤ w'.heap.size) ∧ (Own w' base 46 1 v n (F.toList.map u16v))) (fun G => ?_) ?_
 ·
  refine zF fun _ c => zF fun _ s => reg_still mixed zy ?_
  intro H E
  have := E.size
  have f := f.keep0 E
  have hb := grow_step0 hb E
  refine st_step rfl (fun _ E => zG (zC e rfl h) E) ?_
  by_cases H : 0 < ((x : Nat) : Int)
  ·
   refine st_step rfl (fun _ E => op_cmp (b := true) (zA e rfl) rfl (b_gtr (decide_eq_true H)) E) (st_step rfl (fun _ E => zG (zA e rfl) E) (st_g_true (j := 2) (dj := 75) (b := true) rfl rfl rfl (zA e rfl) (st_step rfl (fun _ E => zG (zC e rfl g) E) (st_g_true (j := 2) (dj := 75) (b := true) rfl rfl rfl (zA e rfl) (st_step rfl (fun _ E => zG (zC e rfl h) E) (st_g_true (j := 2) (dj := 75) (b := true) rfl rfl rfl (zA e rfl) (st_step rfl (fun _ E => op_sub (r := (((x - 1) : Nat) : Int)) (zA e rfl) rfl (by rw [IntKind.wrap_i64]; omega) E) (st_g_true (j := 2) (dj := 75) (b := true) rfl rfl rfl (zA e rfl) (st_index_rd slt45 (zA e rfl) f.rdw (zA e rfl) zx zx ?_)))))))))
   intro K J L M I
   refine st_g_true (j := 2) (dj := 75) (b := true) rfl rfl rfl (zA e rfl) (st_step rfl (fun _ E => zN (v := (Value.int .u16 (F[(x - 1)]!.toNat : Int))) one46 (zA e rfl) (by have := I 0 (.int .u16 (F[(x - 1)]!.toNat : Int)) zz (el_arr (i := (x - 1)) zx (by first | omega | (simp only [Array.size_setIfInBounds, swp_sz, siftDown_size]; omega))); simpa using this) E) (st_g_true (j := 2) (dj := 75) (b := true) rfl rfl rfl (zA e rfl) (st_step rfl (fun _ E => zG (zC e rfl g) E) (st_g_true (j := 2) (dj := 75) (b := true) rfl rfl rfl (zA e rfl) (st_step rfl (fun _ E => zG (zC e rfl m) E) (st_g_true (j := 2) (dj := 75) (b := true) rfl rfl rfl (zA e rfl) (st_index_rd slt45 (zA e rfl) f.rdw (zA e rfl) zx zx ?_)))))))
   intro J M L K I
   refine st_g_true (j := 2) (dj := 75) (b := true) rfl rfl rfl (zA e rfl) (st_step rfl (fun _ E => zN (v := (Value.int .u16 (F[B]!.toNat : Int))) one46 (zA e rfl) (by have := I 0 (.int .u16 (F[B]!.toNat : Int)) zz (el_arr (i := B) zx (by first | omega | (simp only [Array.size_setIfInBounds, swp_sz, siftDown_size]; omega))); simpa using this) E) (st_g_true (j := 2) (dj := 75) (b := true) rfl rfl rfl (zA e rfl) (st_fn (vs := [(.int .u16 (F[(x - 1)]!.toNat : Int)), (.int .u16 (F[B]!.toNat : Int))]) ok159 (⟨(zA e rfl), ⟨(zA e rfl), trivial⟩⟩) (Less16_ret F[(x - 1)]! F[B]! _) (st_g_true (j := 2) (dj := 75) (b := true) rfl rfl rfl (zA e rfl) (st_step rfl (fun _ E => op_not (zA e rfl) E) (st_step rfl (fun _ E => zc (zA e rfl) (zA e rfl) E) (st_nil (s _ _ (wp_cond_split (zA e rfl) (fun J => ?_) (fun J => ?_))))))))))
   ·
    refine zF fun _ s => zH ?_
    have I := C.equal q.1 q.2 zx (not_t J)
    refine zG (zC e rfl g) (zG (zC e rfl h) (zG (zC e rfl l) (zG (zC e rfl m) (zj ok160 (partEqW_ret F _ _ _ x y B _ (by first | assumption | (simp only [Array.size_setIfInBounds, swp_sz, siftDown_size]; assumption)) zx f zx zx zx) ⟨(zA e rfl), ⟨(zA e rfl), ⟨(zA e rfl), ⟨(zA e rfl), trivial⟩⟩⟩⟩ ?_))))
    rintro _ L ⟨J, rfl, K⟩
    have := J.size
    have hb := grow_stepX hb J rfl
    refine zD (zA e rfl) (zB (s _ _ (zF fun _ s => zH (zG (zA e rfl) (zD (zA e rfl) (zB (s _ _ (wp_exit (then_exit (blk_hit ?_))))))))))
    -- round 23F 29F 74T 87T
    have J := I.2
    have I : (partitionEqual ltT F x y B).2.size = n := by rw [Inv.sz J]; assumption
    exact zg _ e o ⟨(partitionEqual ltT F x y B).1, y, t, wb, wp, _, rfl, (zL e rfl g), (zU e rfl).trans (congrArg (Value.int .i64) zx), (zL e rfl l).trans (congrArg (Value.int .i64) zx), (zL e rfl A).trans (congrArg (Value.int .i64) zx), (zL e rfl p), (zL e rfl u), (by first | assumption | (simp only [Array.size_setIfInBounds, swp_sz, siftDown_size]; assumption)), zx, J, hb, zx, K⟩ zx
   refine wp_skip (c _ _ ?_)
   exact G _ _ _ e o ⟨(zL e rfl g), (zL e rfl l), (zL e rfl A), (zL e rfl p), (zL e rfl u), (zL e rfl D), (zL e rfl m), (zL e rfl h), hb, zx, f⟩
  refine st_step rfl (fun _ E => op_cmp (b := false) (zA e rfl) rfl (b_gtr (decide_eq_false H)) E) (st_step rfl (fun _ E => zG (zA e rfl) E) (st_g_false (j := 2) (dj := 75) (b := true) rfl rfl rfl (zA e rfl) rfl rfl (st_g_false (j := 2) (dj := 75) (b := true) rfl rfl rfl (zA e rfl) rfl rfl (st_g_false (j := 2) (dj := 75) (b := true) rfl rfl rfl (zA e rfl) rfl rfl (st_g_false (j := 2) (dj := 75) (b := true) rfl rfl rfl (zA e rfl) rfl rfl ?_)))))
  refine st_g_false (j := 2) (dj := 75) (b := true) rfl rfl rfl (zA e rfl) rfl rfl (st_g_false (j := 2) (dj := 75) (b := true) rfl rfl rfl (zA e rfl) rfl rfl (st_g_false (j := 2) (dj := 75) (b := true) rfl rfl rfl (zA e rfl) rfl rfl (st_g_false (j := 2) (dj := 75) (b := true) rfl rfl rfl (zA e rfl) rfl rfl (st_g_false (j := 2) (dj := 75) (b := true) rfl rfl rfl (zA e rfl) rfl rfl (st_g_false (j := 2) (dj := 75) (b := true) rfl rfl rfl (zA e rfl) rfl rfl (st_g_false (j := 2) (dj := 75) (b := true) rfl rfl rfl (zA e rfl) rfl rfl (st_step rfl (fun _ E => zd (zA e rfl) rfl E) (st_nil (s _ _ (wp_cond_false (zA e rfl) (wp_skip (c _ _ ?_))))))))))))
  exact G _ _ _ e o ⟨(zL e rfl g), (zL e rfl l), (zL e rfl A), (zL e rfl p), (zL e rfl u), (zL e rfl D), (zL e rfl m), (zL e rfl h), hb, zx, f⟩
 rintro A u e o ⟨g, m, h, G, E, s, p, l, hb, D, f⟩
 have := hb.size
 refine zF fun _ c => zH ?_
 have hpt := C.part q.1 q.2
 refine zG (zC e rfl g) (zG (zC e rfl l) (zG (zC e rfl m) (zG (zC e rfl p) (zj ok161 (partW_ret F _ _ _ x y B _ (by first | assumption | (simp only [Array.size_setIfInBounds, swp_sz, siftDown_size]; assumption)) zx f zx zx zx) ⟨(zA e rfl), ⟨(zA e rfl), ⟨(zA e rfl), ⟨(zA e rfl), trivial⟩⟩⟩⟩ ?_))))
 rintro _ q ⟨p, rfl, f⟩
 have := p.size
 have hb := grow_stepX hb p rfl
 refine zG (zA e rfl) (zW (zA e rfl) rfl (zW (zA e rfl) rfl ?_))
 refine zD (zA e rfl) (zD (zA e rfl) (zB (c _ _ (zF fun _ c => zH (zG (zA e rfl) (zD (zA e rfl) (zB (c _ _ (zF fun _ c => zH ?_)))))))))
 refine zG (zA e rfl) (zG (zC e rfl l) (op_sub (r := ((((partition ltT F x y B).1 - x) : Nat) : Int)) (zA e rfl) (zA e rfl) (by rw [IntKind.wrap_i64]; omega) (zG (zC e rfl m) (zG (zA e rfl) (op_sub (r := (((y - (partition ltT F x y B).1) : Nat) : Int)) (zA e rfl) (zA e rfl) (by rw [IntKind.wrap_i64]; omega) (zD (zA e rfl) (zD (zA e rfl) (zB (c _ _ (zF fun _ c => ?_))))))))))
 refine zH (zG (zC e rfl s) (op_quo (r := ((((y - x) / 8) : Nat) : Int)) (zA e rfl) rfl zz (by rw [IntKind.wrap_i64, Int.tdiv_eq_ediv_of_nonneg zx]; omega) (zD (zA e rfl) (zB (c _ _ (zF fun _ c => zH (zG (zA e rfl) (zG (zA e rfl) (op_lss (zA e rfl) (zA e rfl) (fun p => ?_) (fun p => ?_))))))))))
 ·
  refine zB (c _ _ (wp_cond_true (zA e rfl) (zF fun _ c => zH (zG (zA e rfl) (zG (zA e rfl) (op_geq (zA e rfl) (zA e rfl) (fun p => ?_) (fun p => ?_)))))))
  ·
   refine zD (zA e rfl) (zB (c _ _ (zF fun _ c => zH ?_)))
   have hbl := hpt.2.2.2.1
   have hmz : (partition ltT F x y B).1 - x < z := by omega
   refine zG (zC e rfl g) (zG (zC e rfl l) (zG (zA e rfl) (zG (zC e rfl h) (zj ok147 (ih (partition ltT F x y B).2.2 x ((partition ltT F x y B).1) t _ (hpt.2.2.1.trans k) zx zx zx zx hbl f) ⟨(zA e rfl), ⟨(zA e rfl), ⟨(zA e rfl), ⟨(zA e rfl), trivial⟩⟩⟩⟩ ?_))))
   rintro _ C ⟨p, rfl, q, u, A, s⟩
   have := p.size
   have hb := grow_stepX hb p rfl
   refine zB (c _ _ (zH (zG (zA e rfl) (op_add (r := ((((partition ltT F x y B).1 + 1) : Nat) : Int)) (zA e rfl) rfl (by rw [IntKind.wrap_i64]; omega) (zD (zA e rfl) (zB (blk_normal ?_)))))))
   -- round 23F 29F 113T 116T
   have J := hpt.2.2.2.2.2.1 _ u A
   have I : q.size = n := by rw [Inv.sz J]; assumption
   exact zg _ e o ⟨((partition ltT F x y B).1 + 1), y, t, true, (partition ltT F x y B).2.1, _, rfl, (zL e rfl g), (zU e rfl).trans (congrArg (Value.int .i64) zx), (zL e rfl m).trans (congrArg (Value.int .i64) zx), (zL e rfl h).trans (congrArg (Value.int .i64) zx), (zU e rfl), (zU e rfl), (by first | assumption | (simp only [Array.size_setIfInBounds, swp_sz, siftDown_size]; assumption)), zx, J, hb, zx, s⟩ zx
  refine zD (zA e rfl) (zB (c _ _ (zF fun _ c => zH ?_)))
  have hbl := hpt.2.2.2.1
  have hmz : (partition ltT F x y B).1 - x < z := by omega
  refine zG (zC e rfl g) (zG (zC e rfl l) (zG (zA e rfl) (zG (zC e rfl h) (zj ok147 (ih (partition ltT F x y B).2.2 x ((partition ltT F x y B).1) t _ (hpt.2.2.1.trans k) zx zx zx zx hbl f) ⟨(zA e rfl), ⟨(zA e rfl), ⟨(zA e rfl), ⟨(zA e rfl), trivial⟩⟩⟩⟩ ?_))))
  rintro _ C ⟨p, rfl, A, u, q, s⟩
  have := p.size
  have hb := grow_stepX hb p rfl
  refine zB (c _ _ (zH (zG (zA e rfl) (op_add (r := ((((partition ltT F x y B).1 + 1) : Nat) : Int)) (zA e rfl) rfl (by rw [IntKind.wrap_i64]; omega) (zD (zA e rfl) (zB (blk_normal ?_)))))))
  -- round 23F 29F 113T 116F
  have J := hpt.2.2.2.2.2.1 _ u q
  have I : A.size = n := by rw [Inv.sz J]; assumption
  exact zg _ e o ⟨((partition ltT F x y B).1 + 1), y, t, false, (partition ltT F x y B).2.1, _, rfl, (zL e rfl g), (zU e rfl).trans (congrArg (Value.int .i64) zx), (zL e rfl m).trans (congrArg (Value.int .i64) zx), (zL e rfl h).trans (congrArg (Value.int .i64) zx), (zU e rfl), (zU e rfl), (by first | assumption | (simp only [Array.size_setIfInBounds, swp_sz, siftDown_size]; assumption)), zx, J, hb, zx, s⟩ zx
 refine zB (c _ _ (wp_cond_false (zA e rfl) (zF fun _ c => zH (zG (zA e rfl) (zG (zA e rfl) (op_geq (zA e rfl) (zA e rfl) (fun p => ?_) (fun p => ?_)))))))
 ·
  refine zD (zA e rfl) (zB (c _ _ (zF fun _ c => zH ?_)))
  have hbr := hpt.2.2.2.2.1
  have hmz : y - ((partition ltT F x y B).1 + 1) < z := by omega
  refine zG (zC e rfl g) (zG (zA e rfl) (op_add (r := ((((partition ltT F x y B).1 + 1) : Nat) : Int)) (zA e rfl) rfl (by rw [IntKind.wrap_i64]; omega) (zG (zC e rfl m) (zG (zC e rfl h) (zj ok147 (ih (partition ltT F x y B).2.2 ((partition ltT F x y B).1 + 1) y t _ (hpt.2.2.1.trans k) zx zx zx zx hbr f) ⟨(zA e rfl), ⟨(zA e rfl), ⟨(zA e rfl), ⟨(zA e rfl), trivial⟩⟩⟩⟩ ?_)))))
  rintro _ C ⟨p, rfl, s, u, q, A⟩
  have := p.size
  have hb := grow_stepX hb p rfl
  refine zB (c _ _ (zH (zG (zA e rfl) (zD (zA e rfl) (zB (blk_normal ?_))))))
  -- round 23F 29F 113F 126T
  have J := hpt.2.2.2.2.2.2 _ u q
  have I : s.size = n := by rw [Inv.sz J]; assumption
  exact zg _ e o ⟨x, (partition ltT F x y B).1, t, true, (partition ltT F x y B).2.1, _, rfl, (zL e rfl g), (zL e rfl l).trans (congrArg (Value.int .i64) zx), (zU e rfl).trans (congrArg (Value.int .i64) zx), (zL e rfl h).trans (congrArg (Value.int .i64) zx), (zU e rfl), (zU e rfl), (by first | assumption | (simp only [Array.size_setIfInBounds, swp_sz, siftDown_size]; assumption)), zx, J, hb, zx, A⟩ zx
 refine zD (zA e rfl) (zB (c _ _ (zF fun _ c => zH ?_)))
 have hbr := hpt.2.2.2.2.1
 have hmz : y - ((partition ltT F x y B).1 + 1) < z := by omega
 refine zG (zC e rfl g) (zG (zA e rfl) (op_add (r := ((((partition ltT F x y B).1 + 1) : Nat) : Int)) (zA e rfl) rfl (by rw [IntKind.wrap_i64]; omega) (zG (zC e rfl m) (zG (zC e rfl h) (zj ok147 (ih (partition ltT F x y B).2.2 ((partition ltT F x y B).1 + 1) y t _ (hpt.2.2.1.trans k) zx zx zx zx hbr f) ⟨(zA e rfl), ⟨(zA e rfl), ⟨(zA e rfl), ⟨(zA e rfl), trivial⟩⟩⟩⟩ ?_)))))
 rintro _ s ⟨f, rfl, q, p, k, m⟩
 have := f.size
 have hb := grow_stepX hb f rfl
 refine zB (c _ _ (zH (zG (zA e rfl) (zD (zA e rfl) (zB (blk_normal ?_))))))
 -- round 23F 29F 113F 126F
 have J := hpt.2.2.2.2.2.2 _ p k
 have I : q.size = n := by rw [Inv.sz J]; assumption
 exact zg _ e o ⟨x, (partition ltT F x y B).1, t, false, (partition ltT F x y B).2.1, _, rfl, (zL e rfl g), (zL e rfl l).trans (congrArg (Value.int .i64) zx), (zU e rfl).trans (congrArg (Value.int .i64) zx), (zL e rfl h).trans (congrArg (Value.int .i64) zx), (zU e rfl), (zU e rfl), (by first | assumption | (simp only [Array.size_setIfInBounds, swp_sz, siftDown_size]; assumption)), zx, J, hb, zx, m⟩ zx

theorem pdqW_ret (d : Ar) (v : Value) (n base a b lim : Nat) (w : World) (hd : d.size = n) (hn : n ≤ 4000000000000000000) (hab : a ≤ b) (hbn : b ≤ n) (hlim : lim ≤ 100) (hB : Go.Sort.Below ltT a b d) (O : Own w base 46 1 v n (d.toList.map u16v)) : Ret Try.prog 147 #[v, .int .i64 (a : Int), .int .i64 (b : Int), .int .i64 (lim : Int)] w (fun v' w' => w.grownBy w' v.ownBlock ∧ v' = .tuple #[] ∧ ∃ d', PI a b d d' ∧ SortedIn ltT a b d' ∧ Own w' base 46 1 v n (d'.toList.map u16v)) := by
  have key : ∀ z, PdqIH z v n base := by
    intro z
    induction z with
    | zero => intro d a b lim w _ _ _ _ h; omega
    | succ z ih =>
      intro d a b lim w hd hab hbn hlim hz hB O
      exact pdqW_step (b - a) v n base hn (fun d a b lim w g1 g2 g3 g4 g5 => ih d a b lim w g1 g2 g3 g4 zx) d a b lim w hd hab hbn hlim rfl hB O
  exact key (b - a + 1) d a b lim w hd hab hbn hlim zx hB O
open Go.Sort (insertionSort insOuter insInner swp siftDown heapSort heapBuild heapPop scanUp scanDown partition partLoop partitionEqual partEqLoop scanSorted partialIns bitsLen partialInsertionSort shiftDown shiftUp SortedIn reverseRange reverseLoop fixDown fixUp)
theorem compW_ret (d : Ar) (v : Value) (n base : Nat) (z0 : Nat) (w : World) (hd : d.size = n) (hn : n ≤ 4000000000000000000) (O : Own w base 46 1 v n (d.toList.map u16v)) : Ret Try.prog 134 #[v] w (fun v' w' => w.grownBy w' v.ownBlock ∧ v'.ownBlock = v.ownBlock ∧ Own w' base 46 1 v' (dd d.toList).length ((dd d.toList).map u16v)) := by
 have hb := grown_refl w v.ownBlock
 refine enter (N := 61) Try.func134 rfl rfl (by simp) fun a hN hd hA => ?_
 have c : a.tmps.getD 0 undef = v := hA 0 (by simp)
 clear hA
 refine zF fun _ f => zH (zD rfl (zB (f _ _ (zF fun _ f => zF fun _ a => zH (zG (zC hN rfl c) (op_len_rd Try.underlying45 (zA hN rfl) O.rdw (op_lss (zA hN rfl) rfl (fun g => ?_) (fun g => ?_))))))))
 ·
  refine zB (a _ _ (wp_cond_true (zA hN rfl) (zF fun _ a => zH (zG (zC hN rfl c) (zD (zA hN rfl) (zB (a _ _ (wp_ret (zO ( (ret1 rfl hd (zA hN rfl) ⟨_, rfl, ?_⟩)))))))))))
  have hzl : d.toList.length = n := by simp; assumption
  exact ⟨hb, rfl, by rw [dd_short zx, hzl]; exact O⟩
 refine zB (a _ _ (wp_cond_false (zA hN rfl) (wp_skip (f _ _ (zF fun _ f => zF fun _ a => zH (zD rfl (zB (a _ _ (wp_block (loop_m (fun mz_ az_ w' => ∃ (i : Nat), mz_ = (n + 1 - i) ∧ (Sl az_ 0 v) ∧ (Sl az_ 3 (.int .i64 ((i : Nat) : Int))) ∧ (1 ≤ i ∧ i ≤ n) ∧ (dd (d.toList.take i) = d.toList.take i) ∧ (w.grownBy w' v.ownBlock) ∧ (w.heap.size ≤ w'.heap.size) ∧ (Own w' base 46 1 v n (d.toList.map u16v))) _ hN hd ⟨1, rfl, (zL hN rfl c), (zU hN rfl).trans (congrArg (Value.int .i64) zx), zx, (dd_one zx), hb, (Nat.le_refl _), O⟩ ?_))))))))))
 rintro _ p l c j ⟨i, rfl, g, h, hi, hsm, hb, o, O⟩
 have := hb.size
 refine zF fun _ a => zF fun _ l => zH (zG (zC c rfl h) (zG (zC c rfl g) (op_len_rd Try.underlying45 (zA c rfl) O.rdw (op_lss (zA c rfl) (zA c rfl) (fun o => ?_) (fun o => ?_)))))
 ·
  refine zB (l _ _ (wp_cond_true (zA c rfl) (wp_skip (a _ _ (zF fun _ a => wp_block (zF fun _ l => reg_still mixed zy ?_))))))
  intro p o
  have := o.size
  have O := O.keep0 o
  have hb := grow_step0 hb o
  refine st_step rfl (fun _ o => zG (zC c rfl g) o) (st_step rfl (fun _ o => zG (zC c rfl h) o) (st_index_rd slt45 (zA c rfl) O.rdw (zA c rfl) zx zx ?_))
  intro s t u y q
  refine st_step rfl (fun _ o => zN (v := (Value.int .u16 (d[i]!.toNat : Int))) one46 (zA c rfl) (by have := q 0 (.int .u16 (d[i]!.toNat : Int)) zz (el_arr (i := i) zx (by first | omega | (simp only [Array.size_setIfInBounds, swp_sz, siftDown_size]; omega))); simpa using this) o) (st_step rfl (fun _ o => zG (zC c rfl g) o) (st_step rfl (fun _ o => zG (zC c rfl h) o) (st_step rfl (fun _ o => op_sub (zA c rfl) rfl (sub64 zx) o) (st_index_rd slt45 (zA c rfl) O.rdw (zA c rfl) zx zx ?_))))
  intro y s t u q
  refine st_step rfl (fun _ o => zN (v := (Value.int .u16 (d[(i - 1)]!.toNat : Int))) one46 (zA c rfl) (by have := q 0 (.int .u16 (d[(i - 1)]!.toNat : Int)) zz (el_arr (i := (i - 1)) zx (by first | omega | (simp only [Array.size_setIfInBounds, swp_sz, siftDown_size]; omega))); simpa using this) o) (st_step rfl (fun _ o => op_cmp (b := (decide ((d[i]!.toNat : Int) = (d[(i - 1)]!.toNat : Int)))) (zA c rfl) (zA c rfl) (b_eql rfl) o) (st_nil (l _ _ (wp_cond_split (zA c rfl) (fun s => ?_) (fun s => ?_)))))
  ·
   have s := of_decide_eq_true s
   refine zF fun _ l => zH (zG (zC c rfl g) (zG (zC c rfl h) ?_))
   refine op_slice_tail (k := i) slt45 (zA c rfl) O.rdw zx (zA c rfl) zx (zD (zA c rfl) (zB (l _ _ (zF fun _ l => zF fun _ t => zH (zD rfl (zB (t _ _ (wp_block (loop_m (fun mz_ az_ w' => ∃ (q kk : Nat) (dk : Ar), mz_ = (n + 1 - q) ∧ (Sl az_ 0 v) ∧ (Sl az_ 4 (tailV v i)) ∧ (Sl az_ 5 (.int .i64 ((q : Nat) : Int))) ∧ (Sl az_ 3 (.int .i64 ((kk : Nat) : Int))) ∧ (dk.size = n) ∧ (1 ≤ q ∧ i + q ≤ n ∧ 1 ≤ kk ∧ kk < i + q) ∧ (dk.toList.take kk = dd (d.toList.take (i + q))) ∧ (∀ u, kk ≤ u → dk[u]! = d[u]!) ∧ (w.grownBy w' v.ownBlock) ∧ (p.heap.size ≤ w'.heap.size) ∧ (Own w' base 46 1 v n (dk.toList.map u16v))) _ c j ⟨1, i, _, rfl, (zL c rfl g), (zU c rfl), (zU c rfl).trans (congrArg (Value.int .i64) zx), (zL c rfl h).trans (congrArg (Value.int .i64) zx), (by first | assumption | (simp only [Array.size_setIfInBounds, swp_sz, siftDown_size]; assumption)), zx, (by rw [dd_step zx zx, if_pos (u16_eq s).symm, hsm]), (fun _ _ => rfl), hb, (Nat.le_refl _), O⟩ ?_)))))))))
   rintro _ D G p C ⟨q, kk, dk, rfl, A, y, z, B, hdk, E, hdd, hsame, hb, F, u⟩
   have := hb.size
   refine zF fun _ t => zF fun _ D => zH (zG (zC p rfl z) (zG (zC p rfl y) (op_len_rd Try.underlying45 (zA p rfl) (RdC.tail u.rdw zx zx) (op_lss (zA p rfl) (zA p rfl) (fun E => ?_) (fun E => ?_)))))
   ·
    refine zB (D _ _ (wp_cond_true (zA p rfl) (wp_skip (t _ _ (zF fun _ t => wp_block (zF fun _ D => reg_still mixed zy ?_))))))
    intro F E
    have := E.size
    have u := u.keep0 E
    have hb := grow_step0 hb E
    refine st_step rfl (fun _ o => zG (zC p rfl y) o) (st_step rfl (fun _ o => zG (zC p rfl z) o) (st_index_rd slt45 (zA p rfl) (RdC.tail u.rdw zx zx) (zA p rfl) zx zx ?_))
    intro F H I G E
    refine st_step rfl (fun _ o => zN (v := (Value.int .u16 (dk[i + q]!.toNat : Int))) one46 (zA p rfl) (by have := E 0 (.int .u16 (dk[i + q]!.toNat : Int)) zz (el_arr_tail (i := q) zx zx); simpa using this) o) (st_step rfl (fun _ o => zG (zC p rfl y) o) (st_step rfl (fun _ o => zG (zC p rfl z) o) (st_step rfl (fun _ o => op_sub (zA p rfl) rfl (sub64 zx) o) (st_index_rd slt45 (zA p rfl) (RdC.tail u.rdw zx zx) (zA p rfl) zx zx ?_))))
    intro F H G I E
    refine st_step rfl (fun _ o => zN (v := (Value.int .u16 (dk[i + (q - 1)]!.toNat : Int))) one46 (zA p rfl) (by have := E 0 (.int .u16 (dk[i + (q - 1)]!.toNat : Int)) zz (el_arr_tail (i := (q - 1)) zx zx); simpa using this) o) (st_step rfl (fun _ o => op_cmp (b := (decide ((dk[i + q]!.toNat : Int) ≠ (dk[i + (q - 1)]!.toNat : Int)))) (zA p rfl) (zA p rfl) (b_neq rfl) o) (st_nil (D _ _ (wp_cond_split (zA p rfl) (fun F => ?_) (fun F => ?_)))))
    ·
     have F := of_decide_eq_true F
     refine zF fun _ D => zH (zG (zC p rfl A) (zG (zC p rfl B) (zG (zC p rfl y) (zG (zC p rfl z) (zh slt45 (zA p rfl) (RdC.tail u.rdw zx zx) (zA p rfl) zx zx ?_)))))
     intro E H G I o
     refine zN (v := (Value.int .u16 (dk[i + q]!.toNat : Int))) one46 (zA p rfl) (by have := o 0 (.int .u16 (dk[i + q]!.toNat : Int)) zz (el_arr_tail (i := q) zx zx); simpa using this) (op_index_own (i := kk) slt45 (zA p rfl) u (zA p rfl) zx zx ?_)
     intro G E H o
     have o : AtV v (kk) G E := by simpa using o
     have E := u
     refine op_store_own (vs := [(.int .u16 (dk[i + q]!.toNat : Int))]) size46 (zA p rfl) (zA p rfl) rfl rfl rfl E o (by have := E.1; simp; omega) ?_
     intro G o E
     have := E.size
     have hb := grow_stepX hb E rfl
     have o : Own G base 46 1 v n (((dk.setIfInBounds kk dk[i + q]!)).toList.map u16v) := by exact o.cast rfl (set_arr (by first | omega | (simp only [Array.size_setIfInBounds, swp_sz]; omega)))
     refine zB ?_
     refine D _ _ (zH (zG (zC p rfl B) (op_add (zA p rfl) rfl (add64 zx) (zD (zA p rfl) (zB (t _ _ (zH (zG (zC p rfl z) (op_add (zA p rfl) rfl (add64 zx) (zD (zA p rfl) (zB ?_)))))))))))
     -- round 8F 13T 25T 32T 44T
     have E := dd_keep (d := d) (dk := dk) (i := i + q) (k := kk) zx zx zx zx hdd hsame (by rw [← hsame (i + q) zx, ← hsame (i + q - 1) zx]; intro e; apply F; rw [show i + (q - 1) = i + q - 1 by omega, e])
     rw [← hsame (i + q) zx] at E
     exact zg _ p C ⟨(q + 1), (kk + 1), _, rfl, (zL p rfl A), (zL p rfl y), (zU p rfl).trans (congrArg (Value.int .i64) zx), (zU p rfl).trans (congrArg (Value.int .i64) zx), (by first | assumption | (simp only [Array.size_setIfInBounds, swp_sz, siftDown_size]; assumption)), zx, E.1, E.2, hb, zx, o⟩ zx
    have F := of_decide_eq_false F
    refine wp_skip (t _ _ (zH (zG (zC p rfl z) (op_add (zA p rfl) rfl (add64 zx) (zD (zA p rfl) (zB ?_))))))
    -- round 8F 13T 25T 32T 44F
    exact zg _ p C ⟨(q + 1), kk, _, rfl, (zL p rfl A), (zL p rfl y), (zU p rfl).trans (congrArg (Value.int .i64) zx), (zL p rfl B).trans (congrArg (Value.int .i64) zx), (by first | assumption | (simp only [Array.size_setIfInBounds, swp_sz, siftDown_size]; assumption)), zx, (hdd.trans (by rw [← Nat.add_assoc, dd_step zx zx, if_pos]; rw [← hsame (i + q) zx, ← hsame (i + q - 1) zx, show i + q - 1 = i + (q - 1) by omega]; exact (u16_eq (Decidable.not_not.1 F)).symm)), hsame, hb, zx, u⟩ zx
   refine zB (D _ _ (wp_cond_false (zA p rfl) (wp_exit (then_exit (then_exit (blk_hit (l _ _ (zF fun _ l => zH (zG (zC p rfl A) (zG (zC p rfl B) (op_slice_tail (k := kk) slt45 (zA p rfl) u.rdw zx (zA p rfl) zx (op_clear_tail slt45 rfl rfl (zA p rfl) u zx ?_))))))))))))
   intro u o t
   have := t.size
   have hb := grow_stepX hb t rfl
   have o : Own u base 46 1 v n ((clr dk kk).toList.map u16v) := o.cast rfl (clr_cs (by assumption))
   refine zB (l _ _ (zF fun _ l => zH (zG (zC p rfl A) (zG (zC p rfl B) ?_))))
   have hfull : d.toList.take (i + q) = d.toList := by rw [List.take_of_length_le]; simp; omega
   have hD : dk.toList.take kk = dd d.toList := by rw [hdd, hfull]
   have hDl : (dd d.toList).length = kk := by rw [← hD]; simp; omega
   refine op_slice_own_hi (m := kk) slt45 (zA p rfl) o (zA p rfl) zx zx ?_
   intro t o q
   have o : Own u base 46 1 t kk (((dd d.toList)).map u16v) := by (simp only [Nat.mul_one] at o; rw [← List.map_take, clr_take zx, hD] at o; exact o)
   refine zD (zA p rfl) (zB (l _ _ (wp_ret (zb (zO (zO (zb (zO ( (ret1 rfl C (zA p rfl) ⟨_, rfl, ?_⟩))))))))))
   exact ⟨hb, (q.trans rfl), by rw [hDl]; exact o⟩
  have s := of_decide_eq_false s
  refine wp_skip (a _ _ (zH (zG (zC c rfl h) (op_add (zA c rfl) rfl (add64 zx) (zD (zA c rfl) (zB ?_))))))
  -- round 8F 13T 25F
  exact zg _ c j ⟨(i + 1), rfl, (zL c rfl g), (zU c rfl).trans (congrArg (Value.int .i64) zx), zx, (dd_same zx zx hsm (fun e => s (by rw [e]))), hb, zx, O⟩ zx
 refine zB (l _ _ (wp_cond_false (zA c rfl) (wp_exit (then_exit (then_exit (blk_hit (f _ _ (zF fun _ f => zH (zG (zC c rfl g) (zD (zA c rfl) (zB (f _ _ (wp_ret (ret1 rfl j (zA c rfl) ⟨_, rfl, ?_⟩))))))))))))))
 have hzl : d.toList.length = n := by simp; assumption
 exact ⟨hb, rfl, by rw [dd_full (n := n) (by assumption) (by rw [show n = i by omega]; exact hsm), hzl]; exact O⟩
open Go.Sort (insertionSort insOuter insInner swp siftDown heapSort heapBuild heapPop scanUp scanDown partition partLoop partitionEqual partEqLoop scanSorted partialIns bitsLen partialInsertionSort shiftDown shiftUp SortedIn reverseRange reverseLoop fixDown fixUp)
theorem cloneW_ret (l : Lb) (v : Value) (w : World) (hz : l.length ≤ 1000000000000) (hl : RdC w 0 w.heap.size 1 v l.length (l.map u16v)) : Ret Try.prog 132 #[v] w (fun v' w' => Below w.heap.size w w' ∧ Own w' w.heap.size 46 1 v' l.length (l.map u16v)) := by
 have hb := Below.refl w.heap.size w
 refine enter (N := 8) Try.func132 rfl rfl (by simp) fun a hN hd hA => ?_
 have b : a.tmps.getD 0 undef = v := hA 0 (by simp)
 clear hA
 refine zF fun _ a => zH (zD rfl (zB (a _ _ (zF fun _ a => zF fun _ c => zH (zG (zC hN rfl b) (op_eql_nil slt45 (zA hN rfl) rfl hl (fun d => ?_) ?_))))))
 ·
  refine zB (c _ _ (wp_cond_true (zA hN rfl) (zF fun _ c => zH (zD rfl (zB (c _ _ (wp_ret (zO ( (ret1 rfl hd (zA hN rfl) ⟨_, rfl, ?_⟩))))))))))
  exact ⟨hb, by rw [List.length_eq_zero_iff.1 d]; exact Own.nil _ _ _ _⟩
 refine zB (c _ _ (wp_cond_false (zA hN rfl) (wp_skip (a _ _ (zF fun _ a => zH (op_bslice (e := 46) (pv := []) (cs := []) trivial zy ?_))))))
 intro h g f j d c
 obtain ⟨hb, _⟩ := yE hb c
 have hl := hl.keep0 c
 refine zG (zC hN rfl b) ?_
 have b := (Own.ofBx (base := w.heap.size) (sz := 1) (n := 0) d rfl zz zx)
 refine op_append slt45 (zA hN rfl) b (zA hN rfl) (Src.ofRd Try.underlying45 zz hl (one_u16 _)) (by unfold maxLen; omega) zx hb.size ?_
 intro f g d c h
 have := c.size
 have hl := hl.keepO b c zx
 have hb := below_stepO hb b c hb.size zx
 have d : Own g w.heap.size 46 1 f (0 + l.length) ((l).map u16v) := by simpa [u8v, u16v, cellsV] using d
 refine zD (zA hN rfl) (zB (a _ _ (wp_ret (ret1 rfl hd (zA hN rfl) ⟨_, rfl, ?_⟩))))
 exact ⟨hb, d.cast (by simp) (by simp)⟩

theorem sortW_ret (d : Ar) (v : Value) (n base : Nat) (z0 : Nat) (w : World) (hd : d.size = n) (hn : n ≤ 4000000000000000000) (O : Own w base 46 1 v n (d.toList.map u16v)) : Ret Try.prog 133 #[v] w (fun v' w' => w.grownBy w' v.ownBlock ∧ v' = .tuple #[] ∧ ∃ d', PI 0 n d d' ∧ SortedIn ltT 0 n d' ∧ Own w' base 46 1 v n (d'.toList.map u16v)) := by
 have hb := grown_refl w v.ownBlock
 refine enter (N := 11) Try.func133 rfl rfl (by simp) fun a hN hd hA => ?_
 have b : a.tmps.getD 0 undef = v := hA 0 (by simp)
 clear hA
 refine zF fun _ a => ?_
 refine zH (zG (zC hN rfl b) (op_len_rd Try.underlying45 (zA hN rfl) O.rdw (zD (zA hN rfl) (zB (a _ _ (zH (zG (zC hN rfl b) (zG (zA hN rfl) (zG (zA hN rfl) (op_conv (r := ((n : Nat) : Int)) (zA hN rfl) us3 Try.underlying184 (wrap_u64 zx) ?_))))))))))
 have hbl : bitsLen n ≤ 62 := (Go.Sort.bitsLen_le_iff n 62).2 zx
 refine zj ok148 (lenW_ret n _ zx) ⟨(zA hN rfl), trivial⟩ ?_
 rintro _ b ⟨a, rfl⟩
 have a := zQ a
 have := a.size
 have O := O.keep0 a
 have hb := grow_step0 hb a
 refine zj ok147 (pdqW_ret d _ _ _ 0 n ((bitsLen n)) _ (by first | assumption | (simp only [Array.size_setIfInBounds, swp_sz, siftDown_size]; assumption)) zx zx zx zx (.inl rfl) O) ⟨(zA hN rfl), ⟨rfl, ⟨(zA hN rfl), ⟨(zA hN rfl), trivial⟩⟩⟩⟩ ?_
 rintro _ g ⟨a, rfl, f, c, e, b⟩
 have := a.size
 have hb := grow_stepX hb a rfl
 refine zB (end_ret (ret0 rfl hd  ⟨_, rfl, ?_⟩))
 exact ⟨hb, rfl, _, c, e, b⟩

theorem sortedW_ret (l : Lb) (v : Value) (w : World) (hz : l.length ≤ 1000000000000) (hl : RdC w 0 w.heap.size 1 v l.length (l.map u16v)) : Ret Try.prog 116 #[v] w (fun v' w' => Below w.heap.size w w' ∧ Own w' w.heap.size 46 1 v' (nrm l).length ((nrm l).map u16v)) := by
 have hb := Below.refl w.heap.size w
 refine enter (N := 10) Try.func116 rfl rfl (by simp) fun a hN hd hA => ?_
 have b : a.tmps.getD 0 undef = v := hA 0 (by simp)
 clear hA
 refine zF fun _ a => zH ?_
 refine zD rfl (zB (a _ _ (zF fun _ a => zH (zG (zC hN rfl b) (zj ok132 (cloneW_ret l _ _ zx (show RdC w 0 w.heap.size 1 v l.length (l.map u16v) from by have hh : RdC w 0 w.heap.size 1 _ _ _ := (hl.mono (L' := 0) (B' := w.heap.size) (Nat.zero_le _) zx); first | exact hh | exact hh.cast (by first | omega | (simp; try omega)) (by first | rfl | simp [u16v]))) ⟨(zA hN rfl), trivial⟩ ?_)))))
 rintro d e ⟨c, b⟩
 have c := zQ c
 obtain ⟨hb, _⟩ := yE hb c
 have b := b.mono (base' := w.heap.size) zx
 refine zD (zA hN rfl) (zB (a _ _ (zF fun _ a => zH (zG (zA hN rfl) (zj ok133 (sortW_ret l.toArray _ l.length _ 0 _ (by simp) zx b) ⟨(zA hN rfl), trivial⟩ ?_)))))
 rintro _ j ⟨e, rfl, f, g, h, d⟩
 have := e.size
 have hb := below_stepO hb b e hb.size zx
 have hsn : dd f.toList = nrm l := sort_nrm (by simp) g h
 have hsz : f.size = l.length := (PI.sz g).trans (by simp)
 refine zB (a _ _ (zF fun _ a => zH (zG (zA hN rfl) (zj ok134 (compW_ret f _ l.length _ 0 _ (by first | assumption | (simp only [Array.size_setIfInBounds, swp_sz, siftDown_size]; assumption)) zx d) ⟨(zA hN rfl), trivial⟩ ?_))))
 rintro k j ⟨f, h, g⟩
 have := f.size
 have hl := ((hl.keep0 c).keepO b e zx).keepO d f zx
 have hb := below_stepO hb d f hb.size zx
 refine zD (zA hN rfl) (zB (a _ _ (wp_ret (ret1 rfl hd (zA hN rfl) ⟨_, rfl, ?_⟩))))
 rw [hsn] at g
 exact ⟨hb, g⟩

theorem CloneL (l : List UInt16) (v : Value) (w : World) (hz : l.length ≤ 1000000000000) (hl : RdC w 0 w.heap.size 1 v l.length (l.map u16v)) : Ret Try.prog 77 #[v] w (fun v' w' => Below w.heap.size w w' ∧ Own w' w.heap.size 46 1 v' l.length (l.map u16v)) := by
 have hb := Below.refl w.heap.size w
 refine enter (N := 8) Try.func77 rfl rfl (by simp) fun a hN hd hA => ?_
 have b : a.tmps.getD 0 undef = v := hA 0 (by simp)
 clear hA
 refine zF fun _ a => zH (zD rfl (zB (a _ _ (zF fun _ a => zF fun _ c => zH (zG (zC hN rfl b) (op_eql_nil slt54 (zA hN rfl) rfl hl (fun d => ?_) ?_))))))
 ·
  refine zB (c _ _ (wp_cond_true (zA hN rfl) (zF fun _ c => zH (zD rfl (zB (c _ _ (wp_ret (zO ( (ret1 rfl hd (zA hN rfl) ⟨_, rfl, ?_⟩))))))))))
  exact ⟨hb, by rw [List.length_eq_zero_iff.1 d]; exact Own.nil _ _ _ _⟩
 refine zB (c _ _ (wp_cond_false (zA hN rfl) (wp_skip (a _ _ (zF fun _ a => zH (op_bslice (e := 46) (pv := []) (cs := []) trivial zy ?_))))))
 intro h g f j d c
 obtain ⟨hb, _⟩ := yE hb c
 have hl := hl.keep0 c
 refine zG (zC hN rfl b) ?_
 have b := (Own.ofBx (base := w.heap.size) (sz := 1) (n := 0) d rfl zz zx)
 refine op_append slt54 (zA hN rfl) b (zA hN rfl) (Src.ofRd Try.underlying54 zz hl (one_u16 _)) (by unfold maxLen; omega) zx hb.size ?_
 intro f g d c h
 have := c.size
 have hl := hl.keepO b c zx
 have hb := below_stepO hb b c hb.size zx
 have d : Own g w.heap.size 46 1 f (0 + l.length) ((l).map u16v) := by simpa [u8v, u16v, sv] using d
 refine zD (zA hN rfl) (zB (a _ _ (wp_ret (ret1 rfl hd (zA hN rfl) ⟨_, rfl, ?_⟩))))
 exact ⟨hb, d.cast (by simp) (by simp)⟩

theorem Sessions_ret {C : List KC} {n k m base : Nat} {lv : Value} {w : World} (hbase : base ≤ w.heap.size) (hn : n ≤ 6) (hC : C.length = n) (hx : Bx w k 134 [lv, .map (some m)]) (O : Own w base 137 3 lv n (C.flatMap cellsK)) : Ret Try.prog 49 #[(ptr k 0)] w (fun v' w' => v' = .int .i64 ((n : Nat) : Int) ∧ w' = w) := by
 refine enter (N := 10) Try.func49 rfl rfl (by simp) fun a hN hd hA => ?_
 have b : a.tmps.getD 0 undef = (ptr k 0) := hA 0 (by simp)
 clear hA
 refine zF fun _ a => zH (zD rfl (zB (a _ _ (zF fun _ a => zF fun _ c => zH (zG (zC hN rfl b) (op_peq_some ptrt50 (zA hN rfl) rfl (zB ?_)))))))
 refine c _ _ (wp_cond_false (zA hN rfl) (wp_skip (a _ _ (zF fun _ a => zH (zG (zC hN rfl b) (op_nil (zA hN rfl) (zM fld134_0 (zA hN rfl) (zN one132 (zA hN rfl) (hx.cell rfl) (op_len_rd Try.underlying132 (zA hN rfl) O.rdw (zD (zA hN rfl) (zB (a _ _ (wp_ret (ret1 rfl hd (zA hN rfl) ⟨_, rfl, ?_⟩))))))))))))))
 exact ⟨rfl, rfl⟩

theorem Label1_ret {C : List KC} {n i k m p base : Nat} {lv la ow : Value} {l o : List UInt16} {T : List (List UInt8)} {Fi : Nat → Prop} {w : World} (hbase : base ≤ w.heap.size) (hn : n ≤ 6) (hi : i < n) (hc : C.length = n ∧ C.getD i default = ⟨la, ow, p, Fi⟩) (hx : Bx w k 134 [lv, .map (some m)]) (O : Own w base 137 3 lv n (C.flatMap cellsK)) (hL : Own w base 46 1 la l.length (l.map u16v)) (hW : Own w base 46 1 ow o.length (o.map u16v)) (hQ : PostS w base p 16 T Fi) {LL BB pb po : Nat} (hP : PtC w LL BB pb po [la, ow, ptr p 0]) (hll : l.length ≤ 100) : Ret Try.prog 82 #[(ptr pb po)] w (fun v' w' => Below w.heap.size w w' ∧ Own w' w.heap.size 46 1 v' l.length (l.map u16v)) := by
 have hb := Below.refl w.heap.size w
 refine enter (N := 8) Try.func82 rfl rfl (by simp) fun a hN hd hA => ?_
 have b : a.tmps.getD 0 undef = (ptr pb po) := hA 0 (by simp)
 clear hA
 refine zF fun _ a => zH (zD rfl (zB ?_))
 refine a _ _ (zF fun _ a => zH (zG (zC hN rfl b) (op_nil (zA hN rfl) (zM fld137_0 (zA hN rfl) (zN (v := la) one54 (zA hN rfl) (hP.2.2 0 _ rfl) (zj ok77 (CloneL l _ _ zx (hL.rdw.mono (Nat.zero_le _) zx)) ⟨(zA hN rfl), trivial⟩ ?_))))))
 rintro e d ⟨b, c⟩
 have b := zQ b
 obtain ⟨hb, _⟩ := yE hb b
 have c := c.mono (base' := w.heap.size) zx
 refine zD (zA hN rfl) (zB (a _ _ (wp_ret (ret1 rfl hd (zA hN rfl) ⟨_, rfl, ?_⟩))))
 exact ⟨hb, c⟩

theorem Owns1_ret {C : List KC} {n i k m p base : Nat} {lv la ow : Value} {l o : List UInt16} {T : List (List UInt8)} {Fi : Nat → Prop} {w : World} (hbase : base ≤ w.heap.size) (hn : n ≤ 6) (hi : i < n) (hc : C.length = n ∧ C.getD i default = ⟨la, ow, p, Fi⟩) (hx : Bx w k 134 [lv, .map (some m)]) (O : Own w base 137 3 lv n (C.flatMap cellsK)) (hL : Own w base 46 1 la l.length (l.map u16v)) (hW : Own w base 46 1 ow o.length (o.map u16v)) (hQ : PostS w base p 16 T Fi) {LL BB pb po : Nat} (hP : PtC w LL BB pb po [la, ow, ptr p 0]) (hll : o.length ≤ 100) : Ret Try.prog 83 #[(ptr pb po)] w (fun v' w' => Below w.heap.size w w' ∧ Own w' w.heap.size 46 1 v' o.length (o.map u16v)) := by
 have hb := Below.refl w.heap.size w
 refine enter (N := 8) Try.func83 rfl rfl (by simp) fun a hN hd hA => ?_
 have b : a.tmps.getD 0 undef = (ptr pb po) := hA 0 (by simp)
 clear hA
 refine zF fun _ a => zH (zD rfl (zB ?_))
 refine a _ _ (zF fun _ a => zH (zG (zC hN rfl b) (op_nil (zA hN rfl) (zM fld137_1 (zA hN rfl) (zN (v := ow) one54 (zA hN rfl) (hP.2.2 1 _ rfl) (zj ok77 (CloneL o _ _ zx (hW.rdw.mono (Nat.zero_le _) zx)) ⟨(zA hN rfl), trivial⟩ ?_))))))
 rintro d e ⟨c, b⟩
 have c := zQ c
 obtain ⟨hb, _⟩ := yE hb c
 have b := b.mono (base' := w.heap.size) zx
 refine zD (zA hN rfl) (zB (a _ _ (wp_ret (ret1 rfl hd (zA hN rfl) ⟨_, rfl, ?_⟩))))
 exact ⟨hb, b⟩

theorem Wait1_ret {C : List KC} {n i k m p base : Nat} {lv la ow : Value} {l o : List UInt16} {T : List (List UInt8)} {Fi : Nat → Prop} {w : World} (hbase : base ≤ w.heap.size) (hn : n ≤ 6) (hi : i < n) (hc : C.length = n ∧ C.getD i default = ⟨la, ow, p, Fi⟩) (hx : Bx w k 134 [lv, .map (some m)]) (O : Own w base 137 3 lv n (C.flatMap cellsK)) (hL : Own w base 46 1 la l.length (l.map u16v)) (hW : Own w base 46 1 ow o.length (o.map u16v)) (hQ : PostS w base p 16 T Fi) {LL BB pb po : Nat} (hP : PtC w LL BB pb po [la, ow, ptr p 0]) : Ret Try.prog 85 #[(ptr pb po)] w (fun v' w' => Below w.heap.size w w' ∧ v' = .int .i64 ((T.length : Nat) : Int)) := by
 have hb := Below.refl w.heap.size w
 refine enter (N := 8) Try.func85 rfl rfl (by simp) fun a hN hd hA => ?_
 have b : a.tmps.getD 0 undef = (ptr pb po) := hA 0 (by simp)
 clear hA
 refine zF fun _ a => zH (zD rfl (zB ?_))
 refine a _ _ (zF fun _ a => zH (zG (zC hN rfl b) (op_nil (zA hN rfl) (zM fld137_2 (zA hN rfl) (zN (v := (ptr p 0)) one24 (zA hN rfl) (hP.2.2 2 _ rfl) (zj ok23 (LenR_s zx hQ) ⟨(zA hN rfl), trivial⟩ ?_))))))
 rintro _ c ⟨b, rfl⟩
 have b := zQ b
 obtain ⟨hb, _⟩ := yE hb b
 refine zD (zA hN rfl) (zB (a _ _ (wp_ret (ret1 rfl hd (zA hN rfl) ⟨_, rfl, ?_⟩))))
 exact ⟨hb, rfl⟩

theorem Done1_ret {C : List KC} {n i k m p base : Nat} {lv la ow : Value} {l o : List UInt16} {T : List (List UInt8)} {Fi : Nat → Prop} {w : World} (hbase : base ≤ w.heap.size) (hn : n ≤ 6) (hi : i < n) (hc : C.length = n ∧ C.getD i default = ⟨la, ow, p, Fi⟩) (hx : Bx w k 134 [lv, .map (some m)]) (O : Own w base 137 3 lv n (C.flatMap cellsK)) (hL : Own w base 46 1 la l.length (l.map u16v)) (hW : Own w base 46 1 ow o.length (o.map u16v)) (hQ : PostS w base p 16 T Fi) {LL BB pb po : Nat} (hP : PtC w LL BB pb po [la, ow, ptr p 0]) : Ret Try.prog 89 #[(ptr pb po)] w (fun v' w' => Gr w w' Fi ∧ v' = .bool (decide (0 < T.length)) ∧ ∃ F', PostS w' base p 16 (T.drop 1) F' ∧ NewF w.heap.size Fi F') := by
 have hb := Gr.refl w Fi
 refine enter (N := 14) Try.func89 rfl rfl (by simp) fun a hN hd hA => ?_
 have b : a.tmps.getD 0 undef = (ptr pb po) := hA 0 (by simp)
 clear hA
 refine zF fun _ a => zH (zD rfl (zB ?_))
 refine a _ _ (zF fun _ a => zH (zG (zC hN rfl b) (op_nil (zA hN rfl) (zM fld137_2 (zA hN rfl) (zN (v := (ptr p 0)) one24 (zA hN rfl) (hP.2.2 2 _ rfl) (zj ok20 (TakeR_s zx hQ) ⟨(zA hN rfl), trivial⟩ ?_))))))
 rintro _ f ⟨b, rfl, e, c, d⟩
 have f := hx.lt
 have f := O.lt
 have f := hL.lt
 have f := hW.lt
 have := b.size
 have hb := hb.stepF b (fun _ _ h => h)
 refine zG (zA hN rfl) (zW (zA hN rfl) rfl (zW (zA hN rfl) rfl ?_))
 refine zD (zA hN rfl) (zD (zA hN rfl) (zB (a _ _ (zF fun _ a => zH (zG (zA hN rfl) (zD (zA hN rfl) (zB (a _ _ (wp_ret (ret1 rfl hd (zA hN rfl) ⟨_, rfl, ?_⟩))))))))))
 exact ⟨hb, rfl, e, c, d⟩

theorem Head1_ret {bb : Nat} {C : List KC} {n i k m p base : Nat} {lv la ow : Value} {l o : List UInt16} {T : List (List UInt8)} {Fi : Nat → Prop} {w : World} (hbase : base ≤ w.heap.size) (hn : n ≤ 6) (hi : i < n) (hc : C.length = n ∧ C.getD i default = ⟨la, ow, p, Fi⟩) (hx : Bx w k 134 [lv, .map (some m)]) (O : Own w base 137 3 lv n (C.flatMap cellsK)) (hL : Own w base 46 1 la l.length (l.map u16v)) (hW : Own w base 46 1 ow o.length (o.map u16v)) (hQ : PostS w base p 16 T Fi) {LL BB pb po : Nat} (hP : PtC w LL BB pb po [la, ow, ptr p 0]) (hbf : ¬ Fi bb) (hbk : bb ≠ k) (hbb : Bx w bb 4 [.bool false]) : Ret Try.prog 87 #[(ptr pb po), (ptr bb 0)] w (fun v' w' => Gr w w' (fun x => Fi x ∨ x = bb) ∧ v' = .string (bs (T.getD 0 [])) ∧ Bx w' bb 4 [.bool (decide (0 < T.length))] ∧ ∃ F', PostS w' base p 16 T F' ∧ NewF w.heap.size Fi F') := by
 have hb := Gr.refl w (fun x => Fi x ∨ x = bb)
 refine enter (N := 14) Try.func87 rfl rfl (by simp) fun a hN hd hA => ?_
 have b : a.tmps.getD 0 undef = (ptr pb po) := hA 0 (by simp)
 have c : a.tmps.getD 1 undef = (ptr bb 0) := hA 1 (by simp)
 clear hA
 refine zF fun _ a => zH (zD rfl (zB (a _ _ (zF fun _ a => zH (zD rfl (zB ?_))))))
 refine a _ _ (zF fun _ a => zH (zG (zC hN rfl b) (op_nil (zA hN rfl) (zM fld137_2 (zA hN rfl) (zN (v := (ptr p 0)) one24 (zA hN rfl) (hP.2.2 2 _ rfl) (zj ok19 (HeadR_s zx hQ) ⟨(zA hN rfl), trivial⟩ ?_))))))
 rintro _ g ⟨d, rfl, e, b, f⟩
 have g := hx.lt
 have g := O.lt
 have g := hL.lt
 have g := hW.lt
 have g := hbb.lt
 have := d.size
 have hbb := hbb.keepG d hbf
 have hb := hb.stepF d (fun _ _ h => .inl h)
 have d : ¬ e bb := ne_stepF f g hbf
 refine zG (zA hN rfl) (zW (zA hN rfl) rfl (zW (zA hN rfl) rfl (zD (zA hN rfl) (za (vs := [(.bool (decide (0 < T.length)))]) (cs' := [(.bool (decide (0 < T.length)))]) size4 (zC hN rfl c) (zA hN rfl) rfl rfl rfl hbb (zI rfl) rfl ?_))))
 intro g hbb c
 have := c.size
 have b := b.keepG (Gr.of c) (Dj.one d)
 have hb := hb.stepB c (.inr rfl)
 refine zB (a _ _ (zF fun _ a => zH (zG (zA hN rfl) (zD (zA hN rfl) (zB (a _ _ (wp_ret (ret1 rfl hd (zA hN rfl) ⟨_, rfl, ?_⟩))))))))
 exact ⟨hb, rfl, hbb, e, b, f⟩

theorem ofLabel_ret {C : List KC} {n i k m p base : Nat} {lv la ow : Value} {l o : List UInt16} {T : List (List UInt8)} {Fi : Nat → Prop} {w : World} (hbase : base ≤ w.heap.size) (hn : n ≤ 6) (hi : i < n) (hc : C.length = n ∧ C.getD i default = ⟨la, ow, p, Fi⟩) (hx : Bx w k 134 [lv, .map (some m)]) (O : Own w base 137 3 lv n (C.flatMap cellsK)) (hL : Own w base 46 1 la l.length (l.map u16v)) (hW : Own w base 46 1 ow o.length (o.map u16v)) (hQ : PostS w base p 16 T Fi) (hll : l.length ≤ 100) : Ret Try.prog 81 #[(ptr k 0), (.int .i64 ((i : Nat) : Int)), (.func (.func 82) #[] #[])] w (fun v' w' => Below w.heap.size w w' ∧ Own w' w.heap.size 46 1 v' l.length (l.map u16v)) := by
 have hb := Below.refl w.heap.size w
 refine enter (N := 25) Try.func81 rfl rfl (by simp) fun a hN hd hA => ?_
 have c : a.tmps.getD 0 undef = (ptr k 0) := hA 0 (by simp)
 have d : a.tmps.getD 1 undef = (.int .i64 ((i : Nat) : Int)) := hA 1 (by simp)
 have e : a.tmps.getD 2 undef = (.func (.func 82) #[] #[]) := hA 2 (by simp)
 clear hA
 refine zF fun _ a => zH (zD rfl ?_)
 refine zB (a _ _ (zF fun _ a => zH (zD rfl (zB (a _ _ (zF fun _ a => zF fun _ f => zH (zG (zC hN rfl d) (op_lss (zA hN rfl) rfl (fun g => ?_) (fun g => ?_)))))))))
 ·
  exfalso; omega
 refine zG (zA hN rfl) ?_
 refine zS (j := 2) (dj := 10) (b := false) rfl rfl rfl (zA hN rfl) (zG (zC hN rfl d) (zS (j := 2) (dj := 10) (b := false) rfl rfl rfl (zA hN rfl) (zG (zC hN rfl c) (zS (j := 2) (dj := 10) (b := false) rfl rfl rfl (zA hN rfl) (ze (vs := [(ptr k 0)]) ok49 ⟨(zA hN rfl), trivial⟩ (Ret.flip (Sessions_ret (base := base) zx hn hc.1 hx O)) ?_)))))
 rintro _ _ ⟨rfl, rfl⟩
 refine zS (j := 2) (dj := 10) (b := false) rfl rfl rfl (zA hN rfl) (op_geq (zA hN rfl) (zA hN rfl) (fun g => ?_) (fun g => ?_))
 ·
  exfalso; omega
 refine zd (zA hN rfl) (zA hN rfl) (zB (f _ _ (wp_cond_false (zA hN rfl) (wp_skip (a _ _ (zF fun _ a => zH (zG (zC hN rfl e) (zG (zC hN rfl c) (op_nil (zA hN rfl) (zM fld134_0 (zA hN rfl) (zN one132 (zA hN rfl) (hx.cell rfl) (zG (zC hN rfl d) (zh slt132 (zA hN rfl) O.rdw (zA hN rfl) zx zx ?_)))))))))))))
 intro c d f g e
 have f : PtC w c (c + 1) c d [la, ow, (ptr p 0)] := ⟨by omega, by omega, fun j u hu => e j u (by have := (List.getElem?_eq_some_iff.1 hu).1; simpa using this) ((el_kc hc zx zx) j u hu)⟩
 refine op_fnv (fs := []) (vs := [(ptr c d)]) (cs := []) (zA hN rfl) ok82 ⟨(zA hN rfl), trivial⟩ (Label1_ret zx hn hi hc hx O hL hW hQ f hll) ?_
 rintro e f ⟨c, d⟩
 have c := zQ c
 obtain ⟨hb, _⟩ := yE hb c
 have d := d.mono (base' := w.heap.size) zx
 refine zD (zA hN rfl) (zB (a _ _ (wp_ret (ret1 rfl hd (zA hN rfl) ⟨_, rfl, ?_⟩))))
 exact ⟨hb, d⟩

theorem ofOwns_ret {C : List KC} {n i k m p base : Nat} {lv la ow : Value} {l o : List UInt16} {T : List (List UInt8)} {Fi : Nat → Prop} {w : World} (hbase : base ≤ w.heap.size) (hn : n ≤ 6) (hi : i < n) (hc : C.length = n ∧ C.getD i default = ⟨la, ow, p, Fi⟩) (hx : Bx w k 134 [lv, .map (some m)]) (O : Own w base 137 3 lv n (C.flatMap cellsK)) (hL : Own w base 46 1 la l.length (l.map u16v)) (hW : Own w base 46 1 ow o.length (o.map u16v)) (hQ : PostS w base p 16 T Fi) (hll : o.length ≤ 100) : Ret Try.prog 81 #[(ptr k 0), (.int .i64 ((i : Nat) : Int)), (.func (.func 83) #[] #[])] w (fun v' w' => Below w.heap.size w w' ∧ Own w' w.heap.size 46 1 v' o.length (o.map u16v)) := by
 have hb := Below.refl w.heap.size w
 refine enter (N := 25) Try.func81 rfl rfl (by simp) fun a hN hd hA => ?_
 have c : a.tmps.getD 0 undef = (ptr k 0) := hA 0 (by simp)
 have d : a.tmps.getD 1 undef = (.int .i64 ((i : Nat) : Int)) := hA 1 (by simp)
 have e : a.tmps.getD 2 undef = (.func (.func 83) #[] #[]) := hA 2 (by simp)
 clear hA
 refine zF fun _ a => zH (zD rfl ?_)
 refine zB (a _ _ (zF fun _ a => zH (zD rfl (zB (a _ _ (zF fun _ a => zF fun _ f => zH (zG (zC hN rfl d) (op_lss (zA hN rfl) rfl (fun g => ?_) (fun g => ?_)))))))))
 ·
  exfalso; omega
 refine zG (zA hN rfl) ?_
 refine zS (j := 2) (dj := 10) (b := false) rfl rfl rfl (zA hN rfl) (zG (zC hN rfl d) (zS (j := 2) (dj := 10) (b := false) rfl rfl rfl (zA hN rfl) (zG (zC hN rfl c) (zS (j := 2) (dj := 10) (b := false) rfl rfl rfl (zA hN rfl) (ze (vs := [(ptr k 0)]) ok49 ⟨(zA hN rfl), trivial⟩ (Ret.flip (Sessions_ret (base := base) zx hn hc.1 hx O)) ?_)))))
 rintro _ _ ⟨rfl, rfl⟩
 refine zS (j := 2) (dj := 10) (b := false) rfl rfl rfl (zA hN rfl) (op_geq (zA hN rfl) (zA hN rfl) (fun g => ?_) (fun g => ?_))
 ·
  exfalso; omega
 refine zd (zA hN rfl) (zA hN rfl) (zB (f _ _ (wp_cond_false (zA hN rfl) (wp_skip (a _ _ (zF fun _ a => zH (zG (zC hN rfl e) (zG (zC hN rfl c) (op_nil (zA hN rfl) (zM fld134_0 (zA hN rfl) (zN one132 (zA hN rfl) (hx.cell rfl) (zG (zC hN rfl d) (zh slt132 (zA hN rfl) O.rdw (zA hN rfl) zx zx ?_)))))))))))))
 intro c d g f e
 have f : PtC w c (c + 1) c d [la, ow, (ptr p 0)] := ⟨by omega, by omega, fun j u hu => e j u (by have := (List.getElem?_eq_some_iff.1 hu).1; simpa using this) ((el_kc hc zx zx) j u hu)⟩
 refine op_fnv (fs := []) (vs := [(ptr c d)]) (cs := []) (zA hN rfl) ok83 ⟨(zA hN rfl), trivial⟩ (Owns1_ret zx hn hi hc hx O hL hW hQ f hll) ?_
 rintro e f ⟨d, c⟩
 have d := zQ d
 obtain ⟨hb, _⟩ := yE hb d
 have c := c.mono (base' := w.heap.size) zx
 refine zD (zA hN rfl) (zB (a _ _ (wp_ret (ret1 rfl hd (zA hN rfl) ⟨_, rfl, ?_⟩))))
 exact ⟨hb, c⟩

theorem ofWait_ret {C : List KC} {n i k m p base : Nat} {lv la ow : Value} {l o : List UInt16} {T : List (List UInt8)} {Fi : Nat → Prop} {w : World} (hbase : base ≤ w.heap.size) (hn : n ≤ 6) (hi : i < n) (hc : C.length = n ∧ C.getD i default = ⟨la, ow, p, Fi⟩) (hx : Bx w k 134 [lv, .map (some m)]) (O : Own w base 137 3 lv n (C.flatMap cellsK)) (hL : Own w base 46 1 la l.length (l.map u16v)) (hW : Own w base 46 1 ow o.length (o.map u16v)) (hQ : PostS w base p 16 T Fi) : Ret Try.prog 84 #[(ptr k 0), (.int .i64 ((i : Nat) : Int)), (.func (.func 85) #[] #[])] w (fun v' w' => Below w.heap.size w w' ∧ v' = .int .i64 ((T.length : Nat) : Int)) := by
 have hb := Below.refl w.heap.size w
 refine enter (N := 25) Try.func84 rfl rfl (by simp) fun a hN hd hA => ?_
 have c : a.tmps.getD 0 undef = (ptr k 0) := hA 0 (by simp)
 have d : a.tmps.getD 1 undef = (.int .i64 ((i : Nat) : Int)) := hA 1 (by simp)
 have e : a.tmps.getD 2 undef = (.func (.func 85) #[] #[]) := hA 2 (by simp)
 clear hA
 refine zF fun _ a => zH (zD rfl ?_)
 refine zB (a _ _ (zF fun _ a => zH (zD rfl (zB (a _ _ (zF fun _ a => zF fun _ f => zH (zG (zC hN rfl d) (op_lss (zA hN rfl) rfl (fun g => ?_) (fun g => ?_)))))))))
 ·
  exfalso; omega
 refine zG (zA hN rfl) ?_
 refine zS (j := 2) (dj := 10) (b := false) rfl rfl rfl (zA hN rfl) (zG (zC hN rfl d) (zS (j := 2) (dj := 10) (b := false) rfl rfl rfl (zA hN rfl) (zG (zC hN rfl c) (zS (j := 2) (dj := 10) (b := false) rfl rfl rfl (zA hN rfl) (ze (vs := [(ptr k 0)]) ok49 ⟨(zA hN rfl), trivial⟩ (Ret.flip (Sessions_ret (base := base) zx hn hc.1 hx O)) ?_)))))
 rintro _ _ ⟨rfl, rfl⟩
 refine zS (j := 2) (dj := 10) (b := false) rfl rfl rfl (zA hN rfl) (op_geq (zA hN rfl) (zA hN rfl) (fun g => ?_) (fun g => ?_))
 ·
  exfalso; omega
 refine zd (zA hN rfl) (zA hN rfl) (zB (f _ _ (wp_cond_false (zA hN rfl) (wp_skip (a _ _ (zF fun _ a => zH (zG (zC hN rfl e) (zG (zC hN rfl c) (op_nil (zA hN rfl) (zM fld134_0 (zA hN rfl) (zN one132 (zA hN rfl) (hx.cell rfl) (zG (zC hN rfl d) (zh slt132 (zA hN rfl) O.rdw (zA hN rfl) zx zx ?_)))))))))))))
 intro c d f g e
 have f : PtC w c (c + 1) c d [la, ow, (ptr p 0)] := ⟨by omega, by omega, fun j u hu => e j u (by have := (List.getElem?_eq_some_iff.1 hu).1; simpa using this) ((el_kc hc zx zx) j u hu)⟩
 refine op_fnv (fs := []) (vs := [(ptr c d)]) (cs := []) (zA hN rfl) ok85 ⟨(zA hN rfl), trivial⟩ (Wait1_ret zx hn hi hc hx O hL hW hQ f) ?_
 rintro _ d ⟨c, rfl⟩
 have c := zQ c
 obtain ⟨hb, _⟩ := yE hb c
 refine zD (zA hN rfl) (zB (a _ _ (wp_ret (ret1 rfl hd (zA hN rfl) ⟨_, rfl, ?_⟩))))
 exact ⟨hb, rfl⟩

theorem ofDone_ret {C : List KC} {n i k m p base : Nat} {lv la ow : Value} {l o : List UInt16} {T : List (List UInt8)} {Fi : Nat → Prop} {w : World} (hbase : base ≤ w.heap.size) (hn : n ≤ 6) (hi : i < n) (hc : C.length = n ∧ C.getD i default = ⟨la, ow, p, Fi⟩) (hx : Bx w k 134 [lv, .map (some m)]) (O : Own w base 137 3 lv n (C.flatMap cellsK)) (hL : Own w base 46 1 la l.length (l.map u16v)) (hW : Own w base 46 1 ow o.length (o.map u16v)) (hQ : PostS w base p 16 T Fi) : Ret Try.prog 88 #[(ptr k 0), (.int .i64 ((i : Nat) : Int)), (.func (.func 89) #[] #[])] w (fun v' w' => Gr w w' Fi ∧ v' = .bool (decide (0 < T.length)) ∧ ∃ F', PostS w' base p 16 (T.drop 1) F' ∧ NewF w.heap.size Fi F') := by
 have hb := Gr.refl w Fi
 refine enter (N := 25) Try.func88 rfl rfl (by simp) fun a hN hd hA => ?_
 have c : a.tmps.getD 0 undef = (ptr k 0) := hA 0 (by simp)
 have d : a.tmps.getD 1 undef = (.int .i64 ((i : Nat) : Int)) := hA 1 (by simp)
 have e : a.tmps.getD 2 undef = (.func (.func 89) #[] #[]) := hA 2 (by simp)
 clear hA
 refine zF fun _ a => zH (zD rfl ?_)
 refine zB (a _ _ (zF fun _ a => zH (zD rfl (zB (a _ _ (zF fun _ a => zF fun _ g => zH (zG (zC hN rfl d) (op_lss (zA hN rfl) rfl (fun f => ?_) (fun f => ?_)))))))))
 ·
  exfalso; omega
 refine zG (zA hN rfl) ?_
 refine zS (j := 2) (dj := 10) (b := false) rfl rfl rfl (zA hN rfl) (zG (zC hN rfl d) (zS (j := 2) (dj := 10) (b := false) rfl rfl rfl (zA hN rfl) (zG (zC hN rfl c) (zS (j := 2) (dj := 10) (b := false) rfl rfl rfl (zA hN rfl) (ze (vs := [(ptr k 0)]) ok49 ⟨(zA hN rfl), trivial⟩ (Ret.flip (Sessions_ret (base := base) zx hn hc.1 hx O)) ?_)))))
 rintro _ _ ⟨rfl, rfl⟩
 refine zS (j := 2) (dj := 10) (b := false) rfl rfl rfl (zA hN rfl) (op_geq (zA hN rfl) (zA hN rfl) (fun f => ?_) (fun f => ?_))
 ·
  exfalso; omega
 refine zd (zA hN rfl) (zA hN rfl) (zB (g _ _ (wp_cond_false (zA hN rfl) (wp_skip (a _ _ (zF fun _ a => zH (zG (zC hN rfl e) (zG (zC hN rfl c) (op_nil (zA hN rfl) (zM fld134_0 (zA hN rfl) (zN one132 (zA hN rfl) (hx.cell rfl) (zG (zC hN rfl d) (zh slt132 (zA hN rfl) O.rdw (zA hN rfl) zx zx ?_)))))))))))))
 intro c d g f e
 have f : PtC w c (c + 1) c d [la, ow, (ptr p 0)] := ⟨by omega, by omega, fun j u hu => e j u (by have := (List.getElem?_eq_some_iff.1 hu).1; simpa using this) ((el_kc hc zx zx) j u hu)⟩
 refine op_fnv (fs := []) (vs := [(ptr c d)]) (cs := []) (zA hN rfl) ok89 ⟨(zA hN rfl), trivial⟩ (Done1_ret zx hn hi hc hx O hL hW hQ f) ?_
 rintro _ g ⟨c, rfl, d, e, f⟩
 have g := hx.lt
 have g := O.lt
 have g := hL.lt
 have g := hW.lt
 have := c.size
 have hb := hb.stepF c (fun _ _ h => h)
 refine zD (zA hN rfl) (zB (a _ _ (wp_ret (ret1 rfl hd (zA hN rfl) ⟨_, rfl, ?_⟩))))
 exact ⟨hb, rfl, d, e, f⟩

theorem ofHead_ret {bb : Nat} {C : List KC} {n i k m p base : Nat} {lv la ow : Value} {l o : List UInt16} {T : List (List UInt8)} {Fi : Nat → Prop} {w : World} (hbase : base ≤ w.heap.size) (hn : n ≤ 6) (hi : i < n) (hc : C.length = n ∧ C.getD i default = ⟨la, ow, p, Fi⟩) (hx : Bx w k 134 [lv, .map (some m)]) (O : Own w base 137 3 lv n (C.flatMap cellsK)) (hL : Own w base 46 1 la l.length (l.map u16v)) (hW : Own w base 46 1 ow o.length (o.map u16v)) (hQ : PostS w base p 16 T Fi) (hbf : ¬ Fi bb) (hbk : bb ≠ k) (hbb : Bx w bb 4 [.bool false]) : Ret Try.prog 86 #[(ptr k 0), (.int .i64 ((i : Nat) : Int)), (.func (.func 87) #[] #[(ptr bb 0)])] w (fun v' w' => Gr w w' (fun x => Fi x ∨ x = bb) ∧ v' = .string (bs (T.getD 0 [])) ∧ Bx w' bb 4 [.bool (decide (0 < T.length))] ∧ ∃ F', PostS w' base p 16 T F' ∧ NewF w.heap.size Fi F') := by
 have a : ¬ Fi k := hQ.notBx hx zz zz
 have c : Dj (Bl lv) Fi := hQ.notOwn O zz zz
 have d : Dj (Bl la) Fi := hQ.notOwn hL zz zz
 have e : Dj (Bl ow) Fi := hQ.notOwn hW zz zz
 have hb := Gr.refl w (fun x => Fi x ∨ x = bb)
 refine enter (N := 25) Try.func86 rfl rfl (by simp) fun f hN hd hA => ?_
 have g : f.tmps.getD 0 undef = (ptr k 0) := hA 0 (by simp)
 have q : f.tmps.getD 1 undef = (.int .i64 ((i : Nat) : Int)) := hA 1 (by simp)
 have s : f.tmps.getD 2 undef = (.func (.func 87) #[] #[(ptr bb 0)]) := hA 2 (by simp)
 clear hA
 refine zF fun _ t => zH (zD rfl ?_)
 refine zB (t _ _ (zF fun _ t => zH (zD rfl (zB (t _ _ (zF fun _ t => zF fun _ y => zH (zG (zC hN rfl q) (op_lss (zA hN rfl) rfl (fun v => ?_) (fun v => ?_)))))))))
 ·
  exfalso; omega
 refine zG (zA hN rfl) ?_
 refine zS (j := 2) (dj := 10) (b := false) rfl rfl rfl (zA hN rfl) (zG (zC hN rfl q) (zS (j := 2) (dj := 10) (b := false) rfl rfl rfl (zA hN rfl) (zG (zC hN rfl g) (zS (j := 2) (dj := 10) (b := false) rfl rfl rfl (zA hN rfl) (ze (vs := [(ptr k 0)]) ok49 ⟨(zA hN rfl), trivial⟩ (Ret.flip (Sessions_ret (base := base) zx hn hc.1 hx O)) ?_)))))
 rintro _ _ ⟨rfl, rfl⟩
 refine zS (j := 2) (dj := 10) (b := false) rfl rfl rfl (zA hN rfl) (op_geq (zA hN rfl) (zA hN rfl) (fun z => ?_) (fun z => ?_))
 ·
  exfalso; omega
 refine zd (zA hN rfl) (zA hN rfl) (zB (y _ _ (wp_cond_false (zA hN rfl) (wp_skip (t _ _ (zF fun _ t => zH (zG (zC hN rfl s) (zG (zC hN rfl g) (op_nil (zA hN rfl) (zM fld134_0 (zA hN rfl) (zN one132 (zA hN rfl) (hx.cell rfl) (zG (zC hN rfl q) (zh slt132 (zA hN rfl) O.rdw (zA hN rfl) zx zx ?_)))))))))))))
 intro A B E F D
 have G : PtC w A (A + 1) A B [la, ow, (ptr p 0)] := ⟨by omega, by omega, fun j u hu => D j u (by have := (List.getElem?_eq_some_iff.1 hu).1; simpa using this) ((el_kc hc zx zx) j u hu)⟩
 refine op_fnv (fs := []) (vs := [(ptr A B)]) (cs := [(ptr bb 0)]) (zA hN rfl) ok87 ⟨(zA hN rfl), trivial⟩ (Head1_ret zx hn hi hc hx O hL hW hQ G hbf hbk hbb) ?_
 rintro _ M ⟨H, rfl, I, K, L, J⟩
 have P := hx.lt
 have Q := O.lt
 have R := hL.lt
 have S := hW.lt
 have U := hbb.lt
 have V : ¬ (fun x => Fi x ∨ x = bb) k := fun hy => by
   rcases hy with hy | hy
   · exact a hy
   · exact hx.ne hbb zz hy
 have W : Dj (Bl lv) (fun x => Fi x ∨ x = bb) := fun x hx hy => by
   rcases hy with hy | rfl
   · exact c x hx hy
   · exact O.neB hbb zz hx
 have X : Dj (Bl la) (fun x => Fi x ∨ x = bb) := fun x hx hy => by
   rcases hy with hy | rfl
   · exact d x hx hy
   · exact hL.neB hbb zz hx
 have Y : Dj (Bl ow) (fun x => Fi x ∨ x = bb) := fun x hx hy => by
   rcases hy with hy | rfl
   · exact e x hx hy
   · exact hW.neB hbb zz hx
 have := H.size
 have hb := hb.stepF H (fun _ _ h => h)
 refine zD (zA hN rfl) (zB (t _ _ (wp_ret (ret1 rfl hd (zA hN rfl) ⟨_, rfl, ?_⟩))))
 exact ⟨hb, rfl, I, K, L, J⟩

theorem ofLabelOut_ret {C : List KC} {n k m base : Nat} {lv : Value} {s : Int} {fv : Value} {w : World} (hbase : base ≤ w.heap.size) (hn : n ≤ 6) (hC : C.length = n) (hx : Bx w k 134 [lv, .map (some m)]) (O : Own w base 137 3 lv n (C.flatMap cellsK)) (hs : s < 0 ∨ (n : Int) ≤ s) : Ret Try.prog 81 #[(ptr k 0), (.int .i64 s), fv] w (fun v' w' => Below w.heap.size w w' ∧ v' = .slice none 0 0) := by
 have hb := Below.refl w.heap.size w
 refine enter (N := 25) Try.func81 rfl rfl (by simp) fun a hN hd hA => ?_
 have c : a.tmps.getD 0 undef = (ptr k 0) := hA 0 (by simp)
 have d : a.tmps.getD 1 undef = (.int .i64 s) := hA 1 (by simp)
 clear hA
 refine zF fun _ a => zH (zD rfl ?_)
 refine zB (a _ _ (zF fun _ a => zH (zD rfl (zB (a _ _ (zF fun _ a => zF fun _ e => zH (zG (zC hN rfl d) (op_lss (zA hN rfl) rfl (fun f => ?_) (fun f => ?_)))))))))
 ·
  refine zG (zA hN rfl) (zR (j := 2) (dj := 10) (b := false) rfl rfl rfl (zA hN rfl) rfl rfl (zR (j := 2) (dj := 10) (b := false) rfl rfl rfl (zA hN rfl) rfl rfl (zR (j := 2) (dj := 10) (b := false) rfl rfl rfl (zA hN rfl) rfl rfl ?_)))
  refine zR (j := 2) (dj := 10) (b := false) rfl rfl rfl (zA hN rfl) rfl rfl (zc (zA hN rfl) rfl (zB (e _ _ (wp_cond_true (zA hN rfl) (zF fun _ e => zH (zG (zA hN rfl) (zD (zA hN rfl) (zB (e _ _ (wp_ret (zO ( (ret1 rfl hd (zA hN rfl) ⟨_, rfl, ?_⟩)))))))))))))
  exact ⟨hb, rfl⟩
 refine zG (zA hN rfl) ?_
 refine zS (j := 2) (dj := 10) (b := false) rfl rfl rfl (zA hN rfl) (zG (zC hN rfl d) (zS (j := 2) (dj := 10) (b := false) rfl rfl rfl (zA hN rfl) (zG (zC hN rfl c) (zS (j := 2) (dj := 10) (b := false) rfl rfl rfl (zA hN rfl) (ze (vs := [(ptr k 0)]) ok49 ⟨(zA hN rfl), trivial⟩ (Ret.flip (Sessions_ret (base := base) zx hn hC hx O)) ?_)))))
 rintro _ _ ⟨rfl, rfl⟩
 refine zS (j := 2) (dj := 10) (b := false) rfl rfl rfl (zA hN rfl) (op_geq (zA hN rfl) (zA hN rfl) (fun a => ?_) (fun a => ?_))
 ·
  refine zd (zA hN rfl) (zA hN rfl) (zB (e _ _ (wp_cond_true (zA hN rfl) (zF fun _ e => zH (zG (zA hN rfl) (zD (zA hN rfl) (zB (e _ _ (wp_ret (zO ( (ret1 rfl hd (zA hN rfl) ⟨_, rfl, ?_⟩))))))))))))
  exact ⟨hb, rfl⟩
 exfalso; omega

theorem ofIntOut_ret {C : List KC} {n k m base : Nat} {lv : Value} {s : Int} {fv : Value} {w : World} (hbase : base ≤ w.heap.size) (hn : n ≤ 6) (hC : C.length = n) (hx : Bx w k 134 [lv, .map (some m)]) (O : Own w base 137 3 lv n (C.flatMap cellsK)) (hs : s < 0 ∨ (n : Int) ≤ s) : Ret Try.prog 84 #[(ptr k 0), (.int .i64 s), fv] w (fun v' w' => Below w.heap.size w w' ∧ v' = .int .i64 0) := by
 have hb := Below.refl w.heap.size w
 refine enter (N := 25) Try.func84 rfl rfl (by simp) fun a hN hd hA => ?_
 have c : a.tmps.getD 0 undef = (ptr k 0) := hA 0 (by simp)
 have d : a.tmps.getD 1 undef = (.int .i64 s) := hA 1 (by simp)
 clear hA
 refine zF fun _ a => zH (zD rfl ?_)
 refine zB (a _ _ (zF fun _ a => zH (zD rfl (zB (a _ _ (zF fun _ a => zF fun _ e => zH (zG (zC hN rfl d) (op_lss (zA hN rfl) rfl (fun f => ?_) (fun f => ?_)))))))))
 ·
  refine zG (zA hN rfl) (zR (j := 2) (dj := 10) (b := false) rfl rfl rfl (zA hN rfl) rfl rfl (zR (j := 2) (dj := 10) (b := false) rfl rfl rfl (zA hN rfl) rfl rfl (zR (j := 2) (dj := 10) (b := false) rfl rfl rfl (zA hN rfl) rfl rfl ?_)))
  refine zR (j := 2) (dj := 10) (b := false) rfl rfl rfl (zA hN rfl) rfl rfl (zc (zA hN rfl) rfl (zB (e _ _ (wp_cond_true (zA hN rfl) (zF fun _ e => zH (zG (zA hN rfl) (zD (zA hN rfl) (zB (e _ _ (wp_ret (zO ( (ret1 rfl hd (zA hN rfl) ⟨_, rfl, ?_⟩)))))))))))))
  exact ⟨hb, rfl⟩
 refine zG (zA hN rfl) ?_
 refine zS (j := 2) (dj := 10) (b := false) rfl rfl rfl (zA hN rfl) (zG (zC hN rfl d) (zS (j := 2) (dj := 10) (b := false) rfl rfl rfl (zA hN rfl) (zG (zC hN rfl c) (zS (j := 2) (dj := 10) (b := false) rfl rfl rfl (zA hN rfl) (ze (vs := [(ptr k 0)]) ok49 ⟨(zA hN rfl), trivial⟩ (Ret.flip (Sessions_ret (base := base) zx hn hC hx O)) ?_)))))
 rintro _ _ ⟨rfl, rfl⟩
 refine zS (j := 2) (dj := 10) (b := false) rfl rfl rfl (zA hN rfl) (op_geq (zA hN rfl) (zA hN rfl) (fun a => ?_) (fun a => ?_))
 ·
  refine zd (zA hN rfl) (zA hN rfl) (zB (e _ _ (wp_cond_true (zA hN rfl) (zF fun _ e => zH (zG (zA hN rfl) (zD (zA hN rfl) (zB (e _ _ (wp_ret (zO ( (ret1 rfl hd (zA hN rfl) ⟨_, rfl, ?_⟩))))))))))))
  exact ⟨hb, rfl⟩
 exfalso; omega

theorem ofBoolOut_ret {C : List KC} {n k m base : Nat} {lv : Value} {s : Int} {fv : Value} {w : World} (hbase : base ≤ w.heap.size) (hn : n ≤ 6) (hC : C.length = n) (hx : Bx w k 134 [lv, .map (some m)]) (O : Own w base 137 3 lv n (C.flatMap cellsK)) (hs : s < 0 ∨ (n : Int) ≤ s) : Ret Try.prog 88 #[(ptr k 0), (.int .i64 s), fv] w (fun v' w' => Below w.heap.size w w' ∧ v' = .bool false) := by
 have hb := Below.refl w.heap.size w
 refine enter (N := 25) Try.func88 rfl rfl (by simp) fun a hN hd hA => ?_
 have c : a.tmps.getD 0 undef = (ptr k 0) := hA 0 (by simp)
 have d : a.tmps.getD 1 undef = (.int .i64 s) := hA 1 (by simp)
 clear hA
 refine zF fun _ a => zH (zD rfl ?_)
 refine zB (a _ _ (zF fun _ a => zH (zD rfl (zB (a _ _ (zF fun _ a => zF fun _ e => zH (zG (zC hN rfl d) (op_lss (zA hN rfl) rfl (fun f => ?_) (fun f => ?_)))))))))
 ·
  refine zG (zA hN rfl) (zR (j := 2) (dj := 10) (b := false) rfl rfl rfl (zA hN rfl) rfl rfl (zR (j := 2) (dj := 10) (b := false) rfl rfl rfl (zA hN rfl) rfl rfl (zR (j := 2) (dj := 10) (b := false) rfl rfl rfl (zA hN rfl) rfl rfl ?_)))
  refine zR (j := 2) (dj := 10) (b := false) rfl rfl rfl (zA hN rfl) rfl rfl (zc (zA hN rfl) rfl (zB (e _ _ (wp_cond_true (zA hN rfl) (zF fun _ e => zH (zG (zA hN rfl) (zD (zA hN rfl) (zB (e _ _ (wp_ret (zO ( (ret1 rfl hd (zA hN rfl) ⟨_, rfl, ?_⟩)))))))))))))
  exact ⟨hb, rfl⟩
 refine zG (zA hN rfl) ?_
 refine zS (j := 2) (dj := 10) (b := false) rfl rfl rfl (zA hN rfl) (zG (zC hN rfl d) (zS (j := 2) (dj := 10) (b := false) rfl rfl rfl (zA hN rfl) (zG (zC hN rfl c) (zS (j := 2) (dj := 10) (b := false) rfl rfl rfl (zA hN rfl) (ze (vs := [(ptr k 0)]) ok49 ⟨(zA hN rfl), trivial⟩ (Ret.flip (Sessions_ret (base := base) zx hn hC hx O)) ?_)))))
 rintro _ _ ⟨rfl, rfl⟩
 refine zS (j := 2) (dj := 10) (b := false) rfl rfl rfl (zA hN rfl) (op_geq (zA hN rfl) (zA hN rfl) (fun a => ?_) (fun a => ?_))
 ·
  refine zd (zA hN rfl) (zA hN rfl) (zB (e _ _ (wp_cond_true (zA hN rfl) (zF fun _ e => zH (zG (zA hN rfl) (zD (zA hN rfl) (zB (e _ _ (wp_ret (zO ( (ret1 rfl hd (zA hN rfl) ⟨_, rfl, ?_⟩))))))))))))
  exact ⟨hb, rfl⟩
 exfalso; omega

theorem ofStrOut_ret {C : List KC} {n k m base : Nat} {lv : Value} {s : Int} {fv : Value} {w : World} (hbase : base ≤ w.heap.size) (hn : n ≤ 6) (hC : C.length = n) (hx : Bx w k 134 [lv, .map (some m)]) (O : Own w base 137 3 lv n (C.flatMap cellsK)) (hs : s < 0 ∨ (n : Int) ≤ s) : Ret Try.prog 86 #[(ptr k 0), (.int .i64 s), fv] w (fun v' w' => Below w.heap.size w w' ∧ v' = .string (bs [])) := by
 have hb := Below.refl w.heap.size w
 refine enter (N := 25) Try.func86 rfl rfl (by simp) fun a hN hd hA => ?_
 have c : a.tmps.getD 0 undef = (ptr k 0) := hA 0 (by simp)
 have d : a.tmps.getD 1 undef = (.int .i64 s) := hA 1 (by simp)
 clear hA
 refine zF fun _ a => zH (zD rfl ?_)
 refine zB (a _ _ (zF fun _ a => zH (zD rfl (zB (a _ _ (zF fun _ a => zF fun _ e => zH (zG (zC hN rfl d) (op_lss (zA hN rfl) rfl (fun f => ?_) (fun f => ?_)))))))))
 ·
  refine zG (zA hN rfl) (zR (j := 2) (dj := 10) (b := false) rfl rfl rfl (zA hN rfl) rfl rfl (zR (j := 2) (dj := 10) (b := false) rfl rfl rfl (zA hN rfl) rfl rfl (zR (j := 2) (dj := 10) (b := false) rfl rfl rfl (zA hN rfl) rfl rfl ?_)))
  refine zR (j := 2) (dj := 10) (b := false) rfl rfl rfl (zA hN rfl) rfl rfl (zc (zA hN rfl) rfl (zB (e _ _ (wp_cond_true (zA hN rfl) (zF fun _ e => zH (zG (zA hN rfl) (zD (zA hN rfl) (zB (e _ _ (wp_ret (zO ( (ret1 rfl hd (zA hN rfl) ⟨_, rfl, ?_⟩)))))))))))))
  exact ⟨hb, rfl⟩
 refine zG (zA hN rfl) ?_
 refine zS (j := 2) (dj := 10) (b := false) rfl rfl rfl (zA hN rfl) (zG (zC hN rfl d) (zS (j := 2) (dj := 10) (b := false) rfl rfl rfl (zA hN rfl) (zG (zC hN rfl c) (zS (j := 2) (dj := 10) (b := false) rfl rfl rfl (zA hN rfl) (ze (vs := [(ptr k 0)]) ok49 ⟨(zA hN rfl), trivial⟩ (Ret.flip (Sessions_ret (base := base) zx hn hC hx O)) ?_)))))
 rintro _ _ ⟨rfl, rfl⟩
 refine zS (j := 2) (dj := 10) (b := false) rfl rfl rfl (zA hN rfl) (op_geq (zA hN rfl) (zA hN rfl) (fun a => ?_) (fun a => ?_))
 ·
  refine zd (zA hN rfl) (zA hN rfl) (zB (e _ _ (wp_cond_true (zA hN rfl) (zF fun _ e => zH (zG (zA hN rfl) (zD (zA hN rfl) (zB (e _ _ (wp_ret (zO ( (ret1 rfl hd (zA hN rfl) ⟨_, rfl, ?_⟩))))))))))))
  exact ⟨hb, rfl⟩
 exfalso; omega

theorem LabelIn {C : List KC} {n i k m p base : Nat} {lv la ow : Value} {l o : List UInt16} {T : List (List UInt8)} {Fi : Nat → Prop} {w : World} (hbase : base ≤ w.heap.size) (hn : n ≤ 6) (hi : i < n) (hc : C.length = n ∧ C.getD i default = ⟨la, ow, p, Fi⟩) (hx : Bx w k 134 [lv, .map (some m)]) (O : Own w base 137 3 lv n (C.flatMap cellsK)) (hL : Own w base 46 1 la l.length (l.map u16v)) (hW : Own w base 46 1 ow o.length (o.map u16v)) (hQ : PostS w base p 16 T Fi) (hll : l.length ≤ 100) : Ret Try.prog 37 #[(ptr k 0), (.int .i64 ((i : Nat) : Int))] w (fun v' w' => Below w.heap.size w w' ∧ Own w' w.heap.size 46 1 v' l.length (l.map u16v)) := by
 have hb := Below.refl w.heap.size w
 refine enter (N := 8) Try.func37 rfl rfl (by simp) fun a hN hd hA => ?_
 have b : a.tmps.getD 0 undef = (ptr k 0) := hA 0 (by simp)
 have c : a.tmps.getD 1 undef = (.int .i64 ((i : Nat) : Int)) := hA 1 (by simp)
 clear hA
 refine zF fun _ a => zH (zD rfl ?_)
 refine zB (a _ _ (zF fun _ a => zH (zG (zC hN rfl b) (zG (zC hN rfl c) (zj ok81 (ofLabel_ret zx hn hi hc hx O hL hW hQ hll) ⟨(zA hN rfl), ⟨(zA hN rfl), ⟨rfl, trivial⟩⟩⟩ ?_)))))
 rintro e d ⟨b, c⟩
 have b := zQ b
 obtain ⟨hb, _⟩ := yE hb b
 have c := c.mono (base' := w.heap.size) zx
 refine zD (zA hN rfl) (zB (a _ _ (wp_ret (ret1 rfl hd (zA hN rfl) ⟨_, rfl, ?_⟩))))
 exact ⟨hb, c⟩

theorem OwnsIn {C : List KC} {n i k m p base : Nat} {lv la ow : Value} {l o : List UInt16} {T : List (List UInt8)} {Fi : Nat → Prop} {w : World} (hbase : base ≤ w.heap.size) (hn : n ≤ 6) (hi : i < n) (hc : C.length = n ∧ C.getD i default = ⟨la, ow, p, Fi⟩) (hx : Bx w k 134 [lv, .map (some m)]) (O : Own w base 137 3 lv n (C.flatMap cellsK)) (hL : Own w base 46 1 la l.length (l.map u16v)) (hW : Own w base 46 1 ow o.length (o.map u16v)) (hQ : PostS w base p 16 T Fi) (hll : o.length ≤ 100) : Ret Try.prog 38 #[(ptr k 0), (.int .i64 ((i : Nat) : Int))] w (fun v' w' => Below w.heap.size w w' ∧ Own w' w.heap.size 46 1 v' o.length (o.map u16v)) := by
 have hb := Below.refl w.heap.size w
 refine enter (N := 8) Try.func38 rfl rfl (by simp) fun a hN hd hA => ?_
 have b : a.tmps.getD 0 undef = (ptr k 0) := hA 0 (by simp)
 have c : a.tmps.getD 1 undef = (.int .i64 ((i : Nat) : Int)) := hA 1 (by simp)
 clear hA
 refine zF fun _ a => zH (zD rfl ?_)
 refine zB (a _ _ (zF fun _ a => zH (zG (zC hN rfl b) (zG (zC hN rfl c) (zj ok81 (ofOwns_ret zx hn hi hc hx O hL hW hQ hll) ⟨(zA hN rfl), ⟨(zA hN rfl), ⟨rfl, trivial⟩⟩⟩ ?_)))))
 rintro d e ⟨b, c⟩
 have b := zQ b
 obtain ⟨hb, _⟩ := yE hb b
 have c := c.mono (base' := w.heap.size) zx
 refine zD (zA hN rfl) (zB (a _ _ (wp_ret (ret1 rfl hd (zA hN rfl) ⟨_, rfl, ?_⟩))))
 exact ⟨hb, c⟩

theorem WaitIn {C : List KC} {n i k m p base : Nat} {lv la ow : Value} {l o : List UInt16} {T : List (List UInt8)} {Fi : Nat → Prop} {w : World} (hbase : base ≤ w.heap.size) (hn : n ≤ 6) (hi : i < n) (hc : C.length = n ∧ C.getD i default = ⟨la, ow, p, Fi⟩) (hx : Bx w k 134 [lv, .map (some m)]) (O : Own w base 137 3 lv n (C.flatMap cellsK)) (hL : Own w base 46 1 la l.length (l.map u16v)) (hW : Own w base 46 1 ow o.length (o.map u16v)) (hQ : PostS w base p 16 T Fi) : Ret Try.prog 39 #[(ptr k 0), (.int .i64 ((i : Nat) : Int))] w (fun v' w' => Below w.heap.size w w' ∧ v' = .int .i64 ((T.length : Nat) : Int)) := by
 have hb := Below.refl w.heap.size w
 refine enter (N := 8) Try.func39 rfl rfl (by simp) fun a hN hd hA => ?_
 have b : a.tmps.getD 0 undef = (ptr k 0) := hA 0 (by simp)
 have c : a.tmps.getD 1 undef = (.int .i64 ((i : Nat) : Int)) := hA 1 (by simp)
 clear hA
 refine zF fun _ a => zH (zD rfl ?_)
 refine zB (a _ _ (zF fun _ a => zH (zG (zC hN rfl b) (zG (zC hN rfl c) (zj ok84 (ofWait_ret zx hn hi hc hx O hL hW hQ) ⟨(zA hN rfl), ⟨(zA hN rfl), ⟨rfl, trivial⟩⟩⟩ ?_)))))
 rintro _ c ⟨b, rfl⟩
 have b := zQ b
 obtain ⟨hb, _⟩ := yE hb b
 refine zD (zA hN rfl) (zB (a _ _ (wp_ret (ret1 rfl hd (zA hN rfl) ⟨_, rfl, ?_⟩))))
 exact ⟨hb, rfl⟩

theorem DoneIn {C : List KC} {n i k m p base : Nat} {lv la ow : Value} {l o : List UInt16} {T : List (List UInt8)} {Fi : Nat → Prop} {w : World} (hbase : base ≤ w.heap.size) (hn : n ≤ 6) (hi : i < n) (hc : C.length = n ∧ C.getD i default = ⟨la, ow, p, Fi⟩) (hx : Bx w k 134 [lv, .map (some m)]) (O : Own w base 137 3 lv n (C.flatMap cellsK)) (hL : Own w base 46 1 la l.length (l.map u16v)) (hW : Own w base 46 1 ow o.length (o.map u16v)) (hQ : PostS w base p 16 T Fi) : Ret Try.prog 42 #[(ptr k 0), (.int .i64 ((i : Nat) : Int))] w (fun v' w' => Gr w w' Fi ∧ v' = .bool (decide (0 < T.length)) ∧ ∃ F', PostS w' base p 16 (T.drop 1) F' ∧ NewF w.heap.size Fi F') := by
 have hb := Gr.refl w Fi
 refine enter (N := 8) Try.func42 rfl rfl (by simp) fun a hN hd hA => ?_
 have b : a.tmps.getD 0 undef = (ptr k 0) := hA 0 (by simp)
 have c : a.tmps.getD 1 undef = (.int .i64 ((i : Nat) : Int)) := hA 1 (by simp)
 clear hA
 refine zF fun _ a => zH (zD rfl ?_)
 refine zB (a _ _ (zF fun _ a => zH (zG (zC hN rfl b) (zG (zC hN rfl c) (zj ok88 (ofDone_ret zx hn hi hc hx O hL hW hQ) ⟨(zA hN rfl), ⟨(zA hN rfl), ⟨rfl, trivial⟩⟩⟩ ?_)))))
 rintro _ f ⟨b, rfl, d, e, c⟩
 have f := hx.lt
 have f := O.lt
 have f := hL.lt
 have f := hW.lt
 have := b.size
 have hb := hb.stepF b (fun _ _ h => h)
 refine zD (zA hN rfl) (zB (a _ _ (wp_ret (ret1 rfl hd (zA hN rfl) ⟨_, rfl, ?_⟩))))
 exact ⟨hb, rfl, d, e, c⟩

theorem HeadIn {C : List KC} {n i k m p base : Nat} {lv la ow : Value} {l o : List UInt16} {T : List (List UInt8)} {Fi : Nat → Prop} {w : World} (hbase : base ≤ w.heap.size) (hn : n ≤ 6) (hi : i < n) (hc : C.length = n ∧ C.getD i default = ⟨la, ow, p, Fi⟩) (hx : Bx w k 134 [lv, .map (some m)]) (O : Own w base 137 3 lv n (C.flatMap cellsK)) (hL : Own w base 46 1 la l.length (l.map u16v)) (hW : Own w base 46 1 ow o.length (o.map u16v)) (hQ : PostS w base p 16 T Fi) : Ret Try.prog 41 #[(ptr k 0), (.int .i64 ((i : Nat) : Int))] w (fun v' w' => Gr w w' Fi ∧ v' = .tuple #[.string (bs (T.getD 0 [])), .bool (decide (0 < T.length))] ∧ ∃ F', PostS w' base p 16 T F' ∧ NewF w.heap.size Fi F') := by
 have a : ¬ Fi k := hQ.notBx hx zz zz
 have b : Dj (Bl lv) Fi := hQ.notOwn O zz zz
 have c : Dj (Bl la) Fi := hQ.notOwn hL zz zz
 have d : Dj (Bl ow) Fi := hQ.notOwn hW zz zz
 have hxl := hx.lt
 have hb := Gr.refl w Fi
 refine enter (N := 14) Try.func41 rfl rfl (by simp) fun e hN hd hA => ?_
 have f : e.tmps.getD 0 undef = (ptr k 0) := hA 0 (by simp)
 have g : e.tmps.getD 1 undef = (.int .i64 ((i : Nat) : Int)) := hA 1 (by simp)
 clear hA
 refine zF fun _ h => zH (zD rfl (zD rfl (zB (h _ _ (zF fun _ h => zH (op_alloc (cs := [(.bool false)]) zero4 rfl ?_))))))
 intro v s u t q j
 have y : ¬ Fi s := fun hf => by have := (hQ.lt _ hf).2; omega
 obtain ⟨hb, _⟩ := yG hb j
 have hx := hx.keep0 j
 have O := O.keep0 j
 have hL := hL.keep0 j
 have hW := hW.keep0 j
 have hQ := hQ.kz j
 refine zB ?_
 refine h _ _ (zF fun _ h => zH (zG (zC hN rfl f) (zG (zC hN rfl g) (op_mkfn (cv := [(ptr s 0)]) ⟨(zA hN rfl), trivial⟩ (zj ok86 (ofHead_ret zx hn hi hc hx O hL hW hQ y zx q) ⟨(zA hN rfl), ⟨(zA hN rfl), ⟨(zA hN rfl), trivial⟩⟩⟩ ?_)))))
 rintro _ F ⟨B, rfl, z, D, A, E⟩
 have G := hx.lt
 have H := O.lt
 have I := hL.lt
 have J := hW.lt
 have K := q.lt
 have L : ¬ (fun x => Fi x ∨ x = s) k := fun hy => by
   rcases hy with hy | hy
   · exact a hy
   · exact hx.ne q zz hy
 have M : Dj (Bl lv) (fun x => Fi x ∨ x = s) := fun x hx hy => by
   rcases hy with hy | rfl
   · exact b x hx hy
   · exact O.neB q zz hx
 have P : Dj (Bl la) (fun x => Fi x ∨ x = s) := fun x hx hy => by
   rcases hy with hy | rfl
   · exact c x hx hy
   · exact hL.neB q zz hx
 have Q : Dj (Bl ow) (fun x => Fi x ∨ x = s) := fun x hx hy => by
   rcases hy with hy | rfl
   · exact d x hx hy
   · exact hW.neB q zz hx
 have := B.size
 have hx := hx.keepG B L
 have hb := hb.stepF B (fun x hx hy => by
   rcases hy with hy | rfl
   · exact hy
   · omega)
 refine zD (zA hN rfl) (zB (h _ _ (zF fun _ h => reg_still mixed zy ?_)))
 intro b a
 obtain ⟨hb, _⟩ := yG hb a
 have A := A.kz a
 have z := z.keep0 a
 refine st_step rfl (fun _ a => zG (zA hN rfl) a) (st_step rfl (fun _ a => zN one4 (zA hN rfl) (z.cell rfl) a) (st_step rfl (fun _ a => zD (zA hN rfl) a) (st_step rfl (fun _ a => zD (zA hN rfl) a) (st_nil (h _ _ (wp_ret (ret2 rfl hd (zA hN rfl) (zA hN rfl) ⟨_, rfl, ?_⟩)))))))
 exact ⟨hb, rfl, D, A, E.mono zx⟩

theorem SayIn (x : List UInt8) {C : List KC} {n i k m p base : Nat} {lv la ow : Value} {l o : List UInt16} {T : List (List UInt8)} {Fi : Nat → Prop} {w : World} (hbase : base ≤ w.heap.size) (hn : n ≤ 6) (hi : i < n) (hc : C.length = n ∧ C.getD i default = ⟨la, ow, p, Fi⟩) (hx : Bx w k 134 [lv, .map (some m)]) (O : Own w base 137 3 lv n (C.flatMap cellsK)) (hL : Own w base 46 1 la l.length (l.map u16v)) (hW : Own w base 46 1 ow o.length (o.map u16v)) (hQ : PostS w base p 16 T Fi) : Ret Try.prog 40 #[(ptr k 0), (.int .i64 ((i : Nat) : Int)), (.string (bs x))] w (fun v' w' => Gr w w' Fi ∧ v' = .int .i64 (if T.length < 16 then 0 else 25) ∧ PostS w' base p 16 (postL 16 T x) Fi) := by
 have hb := Gr.refl w Fi
 refine enter (N := 34) Try.func40 rfl rfl (by simp) fun a hN hd hA => ?_
 have c : a.tmps.getD 0 undef = (ptr k 0) := hA 0 (by simp)
 have d : a.tmps.getD 1 undef = (.int .i64 ((i : Nat) : Int)) := hA 1 (by simp)
 have e : a.tmps.getD 2 undef = (.string (bs x)) := hA 2 (by simp)
 clear hA
 refine zF fun _ a => zH (zD rfl (zB (a _ _ (zF fun _ a => wp_block ?_))))
 refine zF fun _ f => zH (zG (zC hN rfl c) (op_peq_some ptrt50 (zA hN rfl) rfl (zD (zA hN rfl) (zB (f _ _ (wp_cond_false (zA hN rfl) (zF fun _ f => zH (zG (zC hN rfl d) (op_lss (zA hN rfl) rfl (fun g => ?_) (fun g => ?_))))))))))
 ·
  exfalso; omega
 refine zG (zA hN rfl) (zS (j := 2) (dj := 13) (b := false) rfl rfl rfl (zA hN rfl) (zG (zC hN rfl d) (zS (j := 2) (dj := 13) (b := false) rfl rfl rfl (zA hN rfl) ?_)))
 refine zG (zC hN rfl c) (zS (j := 2) (dj := 13) (b := false) rfl rfl rfl (zA hN rfl) (op_nil (zA hN rfl) (zS (j := 2) (dj := 13) (b := false) rfl rfl rfl (zA hN rfl) (zM fld134_0 (zA hN rfl) (zS (j := 2) (dj := 13) (b := false) rfl rfl rfl (zA hN rfl) (zN one132 (zA hN rfl) (hx.cell rfl) (zS (j := 2) (dj := 13) (b := false) rfl rfl rfl (zA hN rfl) (op_len_rd Try.underlying132 (zA hN rfl) O.rdw (zS (j := 2) (dj := 13) (b := false) rfl rfl rfl (zA hN rfl) (op_geq (zA hN rfl) (zA hN rfl) (fun g => ?_) (fun g => ?_)))))))))))
 ·
  exfalso; omega
 refine zd (zA hN rfl) (zA hN rfl) (zD (zA hN rfl) (zB (f _ _ (wp_cond_false (zA hN rfl) (zF fun _ f => zH (zG (zC hN rfl c) (op_nil (zA hN rfl) (zM fld134_0 (zA hN rfl) (zN one132 (zA hN rfl) (hx.cell rfl) (zG (zC hN rfl d) (zh slt132 (zA hN rfl) O.rdw (zA hN rfl) zx zx ?_)))))))))))
 intro s q d g c
 refine zM fld137_2 (zA hN rfl) (zN (v := (ptr p 0)) one24 (zA hN rfl) (c 2 _ zz ((el_kc hc zx zx) 2 _ rfl)) (zG (zC hN rfl e) (zj ok18 (PutR_s x zx hQ) ⟨(zA hN rfl), ⟨(zA hN rfl), trivial⟩⟩ ?_)))
 rintro _ e ⟨d, rfl, c⟩
 have := d.size
 have hb := hb.stepF d (fun _ _ h => h)
 refine op_not (zA hN rfl) (zD (zA hN rfl) (zB (f _ _ (wp_cond_split (zA hN rfl) (fun d => ?_) (fun d => ?_)))))
 ·
  refine zF fun _ f => zH (zD rfl (zB (f _ _ (wp_ret (zb (zO ( (ret1 rfl hd (zA hN rfl) ⟨_, rfl, ?_⟩))))))))
  exact ⟨hb, congrArg (Value.int .i64) (if_neg (by have := d; simp at this; omega)).symm, c⟩
 refine wp_skip (a _ _ (zF fun _ a => zH (zD rfl (zB (a _ _ (wp_ret (ret1 rfl hd (zA hN rfl) ⟨_, rfl, ?_⟩)))))))
 exact ⟨hb, congrArg (Value.int .i64) (if_pos (by have := d; simp at this; omega)).symm, c⟩

theorem LabelOut {C : List KC} {n k m base : Nat} {lv : Value} {s : Int}  {w : World} (hbase : base ≤ w.heap.size) (hn : n ≤ 6) (hC : C.length = n) (hx : Bx w k 134 [lv, .map (some m)]) (O : Own w base 137 3 lv n (C.flatMap cellsK)) (hs : s < 0 ∨ (n : Int) ≤ s) : Ret Try.prog 37 #[(ptr k 0), (.int .i64 s)] w (fun v' w' => Below w.heap.size w w' ∧ v' = .slice none 0 0) := by
 have hb := Below.refl w.heap.size w
 refine enter (N := 8) Try.func37 rfl rfl (by simp) fun a hN hd hA => ?_
 have b : a.tmps.getD 0 undef = (ptr k 0) := hA 0 (by simp)
 have c : a.tmps.getD 1 undef = (.int .i64 s) := hA 1 (by simp)
 clear hA
 refine zF fun _ a => zH (zD rfl ?_)
 refine zB (a _ _ (zF fun _ a => zH (zG (zC hN rfl b) (zG (zC hN rfl c) (zj ok81 (ofLabelOut_ret (base := base) zx hn hC hx O zx) ⟨(zA hN rfl), ⟨(zA hN rfl), ⟨rfl, trivial⟩⟩⟩ ?_)))))
 rintro _ c ⟨b, rfl⟩
 have b := zQ b
 obtain ⟨hb, _⟩ := yE hb b
 refine zD (zA hN rfl) (zB (a _ _ (wp_ret (ret1 rfl hd (zA hN rfl) ⟨_, rfl, ?_⟩))))
 exact ⟨hb, rfl⟩

theorem OwnsOut {C : List KC} {n k m base : Nat} {lv : Value} {s : Int}  {w : World} (hbase : base ≤ w.heap.size) (hn : n ≤ 6) (hC : C.length = n) (hx : Bx w k 134 [lv, .map (some m)]) (O : Own w base 137 3 lv n (C.flatMap cellsK)) (hs : s < 0 ∨ (n : Int) ≤ s) : Ret Try.prog 38 #[(ptr k 0), (.int .i64 s)] w (fun v' w' => Below w.heap.size w w' ∧ v' = .slice none 0 0) := by
 have hb := Below.refl w.heap.size w
 refine enter (N := 8) Try.func38 rfl rfl (by simp) fun a hN hd hA => ?_
 have b : a.tmps.getD 0 undef = (ptr k 0) := hA 0 (by simp)
 have c : a.tmps.getD 1 undef = (.int .i64 s) := hA 1 (by simp)
 clear hA
 refine zF fun _ a => zH (zD rfl ?_)
 refine zB (a _ _ (zF fun _ a => zH (zG (zC hN rfl b) (zG (zC hN rfl c) (zj ok81 (ofLabelOut_ret (base := base) zx hn hC hx O zx) ⟨(zA hN rfl), ⟨(zA hN rfl), ⟨rfl, trivial⟩⟩⟩ ?_)))))
 rintro _ c ⟨b, rfl⟩
 have b := zQ b
 obtain ⟨hb, _⟩ := yE hb b
 refine zD (zA hN rfl) (zB (a _ _ (wp_ret (ret1 rfl hd (zA hN rfl) ⟨_, rfl, ?_⟩))))
 exact ⟨hb, rfl⟩

theorem WaitOut {C : List KC} {n k m base : Nat} {lv : Value} {s : Int}  {w : World} (hbase : base ≤ w.heap.size) (hn : n ≤ 6) (hC : C.length = n) (hx : Bx w k 134 [lv, .map (some m)]) (O : Own w base 137 3 lv n (C.flatMap cellsK)) (hs : s < 0 ∨ (n : Int) ≤ s) : Ret Try.prog 39 #[(ptr k 0), (.int .i64 s)] w (fun v' w' => Below w.heap.size w w' ∧ v' = .int .i64 0) := by
 have hb := Below.refl w.heap.size w
 refine enter (N := 8) Try.func39 rfl rfl (by simp) fun a hN hd hA => ?_
 have b : a.tmps.getD 0 undef = (ptr k 0) := hA 0 (by simp)
 have c : a.tmps.getD 1 undef = (.int .i64 s) := hA 1 (by simp)
 clear hA
 refine zF fun _ a => zH (zD rfl ?_)
 refine zB (a _ _ (zF fun _ a => zH (zG (zC hN rfl b) (zG (zC hN rfl c) (zj ok84 (ofIntOut_ret (base := base) zx hn hC hx O zx) ⟨(zA hN rfl), ⟨(zA hN rfl), ⟨rfl, trivial⟩⟩⟩ ?_)))))
 rintro _ c ⟨b, rfl⟩
 have b := zQ b
 obtain ⟨hb, _⟩ := yE hb b
 refine zD (zA hN rfl) (zB (a _ _ (wp_ret (ret1 rfl hd (zA hN rfl) ⟨_, rfl, ?_⟩))))
 exact ⟨hb, rfl⟩

theorem DoneOut {C : List KC} {n k m base : Nat} {lv : Value} {s : Int}  {w : World} (hbase : base ≤ w.heap.size) (hn : n ≤ 6) (hC : C.length = n) (hx : Bx w k 134 [lv, .map (some m)]) (O : Own w base 137 3 lv n (C.flatMap cellsK)) (hs : s < 0 ∨ (n : Int) ≤ s) : Ret Try.prog 42 #[(ptr k 0), (.int .i64 s)] w (fun v' w' => Below w.heap.size w w' ∧ v' = .bool false) := by
 have hb := Below.refl w.heap.size w
 refine enter (N := 8) Try.func42 rfl rfl (by simp) fun a hN hd hA => ?_
 have b : a.tmps.getD 0 undef = (ptr k 0) := hA 0 (by simp)
 have c : a.tmps.getD 1 undef = (.int .i64 s) := hA 1 (by simp)
 clear hA
 refine zF fun _ a => zH (zD rfl ?_)
 refine zB (a _ _ (zF fun _ a => zH (zG (zC hN rfl b) (zG (zC hN rfl c) (zj ok88 (ofBoolOut_ret (base := base) zx hn hC hx O zx) ⟨(zA hN rfl), ⟨(zA hN rfl), ⟨rfl, trivial⟩⟩⟩ ?_)))))
 rintro _ c ⟨b, rfl⟩
 have b := zQ b
 obtain ⟨hb, _⟩ := yE hb b
 refine zD (zA hN rfl) (zB (a _ _ (wp_ret (ret1 rfl hd (zA hN rfl) ⟨_, rfl, ?_⟩))))
 exact ⟨hb, rfl⟩

theorem HeadOut {C : List KC} {n k m base : Nat} {lv : Value} {s : Int}  {w : World} (hbase : base ≤ w.heap.size) (hn : n ≤ 6) (hC : C.length = n) (hx : Bx w k 134 [lv, .map (some m)]) (O : Own w base 137 3 lv n (C.flatMap cellsK)) (hs : s < 0 ∨ (n : Int) ≤ s) : Ret Try.prog 41 #[(ptr k 0), (.int .i64 s)] w (fun v' w' => Below w.heap.size w w' ∧ v' = .tuple #[.string (bs []), .bool false]) := by
 have hb := Below.refl w.heap.size w
 refine enter (N := 14) Try.func41 rfl rfl (by simp) fun a hN hd hA => ?_
 have b : a.tmps.getD 0 undef = (ptr k 0) := hA 0 (by simp)
 have c : a.tmps.getD 1 undef = (.int .i64 s) := hA 1 (by simp)
 clear hA
 refine zF fun _ a => zH (zD rfl (zD rfl (zB (a _ _ (zF fun _ a => zH (op_alloc (cs := [(.bool false)]) zero4 rfl ?_))))))
 intro j f g h e d
 obtain ⟨hb, _⟩ := yE hb d
 have hx := hx.keep0 d
 have O := O.keep0 d
 refine zB ?_
 refine a _ _ (zF fun _ a => zH (zG (zC hN rfl b) (zG (zC hN rfl c) (op_mkfn (cv := [(ptr f 0)]) ⟨(zA hN rfl), trivial⟩ (zj ok86 (ofStrOut_ret (base := base) zx hn hC hx O zx) ⟨(zA hN rfl), ⟨(zA hN rfl), ⟨(zA hN rfl), trivial⟩⟩⟩ ?_)))))
 rintro _ c ⟨b, rfl⟩
 have b := zQ b
 obtain ⟨hb, _⟩ := yE hb b
 refine zD (zA hN rfl) (zB (a _ _ (zF fun _ a => reg_still mixed zy ?_)))
 intro d c
 obtain ⟨hb, _⟩ := yE hb c
 have e := (e.keep0 b).keep0 c
 refine st_step rfl (fun _ b => zG (zA hN rfl) b) (st_step rfl (fun _ b => zN one4 (zA hN rfl) (e.cell rfl) b) (st_step rfl (fun _ b => zD (zA hN rfl) b) (st_step rfl (fun _ b => zD (zA hN rfl) b) (st_nil (a _ _ (wp_ret (ret2 rfl hd (zA hN rfl) (zA hN rfl) ⟨_, rfl, ?_⟩)))))))
 exact ⟨hb, rfl⟩

theorem SayOut (x : List UInt8) {C : List KC} {n k m base : Nat} {lv : Value} {s : Int}  {w : World} (hbase : base ≤ w.heap.size) (hn : n ≤ 6) (hC : C.length = n) (hx : Bx w k 134 [lv, .map (some m)]) (O : Own w base 137 3 lv n (C.flatMap cellsK)) (hs : s < 0 ∨ (n : Int) ≤ s) : Ret Try.prog 40 #[(ptr k 0), (.int .i64 s), (.string (bs x))] w (fun v' w' => Below w.heap.size w w' ∧ v' = .int .i64 22) := by
 have hb := Below.refl w.heap.size w
 refine enter (N := 34) Try.func40 rfl rfl (by simp) fun a hN hd hA => ?_
 have c : a.tmps.getD 0 undef = (ptr k 0) := hA 0 (by simp)
 have d : a.tmps.getD 1 undef = (.int .i64 s) := hA 1 (by simp)
 clear hA
 refine zF fun _ a => zH (zD rfl (zB (a _ _ (zF fun _ a => wp_block ?_))))
 refine zF fun _ a => zH (zG (zC hN rfl c) (op_peq_some ptrt50 (zA hN rfl) rfl (zD (zA hN rfl) (zB (a _ _ (wp_cond_false (zA hN rfl) (zF fun _ a => zH (zG (zC hN rfl d) (op_lss (zA hN rfl) rfl (fun e => ?_) (fun e => ?_))))))))))
 ·
  refine zG (zA hN rfl) (zR (j := 2) (dj := 13) (b := false) rfl rfl rfl (zA hN rfl) rfl rfl (zR (j := 2) (dj := 13) (b := false) rfl rfl rfl (zA hN rfl) rfl rfl (zR (j := 2) (dj := 13) (b := false) rfl rfl rfl (zA hN rfl) rfl rfl (zR (j := 2) (dj := 13) (b := false) rfl rfl rfl (zA hN rfl) rfl rfl (zR (j := 2) (dj := 13) (b := false) rfl rfl rfl (zA hN rfl) rfl rfl (zR (j := 2) (dj := 13) (b := false) rfl rfl rfl (zA hN rfl) rfl rfl ?_))))))
  refine zR (j := 2) (dj := 13) (b := false) rfl rfl rfl (zA hN rfl) rfl rfl (zc (zA hN rfl) rfl (zD (zA hN rfl) (zB (a _ _ (wp_cond_true (zA hN rfl) (zF fun _ a => zH (zD rfl (zB (a _ _ (wp_ret (zb (zO ( (ret1 rfl hd (zA hN rfl) ⟨_, rfl, ?_⟩))))))))))))))
  exact ⟨hb, rfl⟩
 refine zG (zA hN rfl) (zS (j := 2) (dj := 13) (b := false) rfl rfl rfl (zA hN rfl) (zG (zC hN rfl d) (zS (j := 2) (dj := 13) (b := false) rfl rfl rfl (zA hN rfl) ?_)))
 refine zG (zC hN rfl c) (zS (j := 2) (dj := 13) (b := false) rfl rfl rfl (zA hN rfl) (op_nil (zA hN rfl) (zS (j := 2) (dj := 13) (b := false) rfl rfl rfl (zA hN rfl) (zM fld134_0 (zA hN rfl) (zS (j := 2) (dj := 13) (b := false) rfl rfl rfl (zA hN rfl) (zN one132 (zA hN rfl) (hx.cell rfl) (zS (j := 2) (dj := 13) (b := false) rfl rfl rfl (zA hN rfl) (op_len_rd Try.underlying132 (zA hN rfl) O.rdw (zS (j := 2) (dj := 13) (b := false) rfl rfl rfl (zA hN rfl) (op_geq (zA hN rfl) (zA hN rfl) (fun d => ?_) (fun d => ?_)))))))))))
 ·
  refine zd (zA hN rfl) (zA hN rfl) (zD (zA hN rfl) (zB (a _ _ (wp_cond_true (zA hN rfl) (zF fun _ a => zH (zD rfl (zB (a _ _ (wp_ret (zb (zO ( (ret1 rfl hd (zA hN rfl) ⟨_, rfl, ?_⟩)))))))))))))
  exact ⟨hb, rfl⟩
 exfalso; omega
open Go.Sort (bitsLen)
open Go.Sort (bitsLen)
open Go.Sort (bitsLen)
set_option maxHeartbeats 2000000 in
theorem rallW_ret (l : Lb) (v : Value) (w : World) (hz : l.length ≤ 1000000000000) (hl : RdC w 0 w.heap.size 1 v l.length (l.map u16v)) : Ret Try.prog 92 #[v] w (fun v' w' => Below w.heap.size w w' ∧ Own w' w.heap.size 46 1 v' (nrm l).length ((nrm l).map u16v)) := by
 have hb := Below.refl w.heap.size w
 refine enter (N := 60) Try.func92 rfl rfl (by simp) fun a hN hd hA => ?_
 have d : a.tmps.getD 0 undef = v := hA 0 (by simp)
 clear hA
 refine zF fun _ f => zH (zD rfl (zB (f _ _ (zF fun _ f => ?_))))
 refine zH (zD rfl (zB (f _ _ (zF fun _ f => zF fun _ g => zH (zD rfl (zB (g _ _ (wp_block (loop_m (fun mz_ az_ w' => ∃ (i : Nat) (r : Value), mz_ = l.length - i ∧ (Sl az_ 0 v) ∧ (Sl az_ 2 (.slice none 0 0)) ∧ (Sl az_ 4 (.int .i64 ((i : Nat) : Int))) ∧ (Sl az_ 3 r) ∧ (i ≤ l.length) ∧ ((nrm (l.take i)).length ≤ i) ∧ (Below w.heap.size w w') ∧ (w.heap.size ≤ w'.heap.size) ∧ (RdC w' 0 w.heap.size 1 v l.length (l.map u16v)) ∧ (Own w' w.heap.size 46 1 r (nrm (l.take i)).length ((nrm (l.take i)).map u16v))) _ hN hd ⟨0, _, rfl, (zL hN rfl d), (zU hN rfl), (zU hN rfl).trans (congrArg (Value.int .i64) zx), (zU hN rfl), Nat.zero_le _, (by simp [nrm]), hb, (Nat.le_refl _), hl, (Own.nil _ _ _ _)⟩ ?_)))))))))
 rintro _ D o p t ⟨i, r, rfl, z, A, y, s, hi, hfl, hb, B, hl, m⟩
 have := hb.size
 refine zF fun _ g => zF fun _ F => zH (zG (zC p rfl y) (zG (zC p rfl z) (op_len_rd Try.underlying45 (zA p rfl) hl (op_lss (zA p rfl) (zA p rfl) (fun G => ?_) (fun G => ?_)))))
 ·
  refine zB (F _ _ (wp_cond_true (zA p rfl) (wp_skip (g _ _ (zF fun _ g => wp_block (zF fun _ F => zH (zD rfl (zB (F _ _ (zF fun _ F => wp_block (loop_m (fun mz_ az_ w' => ∃ (jj : Nat), mz_ = (nrm (l.take i)).length - jj ∧ (Sl az_ 0 v) ∧ (Sl az_ 2 (.slice none 0 0)) ∧ (Sl az_ 3 r) ∧ (Sl az_ 4 (.int .i64 ((i : Nat) : Int))) ∧ (Sl az_ 5 (.int .i64 ((jj : Nat) : Int))) ∧ (jj ≤ (nrm (l.take i)).length) ∧ (∀ I, I < jj → ((nrm (l.take i)).getD I 0).toNat < (l.getD i 0).toNat) ∧ (Below w.heap.size w w') ∧ (o.heap.size ≤ w'.heap.size) ∧ (RdC w' 0 w.heap.size 1 v l.length (l.map u16v)) ∧ (Own w' w.heap.size 46 1 r (nrm (l.take i)).length ((nrm (l.take i)).map u16v))) _ p t ⟨0, rfl, (zL p rfl z), (zL p rfl A), (zL p rfl s), (zL p rfl y), (zU p rfl).trans (congrArg (Value.int .i64) zx), Nat.zero_le _, (fun I H => absurd H (Nat.not_lt_zero _)), hb, (Nat.le_refl _), hl, m⟩ ?_)))))))))))
  rintro _ R S J Q ⟨jj, rfl, O, P, L, M, K, hj, hlt, hb, T, hl, m⟩
  have := hb.size
  refine zF fun _ V => zF fun _ U => reg_still mixed zy ?_
  intro X W
  obtain ⟨hb, _⟩ := yE hb W
  have hl := hl.keep0 W
  have m := m.keep0 W
  refine st_step rfl (fun _ H => zG (zC J rfl K) H) (st_step rfl (fun _ H => zG (zC J rfl L) H) (st_step rfl (fun _ H => op_len_rd Try.underlying54 (zA J rfl) m.rdw H) ?_))
  by_cases Y : ((jj : Nat) : Int) < (((nrm (l.take i)).length : Nat) : Int)
  ·
   refine st_step rfl (fun _ H => op_cmp (b := true) (zA J rfl) (zA J rfl) (b_lss (decide_eq_true Y)) H) (st_step rfl (fun _ H => zG (zA J rfl) H) (st_g_true (j := 4) (dj := 16) (b := true) rfl rfl rfl (zA J rfl) (st_step rfl (fun _ H => zG (zC J rfl L) H) (st_g_true (j := 4) (dj := 16) (b := true) rfl rfl rfl (zA J rfl) (st_step rfl (fun _ H => zG (zC J rfl K) H) (st_g_true (j := 4) (dj := 16) (b := true) rfl rfl rfl (zA J rfl) (st_index_rd slt54 (zA J rfl) m.rdw (zA J rfl) zx zx ?_)))))))
   intro b6 o7 ab aa Z
   refine st_g_true (j := 4) (dj := 16) (b := true) rfl rfl rfl (zA J rfl) (st_step rfl (fun _ H => zN (v := (Value.int .u16 (((nrm (l.take i)).getD jj 0).toNat : Int))) one46 (zA J rfl) (by have := Z 0 (.int .u16 (((nrm (l.take i)).getD jj 0).toNat : Int)) zz (el_u16 (i := jj) zx zx); simpa using this) H) (st_g_true (j := 4) (dj := 16) (b := true) rfl rfl rfl (zA J rfl) (st_step rfl (fun _ H => zG (zC J rfl O) H) (st_g_true (j := 4) (dj := 16) (b := true) rfl rfl rfl (zA J rfl) (st_step rfl (fun _ H => zG (zC J rfl M) H) (st_g_true (j := 4) (dj := 16) (b := true) rfl rfl rfl (zA J rfl) (st_index_rd slt45 (zA J rfl) hl (zA J rfl) zx zx ?_)))))))
   intro b9 ae af ad ac
   refine st_g_true (j := 4) (dj := 16) (b := true) rfl rfl rfl (zA J rfl) (st_step rfl (fun _ H => zN (v := (Value.int .u16 ((l.getD i 0).toNat : Int))) one46 (zA J rfl) (by have := ac 0 (.int .u16 ((l.getD i 0).toNat : Int)) zz (el_u16 (i := i) zx zx); simpa using this) H) (st_g_true (j := 4) (dj := 16) (b := true) rfl rfl rfl (zA J rfl) (st_step rfl (fun _ H => op_cmp (b := (decide ((((nrm (l.take i)).getD jj 0).toNat : Int) < ((l.getD i 0).toNat : Int)))) (zA J rfl) (zA J rfl) (b_lss rfl) H) (st_step rfl (fun _ H => zc (zA J rfl) (zA J rfl) H) (st_nil (U _ _ (wp_cond_split (zA J rfl) (fun ag => ?_) (fun ag => ?_))))))))
   ·
    have ag := of_decide_eq_true ag
    refine wp_skip (V _ _ (wp_block (zH (zG (zC J rfl K) (op_add (zA J rfl) rfl (add64 zx) (zD (zA J rfl) (zB (blk_normal ?_))))))))
    -- round 9T 15T 26T
    exact zg _ J Q ⟨jj + 1, rfl, (zL J rfl O), (zL J rfl P), (zL J rfl L), (zL J rfl M), (zU J rfl).trans (congrArg (Value.int .i64) zx), zx, (lt_step hlt zx), hb, zx, hl, m⟩ zx
   have ag := of_decide_eq_false ag
   refine wp_exit (then_exit (then_exit (blk_hit (F _ _ (seq_join1 (N := 60) (fun az_ w' => (Sl az_ 0 v) ∧ (Sl az_ 2 (.slice none 0 0)) ∧ (Sl az_ 3 r) ∧ (Sl az_ 4 (.int .i64 ((i : Nat) : Int))) ∧ (Sl az_ 5 (.int .i64 ((jj : Nat) : Int))) ∧ (Sl az_ 43 (.bool (decide (jj = (nrm (l.take i)).length ∨ ((nrm (l.take i)).getD jj 0).toNat ≠ (l.getD i 0).toNat)))) ∧ (Below w.heap.size w w') ∧ (X.heap.size ≤ w'.heap.size) ∧ (RdC w' 0 w.heap.size 1 v l.length (l.map u16v)) ∧ (Own w' w.heap.size 46 1 r (nrm (l.take i)).length ((nrm (l.take i)).map u16v))) (fun ah => ?_) ?_)))))
   ·
    refine zF fun _ F => reg_still mixed zy ?_
    intro aj ai
    obtain ⟨hb, _⟩ := yE hb ai
    have hl := hl.keep0 ai
    have m := m.keep0 ai
    refine st_step rfl (fun _ H => zG (zC J rfl K) H) (st_step rfl (fun _ H => zG (zC J rfl L) H) (st_step rfl (fun _ H => op_len_rd Try.underlying54 (zA J rfl) m.rdw H) ?_))
    by_cases ai : ((jj : Nat) : Int) = (((nrm (l.take i)).length : Nat) : Int)
    ·
     refine st_step rfl (fun _ H => op_cmp (b := true) (zA J rfl) (zA J rfl) (b_eql (decide_eq_true ai)) H) (st_step rfl (fun _ H => zG (zA J rfl) H) (st_g_false (j := 4) (dj := 33) (b := false) rfl rfl rfl (zA J rfl) rfl rfl (st_g_false (j := 4) (dj := 33) (b := false) rfl rfl rfl (zA J rfl) rfl rfl ?_)))
     refine st_g_false (j := 4) (dj := 33) (b := false) rfl rfl rfl (zA J rfl) rfl rfl (st_g_false (j := 4) (dj := 33) (b := false) rfl rfl rfl (zA J rfl) rfl rfl (st_g_false (j := 4) (dj := 33) (b := false) rfl rfl rfl (zA J rfl) rfl rfl (st_g_false (j := 4) (dj := 33) (b := false) rfl rfl rfl (zA J rfl) rfl rfl (st_g_false (j := 4) (dj := 33) (b := false) rfl rfl rfl (zA J rfl) rfl rfl (st_g_false (j := 4) (dj := 33) (b := false) rfl rfl rfl (zA J rfl) rfl rfl (st_g_false (j := 4) (dj := 33) (b := false) rfl rfl rfl (zA J rfl) rfl rfl (st_step rfl (fun _ H => zc (zA J rfl) rfl H) (st_nil (F _ _ ?_)))))))))
     exact ah _ _ _ J Q ⟨(zL J rfl O), (zL J rfl P), (zL J rfl L), (zL J rfl M), (zL J rfl K), (zU J rfl).trans (congrArg Value.bool (decide_eq_true zx).symm), hb, zx, hl, m⟩
    refine st_step rfl (fun _ H => op_cmp (b := false) (zA J rfl) (zA J rfl) (b_eql (decide_eq_false ai)) H) (st_step rfl (fun _ H => zG (zA J rfl) H) (st_g_true (j := 4) (dj := 33) (b := false) rfl rfl rfl (zA J rfl) (st_step rfl (fun _ H => zG (zC J rfl L) H) (st_g_true (j := 4) (dj := 33) (b := false) rfl rfl rfl (zA J rfl) (st_step rfl (fun _ H => zG (zC J rfl K) H) (st_g_true (j := 4) (dj := 33) (b := false) rfl rfl rfl (zA J rfl) (st_index_rd slt54 (zA J rfl) m.rdw (zA J rfl) zx zx ?_)))))))
    intro am ak al an aj
    refine st_g_true (j := 4) (dj := 33) (b := false) rfl rfl rfl (zA J rfl) (st_step rfl (fun _ H => zN (v := (Value.int .u16 (((nrm (l.take i)).getD jj 0).toNat : Int))) one46 (zA J rfl) (by have := aj 0 (.int .u16 (((nrm (l.take i)).getD jj 0).toNat : Int)) zz (el_u16 (i := jj) zx zx); simpa using this) H) (st_g_true (j := 4) (dj := 33) (b := false) rfl rfl rfl (zA J rfl) (st_step rfl (fun _ H => zG (zC J rfl O) H) (st_g_true (j := 4) (dj := 33) (b := false) rfl rfl rfl (zA J rfl) (st_step rfl (fun _ H => zG (zC J rfl M) H) (st_g_true (j := 4) (dj := 33) (b := false) rfl rfl rfl (zA J rfl) (st_index_rd slt45 (zA J rfl) hl (zA J rfl) zx zx ?_)))))))
    intro al an am ak aj
    refine st_g_true (j := 4) (dj := 33) (b := false) rfl rfl rfl (zA J rfl) (st_step rfl (fun _ H => zN (v := (Value.int .u16 ((l.getD i 0).toNat : Int))) one46 (zA J rfl) (by have := aj 0 (.int .u16 ((l.getD i 0).toNat : Int)) zz (el_u16 (i := i) zx zx); simpa using this) H) (st_g_true (j := 4) (dj := 33) (b := false) rfl rfl rfl (zA J rfl) (st_step rfl (fun _ H => op_cmp (b := (decide ((((nrm (l.take i)).getD jj 0).toNat : Int) ≠ ((l.getD i 0).toNat : Int)))) (zA J rfl) (zA J rfl) (b_neq rfl) H) (st_step rfl (fun _ H => zd (zA J rfl) (zA J rfl) H) (st_nil (F _ _ ?_))))))
    exact ah _ _ _ J Q ⟨(zL J rfl O), (zL J rfl P), (zL J rfl L), (zL J rfl M), (zL J rfl K), (zU J rfl).trans (congrArg Value.bool (decide_eq_decide.2 zx)), hb, zx, hl, m⟩
   rintro au aj ak aq ⟨an, ap, al, am, ao, ar, hb, av, hl, m⟩
   have := hb.size
   refine wp_cond_split (zC ak rfl ar) (fun aw => ?_) (fun aw => ?_)
   ·
    have aw := of_decide_eq_true aw
    have ax := m
    refine reg_split (hd := [_, _, _, _, _, _, _, _, _, _, _, _, _, _]) (tl := _) 14 mixed zy rfl rfl ?_
    refine any_chain (Φ := phiC [chP 0, (fun _ _ uz _ => uz = r), (fun _ _ uz _ => uz = (.int .i64 ((jj : Nat) : Int))), (fun _ vz uz w' => ∃ (aC : Value), uz = aC ∧ RdC w' w.heap.size aj.heap.size 1 aC jj ((((nrm (l.take i)).take jj)).map u16v) ∧ (aj.heap.size ≤ w'.heap.size ∧ ∀ k, vz.ownBlock = some k → aj.heap.size ≤ k)), chP 1, (fun _ _ uz _ => uz = v), (fun _ _ uz _ => uz = (.int .i64 ((i : Nat) : Int))), (fun _ vz uz w' => ∃ (az : (Nat)) (aD : (Nat)), uz = (ptr az aD) ∧ PtC w' 0 w.heap.size az aD [(.int .u16 ((l.getD i 0).toNat : Int))] ∧ (w.heap.size ≤ w'.heap.size ∧ ∀ k, vz.ownBlock = some k → w.heap.size ≤ k)), (fun _ _ uz _ => uz = (.int .u16 ((l.getD i 0).toNat : Int))), (fun _ vz uz w' => ∃ (ay : Nat), uz = (.slice (some ⟨ay, 0, none⟩) 1 1) ∧ aj.heap.size ≤ ay ∧ Bx w' ay 46 [(.int .u16 ((l.getD i 0).toNat : Int))] ∧ vz.ownBlock ≠ some ay), chP 2, (fun _ _ uz _ => uz = r), (fun _ _ uz _ => uz = (.int .i64 ((jj : Nat) : Int))), (fun _ vz uz w' => ∃ (aB : Value), uz = aB ∧ RdC w' w.heap.size aj.heap.size 1 aB ((nrm (l.take i)).length - jj) ((((nrm (l.take i)).drop jj)).map u16v) ∧ (aj.heap.size ≤ w'.heap.size ∧ ∀ k, vz.ownBlock = some k → aj.heap.size ≤ k))]) (C := CL [(fun vz w' => Own w' w.heap.size 46 1 vz 0 ([])), (fun vz w' => Own w' w.heap.size 46 1 vz 0 ([])), (fun vz w' => Own w' w.heap.size 46 1 vz (0 + jj) ((((nrm (l.take i)).take jj)).map u16v)), (fun vz w' => Own w' w.heap.size 46 1 vz ((0 + jj) + 1) (((((nrm (l.take i)).take jj) ++ [(l.getD i 0)])).map u16v))]) ⟨[0, 4, 10], fun c => [60, 44, 48, 54].getD c 60⟩ (.slice none 0 0) zy zy zy zy ak (StK.get0 (n := 3) (StK.ch (StK.eq (StK.eq (StK.cons (fun c v u o w2 E h => by obtain ⟨x0, hv, f0, q0⟩ := h; exact ⟨x0, hv, f0.keep0 E, ⟨Nat.le_trans q0.1 E.size, q0.2⟩⟩) (fun c v v' u o w2 _ E h => by obtain ⟨x0, hv, f0, q0⟩ := h; exact ⟨x0, hv, f0.keep E.1 (fun k hk => .inr (q0.2 k hk)), ⟨Nat.le_trans q0.1 E.1.size, ge_step E q0.1 q0.2⟩⟩) (StK.ch (StK.eq (StK.eq (StK.cons (fun c v u o w2 E h => by obtain ⟨x0, x1, hv, f0, q0⟩ := h; exact ⟨x0, x1, hv, f0.keep0 E, ⟨Nat.le_trans q0.1 E.size, q0.2⟩⟩) (fun c v v' u o w2 _ E h => by obtain ⟨x0, x1, hv, f0, q0⟩ := h; exact ⟨x0, x1, hv, f0.keep E.1 (fun k hk => .inr (q0.2 k hk)), ⟨Nat.le_trans q0.1 E.1.size, ge_step E q0.1 q0.2⟩⟩) (StK.eq (StK.cons (fun c v u o w2 E h => by obtain ⟨x0, hv, l0, f0, q0⟩ := h; exact ⟨x0, hv, l0, f0.keep0 E, q0⟩) (fun c v v' u o w2 _ E h => by obtain ⟨x0, hv, l0, f0, q0⟩ := h; exact ⟨x0, hv, l0, f0.keep E.1 (fun hh => q0 hh.symm), ne_step E f0.lt q0⟩) (StK.ch (StK.eq (StK.eq (StK.cons (fun c v u o w2 E h => by obtain ⟨x0, hv, f0, q0⟩ := h; exact ⟨x0, hv, f0.keep0 E, ⟨Nat.le_trans q0.1 E.size, q0.2⟩⟩) (fun c v v' u o w2 _ E h => by obtain ⟨x0, hv, f0, q0⟩ := h; exact ⟨x0, hv, f0.keep E.1 (fun k hk => .inr (q0.2 k hk)), ⟨Nat.le_trans q0.1 E.1.size, ge_step E q0.1 q0.2⟩⟩) (StK.nil)))))))))))))))) (StK.get1 (n := 3) (StK.ch (StK.eq (StK.eq (StK.cons (fun c v u o w2 E h => by obtain ⟨x0, hv, f0, q0⟩ := h; exact ⟨x0, hv, f0.keep0 E, ⟨Nat.le_trans q0.1 E.size, q0.2⟩⟩) (fun c v v' u o w2 _ E h => by obtain ⟨x0, hv, f0, q0⟩ := h; exact ⟨x0, hv, f0.keep E.1 (fun k hk => .inr (q0.2 k hk)), ⟨Nat.le_trans q0.1 E.1.size, ge_step E q0.1 q0.2⟩⟩) (StK.ch (StK.eq (StK.eq (StK.cons (fun c v u o w2 E h => by obtain ⟨x0, x1, hv, f0, q0⟩ := h; exact ⟨x0, x1, hv, f0.keep0 E, ⟨Nat.le_trans q0.1 E.size, q0.2⟩⟩) (fun c v v' u o w2 _ E h => by obtain ⟨x0, x1, hv, f0, q0⟩ := h; exact ⟨x0, x1, hv, f0.keep E.1 (fun k hk => .inr (q0.2 k hk)), ⟨Nat.le_trans q0.1 E.1.size, ge_step E q0.1 q0.2⟩⟩) (StK.eq (StK.cons (fun c v u o w2 E h => by obtain ⟨x0, hv, l0, f0, q0⟩ := h; exact ⟨x0, hv, l0, f0.keep0 E, q0⟩) (fun c v v' u o w2 _ E h => by obtain ⟨x0, hv, l0, f0, q0⟩ := h; exact ⟨x0, hv, l0, f0.keep E.1 (fun hh => q0 hh.symm), ne_step E f0.lt q0⟩) (StK.ch (StK.eq (StK.eq (StK.cons (fun c v u o w2 E h => by obtain ⟨x0, hv, f0, q0⟩ := h; exact ⟨x0, hv, f0.keep0 E, ⟨Nat.le_trans q0.1 E.size, q0.2⟩⟩) (fun c v v' u o w2 _ E h => by obtain ⟨x0, hv, f0, q0⟩ := h; exact ⟨x0, hv, f0.keep E.1 (fun k hk => .inr (q0.2 k hk)), ⟨Nat.le_trans q0.1 E.1.size, ge_step E q0.1 q0.2⟩⟩) (StK.nil)))))))))))))))) (StL2.get0 (StL2.own (StL2.own (StL2.own (StL2.own (StL2.nil)))))) (StL2.get1 (StL2.own (StL2.own (StL2.own (StL2.own (StL2.nil)))))) (Own.nil aj w.heap.size 46 1) (ObLn.get (ObLn.pass rfl (ObLn.cons ?_ (ObLn.cons ?_ (ObLn.cons ?_ (ObLn.pass rfl (ObLn.cons ?_ (ObLn.cons ?_ (ObLn.cons ?_ (ObLn.cons ?_ (ObLn.cons ?_ (ObLn.pass rfl (ObLn.cons ?_ (ObLn.cons ?_ (ObLn.cons ?_ (ObLn.nil)))))))))))))))) (ObLc.get (ObLc.cons ?_ (ObLc.cons ?_ (ObLc.cons ?_ (ObLc.nil))))) ?_
    ·
     intro aA wA ccA cvA hNA hclA hRA hltA hvoA hbsA hdpA
     have aE := (hbsA 3 rfl).trans (zL ak rfl al)
     refine zG (zC hNA rfl aE) ?_
     exact obNc_end rfl rfl (grown_refl _ _)
    ·
     intro aA wA ccA cvA hNA hclA hRA hltA hvoA hbsA hdpA
     have aF := (hbsA 5 rfl).trans (zL ak rfl ao)
     refine zG (zC hNA rfl aF) ?_
     exact obNc_end rfl rfl (grown_refl _ _)
    ·
     intro aA wA ccA cvA hNA hclA hRA hltA hvoA hbsA hdpA
     have hRA : aj.grownBy wA (Value.slice none 0 0).ownBlock := hRA
     have hnil_o := (Own.nil aj w.heap.size 46 1)
     have := hRA.size
     have hl := hl.keep0 hRA
     have m := m.keep0 hRA
     have aG : Sl aA 45 r := hdpA 1 _ 45 zy rfl rfl
     have aH : Sl aA 46 (.int .i64 ((jj : Nat) : Int)) := hdpA 2 _ 46 zy rfl rfl
     clear hbsA hdpA
     refine op_slice_rd (lo := 0) (hi := jj) slt54 (zC hNA rfl aG) (Own.rdB m ax) (.inl ⟨rfl, rfl⟩) (.inr ⟨_, _, rfl, (zC hNA rfl aH)⟩) zx zx ?_
     intro aJ aI
     have aI : RdC wA w.heap.size aj.heap.size 1 aJ jj ((((nrm (l.take i)).take jj)).map u16v) := by simpa [List.map_drop, List.map_take] using aI
     exact obNc_end rfl ⟨aJ, rfl, aI, ⟨by omega, ge_of hvoA (fun k hk => by simp [Value.ownBlock] at hk) zx⟩⟩ (grown_refl _ _)
    ·
     intro aA wA ccA cvA hNA hclA hRA hltA hvoA hbsA hdpA
     have aI := (hbsA 0 rfl).trans (zL ak rfl an)
     refine zG (zC hNA rfl aI) ?_
     exact obNc_end rfl rfl (grown_refl _ _)
    ·
     intro aA wA ccA cvA hNA hclA hRA hltA hvoA hbsA hdpA
     have aJ := (hbsA 4 rfl).trans (zL ak rfl am)
     refine zG (zC hNA rfl aJ) ?_
     exact obNc_end rfl rfl (grown_refl _ _)
    ·
     intro aA wA ccA cvA hNA hclA hRA hltA hvoA hbsA hdpA
     have hRA : aj.grownBy wA (Value.slice none 0 0).ownBlock := hRA
     have hnil_o := (Own.nil aj w.heap.size 46 1)
     have := hRA.size
     have hl := hl.keep0 hRA
     have aK : Sl aA 49 v := hdpA 5 _ 49 zy rfl rfl
     have aL : Sl aA 50 (.int .i64 ((i : Nat) : Int)) := hdpA 6 _ 50 zy rfl rfl
     clear hbsA hdpA
     refine zh slt45 (zC hNA rfl aK) hl (zC hNA rfl aL) zx zx ?_
     intro aN aM aQ aP aO
     have aP : PtC wA 0 w.heap.size aN aM [(.int .u16 ((l.getD i 0).toNat : Int))] := ⟨by omega, by omega, fun j u hu => aO j u (by have := (List.getElem?_eq_some_iff.1 hu).1; simpa using this) ((fun j u hu => one_at (el_u16 (i := i) zx zx) hu) j u hu)⟩
     exact obNc_end rfl ⟨aN, aM, rfl, aP, ⟨by omega, ge_of hvoA (fun k hk => by simp [Value.ownBlock] at hk) zx⟩⟩ (grown_refl _ _)
    ·
     intro aA wA ccA cvA hNA hclA hRA hltA hvoA hbsA hdpA
     have hRA : aj.grownBy wA (Value.slice none 0 0).ownBlock := hRA
     have hnil_o := (Own.nil aj w.heap.size 46 1)
     have := hRA.size
     have hl := hl.keep0 hRA
     obtain ⟨az, aD, aN, aM, aO⟩ := hdpA 7 _ 51 zy rfl rfl
     have aM : PtC wA 0 w.heap.size az aD [(.int .u16 ((l.getD i 0).toNat : Int))] := aM
     clear hbsA hdpA
     refine zN (v := (Value.int .u16 ((l.getD i 0).toNat : Int))) one46 (zC hNA rfl aN) (aM.2.2 0 _ rfl) ?_
     exact obNc_end rfl rfl (grown_refl _ _)
    ·
     intro aA wA ccA cvA hNA hclA hRA hltA hvoA hbsA hdpA
     have hRA : aj.grownBy wA (Value.slice none 0 0).ownBlock := hRA
     have hnil_o := (Own.nil aj w.heap.size 46 1)
     have := hRA.size
     have aM : Sl aA 52 (.int .u16 ((l.getD i 0).toNat : Int)) := hdpA 8 _ 52 zy rfl rfl
     clear hbsA hdpA
     refine op_bslice (e := 46) (pv := [(0, (.int .u16 ((l.getD i 0).toNat : Int)))]) (cs := [(.int .u16 ((l.getD i 0).toNat : Int))]) ⟨rfl, (zC hNA rfl aM), trivial⟩ zy ?_
     intro aU aR aS aT aQ aP
     have := aP.size
     have hl := (hl.keep0 hRA).keep0 aP
     exact obNc_end rfl ⟨aR, rfl, zx, aQ, (fun hh => by have := hltA _ hh; omega)⟩ (aP)
    ·
     intro aA wA ccA cvA hNA hclA hRA hltA hvoA hbsA hdpA
     have aE := (hbsA 3 rfl).trans (zL ak rfl al)
     refine zG (zC hNA rfl aE) ?_
     exact obNc_end rfl rfl (grown_refl _ _)
    ·
     intro aA wA ccA cvA hNA hclA hRA hltA hvoA hbsA hdpA
     have aF := (hbsA 5 rfl).trans (zL ak rfl ao)
     refine zG (zC hNA rfl aF) ?_
     exact obNc_end rfl rfl (grown_refl _ _)
    ·
     intro aA wA ccA cvA hNA hclA hRA hltA hvoA hbsA hdpA
     have hRA : aj.grownBy wA (Value.slice none 0 0).ownBlock := hRA
     have hnil_o := (Own.nil aj w.heap.size 46 1)
     have := hRA.size
     have hl := hl.keep0 hRA
     have m := m.keep0 hRA
     have aP : Sl aA 55 r := hdpA 11 _ 55 zy rfl rfl
     have aQ : Sl aA 56 (.int .i64 ((jj : Nat) : Int)) := hdpA 12 _ 56 zy rfl rfl
     clear hbsA hdpA
     refine op_slice_rd (lo := jj) (hi := (nrm (l.take i)).length) slt54 (zC hNA rfl aP) (Own.rdB m ax) (.inr ⟨_, _, rfl, (zC hNA rfl aQ)⟩) (.inl ⟨rfl, rfl⟩) zx zx ?_
     intro aS aR
     have aR : RdC wA w.heap.size aj.heap.size 1 aS ((nrm (l.take i)).length - jj) ((((nrm (l.take i)).drop jj)).map u16v) := by simpa [List.map_drop, List.map_take, List.take_of_length_le] using aR
     exact obNc_end rfl ⟨aS, rfl, aR, ⟨by omega, ge_of hvoA (fun k hk => by simp [Value.ownBlock] at hk) zx⟩⟩ (grown_refl _ _)
    ·
     intro o_ ho_; obtain rfl := zE ho_; intro aA wA cvA hNA hRA aR hbsA hdpA hCA
     have hRA : aj.grownBy wA (Value.slice none 0 0).ownBlock := hRA
     have hnil_o := (Own.nil aj w.heap.size 46 1)
     have := hRA.size
     have hcvA : (Value.slice none 0 0) = cvA := (aR rfl).symm
     subst hcvA
     clear hbsA hdpA
     refine op_bslice (e := 46) (pv := []) (cs := []) trivial zy ?_
     intro aT az aW aV aU aS
     have := aS.size
     have hl := (hl.keep0 hRA).keep0 aS
     exact obCc_end rfl rfl (chP_now (w := aT)) (Own.ofBx (base := w.heap.size) (sz := 1) (n := 0) aU rfl zz zx) ⟨aS, .inr (fun k hk => by simp [Value.ownBlock] at hk; omega)⟩
    ·
     intro o_ ho_; obtain rfl := zE ho_; intro aA wA cvA hNA hRA aR hbsA hdpA hCA
     have hRA : aj.grownBy wA (Value.slice none 0 0).ownBlock := hRA
     have hnil_o := (Own.nil aj w.heap.size 46 1)
     have := hRA.size
     have hb := below_stepO hb (Own.nil aj w.heap.size 46 1) hRA hb.size zx
     have hCA : Own wA w.heap.size 46 1 cvA 0 ([]) := hCA
     have aS : aA.tmps.getD 44 undef = cvA := (show chP 0 1 cvA (aA.tmps.getD 44 undef) wA from hdpA 0 _ 44 zy rfl rfl).2 rfl
     obtain ⟨aC, aT, aU, aV⟩ := hdpA 3 _ 47 zy rfl rfl
     have aU : RdC wA w.heap.size aj.heap.size 1 aC jj ((((nrm (l.take i)).take jj)).map u16v) := aU
     clear hbsA hdpA
     have aW := hCA
     refine op_append slt54 (zC hNA rfl aS) aW (zC hNA rfl aT) (Src.ofRd Try.underlying54 zz aU (one_u16 _)) (by unfold maxLen; omega) zx hb.size ?_
     intro aZ aY aU aX a0
     have := aX.size
     have hl := (hl.keep0 hRA).keepO aW aX zx
     have aU : Own aY w.heap.size 46 1 aZ (0 + jj) ((((nrm (l.take i)).take jj)).map u16v) := by simpa [u8v, u16v, cellsV] using aU
     exact obCc_end rfl rfl (chP_now (w := aY)) aU ⟨aX, a0⟩
    ·
     intro o_ ho_; obtain rfl := zE ho_; intro aA wA cvA hNA hRA aR hbsA hdpA hCA
     have hRA : aj.grownBy wA (Value.slice none 0 0).ownBlock := hRA
     have hnil_o := (Own.nil aj w.heap.size 46 1)
     have := hRA.size
     have hb := below_stepO hb (Own.nil aj w.heap.size 46 1) hRA hb.size zx
     have hCA : Own wA w.heap.size 46 1 cvA (0 + jj) ((((nrm (l.take i)).take jj)).map u16v) := hCA
     have Z : aA.tmps.getD 48 undef = cvA := (show chP 1 2 cvA (aA.tmps.getD 48 undef) wA from hdpA 4 _ 48 zy rfl rfl).2 rfl
     obtain ⟨ay, ab, ad, aa, ac⟩ := hdpA 9 _ 53 zy rfl rfl
     have aa : Bx wA ay 46 [(.int .u16 ((l.getD i 0).toNat : Int))] := aa
     clear hbsA hdpA
     have ae := hCA
     refine op_append slt54 (zC hNA rfl Z) ae (zC hNA rfl ab) (Src.ofRd Try.underlying54 zz (RdC.ofBx (sz := 1) (n := 1) aa rfl zz) (by simp [Value.oneCell', u8v])) (by unfold maxLen; omega) zx hb.size ?_
     intro ah ag aa af ao
     have := af.size
     have hl := (hl.keep0 hRA).keepO ae af zx
     have aa : Own ag w.heap.size 46 1 ah ((0 + jj) + 1) (((((nrm (l.take i)).take jj) ++ [(l.getD i 0)])).map u16v) := by simpa [u8v, u16v, cellsV] using aa
     exact obCc_end rfl rfl (chP_now (w := ag)) aa ⟨af, ao⟩
    intro av af ao aa ar ag ah au ae ay
    have ar := ar.trans aq
    have ay := (ag 0 rfl).trans (zL ak rfl an)
    have az := (ag 2 rfl).trans (zL ak rfl ap)
    have aC := (ag 4 rfl).trans (zL ak rfl am)
    have aD : av.tmps.getD 54 undef = ao := (show chP 2 3 ao (av.tmps.getD 54 undef) af from ah 10 _ 54 rfl rfl).2 rfl
    obtain ⟨aB, aU, av, aW⟩ := ah 13 _ 57 rfl rfl
    have av : RdC af w.heap.size aj.heap.size 1 aB ((nrm (l.take i)).length - jj) ((((nrm (l.take i)).drop jj)).map u16v) := av
    clear ag ah
    have ae : aj.grownBy af (Value.slice none 0 0).ownBlock := ae
    have au : Own af w.heap.size 46 1 ao ((0 + jj) + 1) (((((nrm (l.take i)).take jj) ++ [(l.getD i 0)])).map u16v) := au
    have ae : aj.grownBy af none := ae
    obtain ⟨hb, _⟩ := yE hb ae
    refine split_end (from_seq (tl := [_, _]) zz zy rfl ?_)
    have af := au
    refine op_append slt54 (zC aa rfl aD) af (zC aa rfl aU) (Src.ofRd Try.underlying54 zz av (one_u16 _)) (by unfold maxLen; omega) zx hb.size ?_
    intro ao aj ah ag au
    have := ag.size
    have hl := (hl.keep0 ae).keepO af ag zx
    have hb := below_stepO hb af ag hb.size zx
    have ah : Own aj w.heap.size 46 1 ao (((0 + jj) + 1) + ((nrm (l.take i)).length - jj)) ((((((nrm (l.take i)).take jj) ++ [(l.getD i 0)]) ++ ((nrm (l.take i)).drop jj))).map u16v) := by simpa [u8v, u16v, cellsV] using ah
    refine zD (zA aa rfl) (zB (g _ _ (zH (zG (zC aa rfl aC) (op_add (zA aa rfl) rfl (add64 zx) (zD (zA aa rfl) (zB ?_)))))))
    -- round 9T 15T 26F 43T
    have hins := insT_at (x := l.getD i 0) (acc := (nrm (l.take i))) (j := jj) hlt zx zx
    exact zg _ aa ar ⟨i + 1, _, rfl, (zL aa rfl ay), (zL aa rfl az), (zU aa rfl).trans (congrArg (Value.int .i64) zx), (zU aa rfl), zx, (nrm_len zx), hb, zx, hl, (ah.cast (by rw [take_nrm zx, hins.2 (aw.imp (fun q => by omega) fun q e => q (by rw [e]))]; simp; omega) (by rw [take_nrm zx, hins.2 (aw.imp (fun q => by omega) fun q e => q (by rw [e]))]; try simp [u16v]))⟩ zx
   have aw := of_decide_eq_false aw
   refine wp_skip (g _ _ (zH (zG (zC ak rfl am) (op_add (zA ak rfl) rfl (add64 zx) (zD (zA ak rfl) (zB ?_))))))
   -- round 9T 15T 26F 43F
   have hins := insT_at (x := l.getD i 0) (acc := (nrm (l.take i))) (j := jj) hlt zx zx
   exact zg _ ak aq ⟨i + 1, _, rfl, (zL ak rfl an), (zL ak rfl ap), (zU ak rfl).trans (congrArg (Value.int .i64) zx), (zL ak rfl al), zx, (nrm_len zx), hb, zx, hl, (m.cast (by rw [take_nrm zx, hins.1 ⟨by omega, u16_eq zx⟩]) (by rw [take_nrm zx, hins.1 ⟨by omega, u16_eq zx⟩]))⟩ zx
  refine st_step rfl (fun _ H => op_cmp (b := false) (zA J rfl) (zA J rfl) (b_lss (decide_eq_false Y)) H) (st_step rfl (fun _ H => zG (zA J rfl) H) (st_g_false (j := 4) (dj := 16) (b := true) rfl rfl rfl (zA J rfl) rfl rfl (st_g_false (j := 4) (dj := 16) (b := true) rfl rfl rfl (zA J rfl) rfl rfl (st_g_false (j := 4) (dj := 16) (b := true) rfl rfl rfl (zA J rfl) rfl rfl ?_))))
  refine st_g_false (j := 4) (dj := 16) (b := true) rfl rfl rfl (zA J rfl) rfl rfl (st_g_false (j := 4) (dj := 16) (b := true) rfl rfl rfl (zA J rfl) rfl rfl (st_g_false (j := 4) (dj := 16) (b := true) rfl rfl rfl (zA J rfl) rfl rfl (st_g_false (j := 4) (dj := 16) (b := true) rfl rfl rfl (zA J rfl) rfl rfl (st_g_false (j := 4) (dj := 16) (b := true) rfl rfl rfl (zA J rfl) rfl rfl (st_g_false (j := 4) (dj := 16) (b := true) rfl rfl rfl (zA J rfl) rfl rfl (st_step rfl (fun _ H => zd (zA J rfl) rfl H) (st_nil (U _ _ (wp_cond_false (zA J rfl) (wp_exit (then_exit (then_exit (blk_hit (F _ _ (seq_join1 (N := 60) (fun az_ w' => (Sl az_ 0 v) ∧ (Sl az_ 2 (.slice none 0 0)) ∧ (Sl az_ 3 r) ∧ (Sl az_ 4 (.int .i64 ((i : Nat) : Int))) ∧ (Sl az_ 5 (.int .i64 ((jj : Nat) : Int))) ∧ (Sl az_ 43 (.bool (decide (jj = (nrm (l.take i)).length ∨ ((nrm (l.take i)).getD jj 0).toNat ≠ (l.getD i 0).toNat)))) ∧ (Below w.heap.size w w') ∧ (X.heap.size ≤ w'.heap.size) ∧ (RdC w' 0 w.heap.size 1 v l.length (l.map u16v)) ∧ (Own w' w.heap.size 46 1 r (nrm (l.take i)).length ((nrm (l.take i)).map u16v))) (fun aa => ?_) ?_)))))))))))))))
  ·
   refine zF fun _ F => reg_still mixed zy ?_
   intro af ae
   obtain ⟨hb, _⟩ := yE hb ae
   have hl := hl.keep0 ae
   have m := m.keep0 ae
   refine st_step rfl (fun _ H => zG (zC J rfl K) H) (st_step rfl (fun _ H => zG (zC J rfl L) H) (st_step rfl (fun _ H => op_len_rd Try.underlying54 (zA J rfl) m.rdw H) ?_))
   by_cases ai : ((jj : Nat) : Int) = (((nrm (l.take i)).length : Nat) : Int)
   ·
    refine st_step rfl (fun _ H => op_cmp (b := true) (zA J rfl) (zA J rfl) (b_eql (decide_eq_true ai)) H) (st_step rfl (fun _ H => zG (zA J rfl) H) (st_g_false (j := 4) (dj := 33) (b := false) rfl rfl rfl (zA J rfl) rfl rfl (st_g_false (j := 4) (dj := 33) (b := false) rfl rfl rfl (zA J rfl) rfl rfl ?_)))
    refine st_g_false (j := 4) (dj := 33) (b := false) rfl rfl rfl (zA J rfl) rfl rfl (st_g_false (j := 4) (dj := 33) (b := false) rfl rfl rfl (zA J rfl) rfl rfl (st_g_false (j := 4) (dj := 33) (b := false) rfl rfl rfl (zA J rfl) rfl rfl (st_g_false (j := 4) (dj := 33) (b := false) rfl rfl rfl (zA J rfl) rfl rfl (st_g_false (j := 4) (dj := 33) (b := false) rfl rfl rfl (zA J rfl) rfl rfl (st_g_false (j := 4) (dj := 33) (b := false) rfl rfl rfl (zA J rfl) rfl rfl (st_g_false (j := 4) (dj := 33) (b := false) rfl rfl rfl (zA J rfl) rfl rfl (st_step rfl (fun _ H => zc (zA J rfl) rfl H) (st_nil (F _ _ ?_)))))))))
    exact aa _ _ _ J Q ⟨(zL J rfl O), (zL J rfl P), (zL J rfl L), (zL J rfl M), (zL J rfl K), (zU J rfl).trans (congrArg Value.bool (decide_eq_true zx).symm), hb, zx, hl, m⟩
   refine st_step rfl (fun _ H => op_cmp (b := false) (zA J rfl) (zA J rfl) (b_eql (decide_eq_false ai)) H) (st_step rfl (fun _ H => zG (zA J rfl) H) (st_g_true (j := 4) (dj := 33) (b := false) rfl rfl rfl (zA J rfl) (st_step rfl (fun _ H => zG (zC J rfl L) H) (st_g_true (j := 4) (dj := 33) (b := false) rfl rfl rfl (zA J rfl) (st_step rfl (fun _ H => zG (zC J rfl K) H) (st_g_true (j := 4) (dj := 33) (b := false) rfl rfl rfl (zA J rfl) (st_index_rd slt54 (zA J rfl) m.rdw (zA J rfl) zx zx ?_)))))))
   intro ai ah af ag ae
   refine st_g_true (j := 4) (dj := 33) (b := false) rfl rfl rfl (zA J rfl) (st_step rfl (fun _ H => zN (v := (Value.int .u16 (((nrm (l.take i)).getD jj 0).toNat : Int))) one46 (zA J rfl) (by have := ae 0 (.int .u16 (((nrm (l.take i)).getD jj 0).toNat : Int)) zz (el_u16 (i := jj) zx zx); simpa using this) H) (st_g_true (j := 4) (dj := 33) (b := false) rfl rfl rfl (zA J rfl) (st_step rfl (fun _ H => zG (zC J rfl O) H) (st_g_true (j := 4) (dj := 33) (b := false) rfl rfl rfl (zA J rfl) (st_step rfl (fun _ H => zG (zC J rfl M) H) (st_g_true (j := 4) (dj := 33) (b := false) rfl rfl rfl (zA J rfl) (st_index_rd slt45 (zA J rfl) hl (zA J rfl) zx zx ?_)))))))
   intro ag ai af ah ae
   refine st_g_true (j := 4) (dj := 33) (b := false) rfl rfl rfl (zA J rfl) (st_step rfl (fun _ H => zN (v := (Value.int .u16 ((l.getD i 0).toNat : Int))) one46 (zA J rfl) (by have := ae 0 (.int .u16 ((l.getD i 0).toNat : Int)) zz (el_u16 (i := i) zx zx); simpa using this) H) (st_g_true (j := 4) (dj := 33) (b := false) rfl rfl rfl (zA J rfl) (st_step rfl (fun _ H => op_cmp (b := (decide ((((nrm (l.take i)).getD jj 0).toNat : Int) ≠ ((l.getD i 0).toNat : Int)))) (zA J rfl) (zA J rfl) (b_neq rfl) H) (st_step rfl (fun _ H => zd (zA J rfl) (zA J rfl) H) (st_nil (F _ _ ?_))))))
   exact aa _ _ _ J Q ⟨(zL J rfl O), (zL J rfl P), (zL J rfl L), (zL J rfl M), (zL J rfl K), (zU J rfl).trans (congrArg Value.bool (decide_eq_decide.2 zx)), hb, zx, hl, m⟩
  rintro ao ae af ak ⟨ah, aj, ai, ag, al, am, hb, an, hl, m⟩
  have := hb.size
  refine wp_cond_split (zC af rfl am) (fun aw => ?_) (fun aw => ?_)
  ·
   have aw := of_decide_eq_true aw
   have ax := m
   refine reg_split (hd := [_, _, _, _, _, _, _, _, _, _, _, _, _, _]) (tl := _) 14 mixed zy rfl rfl ?_
   refine any_chain (Φ := phiC [chP 0, (fun _ _ uz _ => uz = r), (fun _ _ uz _ => uz = (.int .i64 ((jj : Nat) : Int))), (fun _ vz uz w' => ∃ (au : Value), uz = au ∧ RdC w' w.heap.size ae.heap.size 1 au jj ((((nrm (l.take i)).take jj)).map u16v) ∧ (ae.heap.size ≤ w'.heap.size ∧ ∀ k, vz.ownBlock = some k → ae.heap.size ≤ k)), chP 1, (fun _ _ uz _ => uz = v), (fun _ _ uz _ => uz = (.int .i64 ((i : Nat) : Int))), (fun _ vz uz w' => ∃ (aq : (Nat)) (ar : (Nat)), uz = (ptr aq ar) ∧ PtC w' 0 w.heap.size aq ar [(.int .u16 ((l.getD i 0).toNat : Int))] ∧ (w.heap.size ≤ w'.heap.size ∧ ∀ k, vz.ownBlock = some k → w.heap.size ≤ k)), (fun _ _ uz _ => uz = (.int .u16 ((l.getD i 0).toNat : Int))), (fun _ vz uz w' => ∃ (ap : Nat), uz = (.slice (some ⟨ap, 0, none⟩) 1 1) ∧ ae.heap.size ≤ ap ∧ Bx w' ap 46 [(.int .u16 ((l.getD i 0).toNat : Int))] ∧ vz.ownBlock ≠ some ap), chP 2, (fun _ _ uz _ => uz = r), (fun _ _ uz _ => uz = (.int .i64 ((jj : Nat) : Int))), (fun _ vz uz w' => ∃ (av : Value), uz = av ∧ RdC w' w.heap.size ae.heap.size 1 av ((nrm (l.take i)).length - jj) ((((nrm (l.take i)).drop jj)).map u16v) ∧ (ae.heap.size ≤ w'.heap.size ∧ ∀ k, vz.ownBlock = some k → ae.heap.size ≤ k))]) (C := CL [(fun vz w' => Own w' w.heap.size 46 1 vz 0 ([])), (fun vz w' => Own w' w.heap.size 46 1 vz 0 ([])), (fun vz w' => Own w' w.heap.size 46 1 vz (0 + jj) ((((nrm (l.take i)).take jj)).map u16v)), (fun vz w' => Own w' w.heap.size 46 1 vz ((0 + jj) + 1) (((((nrm (l.take i)).take jj) ++ [(l.getD i 0)])).map u16v))]) ⟨[0, 4, 10], fun c => [60, 44, 48, 54].getD c 60⟩ (.slice none 0 0) zy zy zy zy af (StK.get0 (n := 3) (StK.ch (StK.eq (StK.eq (StK.cons (fun c v u o w2 E h => by obtain ⟨x0, hv, f0, q0⟩ := h; exact ⟨x0, hv, f0.keep0 E, ⟨Nat.le_trans q0.1 E.size, q0.2⟩⟩) (fun c v v' u o w2 _ E h => by obtain ⟨x0, hv, f0, q0⟩ := h; exact ⟨x0, hv, f0.keep E.1 (fun k hk => .inr (q0.2 k hk)), ⟨Nat.le_trans q0.1 E.1.size, ge_step E q0.1 q0.2⟩⟩) (StK.ch (StK.eq (StK.eq (StK.cons (fun c v u o w2 E h => by obtain ⟨x0, x1, hv, f0, q0⟩ := h; exact ⟨x0, x1, hv, f0.keep0 E, ⟨Nat.le_trans q0.1 E.size, q0.2⟩⟩) (fun c v v' u o w2 _ E h => by obtain ⟨x0, x1, hv, f0, q0⟩ := h; exact ⟨x0, x1, hv, f0.keep E.1 (fun k hk => .inr (q0.2 k hk)), ⟨Nat.le_trans q0.1 E.1.size, ge_step E q0.1 q0.2⟩⟩) (StK.eq (StK.cons (fun c v u o w2 E h => by obtain ⟨x0, hv, l0, f0, q0⟩ := h; exact ⟨x0, hv, l0, f0.keep0 E, q0⟩) (fun c v v' u o w2 _ E h => by obtain ⟨x0, hv, l0, f0, q0⟩ := h; exact ⟨x0, hv, l0, f0.keep E.1 (fun hh => q0 hh.symm), ne_step E f0.lt q0⟩) (StK.ch (StK.eq (StK.eq (StK.cons (fun c v u o w2 E h => by obtain ⟨x0, hv, f0, q0⟩ := h; exact ⟨x0, hv, f0.keep0 E, ⟨Nat.le_trans q0.1 E.size, q0.2⟩⟩) (fun c v v' u o w2 _ E h => by obtain ⟨x0, hv, f0, q0⟩ := h; exact ⟨x0, hv, f0.keep E.1 (fun k hk => .inr (q0.2 k hk)), ⟨Nat.le_trans q0.1 E.1.size, ge_step E q0.1 q0.2⟩⟩) (StK.nil)))))))))))))))) (StK.get1 (n := 3) (StK.ch (StK.eq (StK.eq (StK.cons (fun c v u o w2 E h => by obtain ⟨x0, hv, f0, q0⟩ := h; exact ⟨x0, hv, f0.keep0 E, ⟨Nat.le_trans q0.1 E.size, q0.2⟩⟩) (fun c v v' u o w2 _ E h => by obtain ⟨x0, hv, f0, q0⟩ := h; exact ⟨x0, hv, f0.keep E.1 (fun k hk => .inr (q0.2 k hk)), ⟨Nat.le_trans q0.1 E.1.size, ge_step E q0.1 q0.2⟩⟩) (StK.ch (StK.eq (StK.eq (StK.cons (fun c v u o w2 E h => by obtain ⟨x0, x1, hv, f0, q0⟩ := h; exact ⟨x0, x1, hv, f0.keep0 E, ⟨Nat.le_trans q0.1 E.size, q0.2⟩⟩) (fun c v v' u o w2 _ E h => by obtain ⟨x0, x1, hv, f0, q0⟩ := h; exact ⟨x0, x1, hv, f0.keep E.1 (fun k hk => .inr (q0.2 k hk)), ⟨Nat.le_trans q0.1 E.1.size, ge_step E q0.1 q0.2⟩⟩) (StK.eq (StK.cons (fun c v u o w2 E h => by obtain ⟨x0, hv, l0, f0, q0⟩ := h; exact ⟨x0, hv, l0, f0.keep0 E, q0⟩) (fun c v v' u o w2 _ E h => by obtain ⟨x0, hv, l0, f0, q0⟩ := h; exact ⟨x0, hv, l0, f0.keep E.1 (fun hh => q0 hh.symm), ne_step E f0.lt q0⟩) (StK.ch (StK.eq (StK.eq (StK.cons (fun c v u o w2 E h => by obtain ⟨x0, hv, f0, q0⟩ := h; exact ⟨x0, hv, f0.keep0 E, ⟨Nat.le_trans q0.1 E.size, q0.2⟩⟩) (fun c v v' u o w2 _ E h => by obtain ⟨x0, hv, f0, q0⟩ := h; exact ⟨x0, hv, f0.keep E.1 (fun k hk => .inr (q0.2 k hk)), ⟨Nat.le_trans q0.1 E.1.size, ge_step E q0.1 q0.2⟩⟩) (StK.nil)))))))))))))))) (StL2.get0 (StL2.own (StL2.own (StL2.own (StL2.own (StL2.nil)))))) (StL2.get1 (StL2.own (StL2.own (StL2.own (StL2.own (StL2.nil)))))) (Own.nil ae w.heap.size 46 1) (ObLn.get (ObLn.pass rfl (ObLn.cons ?_ (ObLn.cons ?_ (ObLn.cons ?_ (ObLn.pass rfl (ObLn.cons ?_ (ObLn.cons ?_ (ObLn.cons ?_ (ObLn.cons ?_ (ObLn.cons ?_ (ObLn.pass rfl (ObLn.cons ?_ (ObLn.cons ?_ (ObLn.cons ?_ (ObLn.nil)))))))))))))))) (ObLc.get (ObLc.cons ?_ (ObLc.cons ?_ (ObLc.cons ?_ (ObLc.nil))))) ?_
   ·
    intro aA wA ccA cvA hNA hclA hRA hltA hvoA hbsA hdpA
    have aE := (hbsA 3 rfl).trans (zL af rfl ai)
    refine zG (zC hNA rfl aE) ?_
    exact obNc_end rfl rfl (grown_refl _ _)
   ·
    intro aA wA ccA cvA hNA hclA hRA hltA hvoA hbsA hdpA
    have aF := (hbsA 5 rfl).trans (zL af rfl al)
    refine zG (zC hNA rfl aF) ?_
    exact obNc_end rfl rfl (grown_refl _ _)
   ·
    intro aA wA ccA cvA hNA hclA hRA hltA hvoA hbsA hdpA
    have hRA : ae.grownBy wA (Value.slice none 0 0).ownBlock := hRA
    have hnil_o := (Own.nil ae w.heap.size 46 1)
    have := hRA.size
    have hl := hl.keep0 hRA
    have m := m.keep0 hRA
    have aG : Sl aA 45 r := hdpA 1 _ 45 zy rfl rfl
    have aH : Sl aA 46 (.int .i64 ((jj : Nat) : Int)) := hdpA 2 _ 46 zy rfl rfl
    clear hbsA hdpA
    refine op_slice_rd (lo := 0) (hi := jj) slt54 (zC hNA rfl aG) (Own.rdB m ax) (.inl ⟨rfl, rfl⟩) (.inr ⟨_, _, rfl, (zC hNA rfl aH)⟩) zx zx ?_
    intro az ay
    have ay : RdC wA w.heap.size ae.heap.size 1 az jj ((((nrm (l.take i)).take jj)).map u16v) := by simpa [List.map_drop, List.map_take] using ay
    exact obNc_end rfl ⟨az, rfl, ay, ⟨by omega, ge_of hvoA (fun k hk => by simp [Value.ownBlock] at hk) zx⟩⟩ (grown_refl _ _)
   ·
    intro aA wA ccA cvA hNA hclA hRA hltA hvoA hbsA hdpA
    have aI := (hbsA 0 rfl).trans (zL af rfl ah)
    refine zG (zC hNA rfl aI) ?_
    exact obNc_end rfl rfl (grown_refl _ _)
   ·
    intro aA wA ccA cvA hNA hclA hRA hltA hvoA hbsA hdpA
    have aJ := (hbsA 4 rfl).trans (zL af rfl ag)
    refine zG (zC hNA rfl aJ) ?_
    exact obNc_end rfl rfl (grown_refl _ _)
   ·
    intro aA wA ccA cvA hNA hclA hRA hltA hvoA hbsA hdpA
    have hRA : ae.grownBy wA (Value.slice none 0 0).ownBlock := hRA
    have hnil_o := (Own.nil ae w.heap.size 46 1)
    have := hRA.size
    have hl := hl.keep0 hRA
    have aK : Sl aA 49 v := hdpA 5 _ 49 zy rfl rfl
    have aL : Sl aA 50 (.int .i64 ((i : Nat) : Int)) := hdpA 6 _ 50 zy rfl rfl
    clear hbsA hdpA
    refine zh slt45 (zC hNA rfl aK) hl (zC hNA rfl aL) zx zx ?_
    intro az ay aD aC aB
    have aC : PtC wA 0 w.heap.size az ay [(.int .u16 ((l.getD i 0).toNat : Int))] := ⟨by omega, by omega, fun j u hu => aB j u (by have := (List.getElem?_eq_some_iff.1 hu).1; simpa using this) ((fun j u hu => one_at (el_u16 (i := i) zx zx) hu) j u hu)⟩
    exact obNc_end rfl ⟨az, ay, rfl, aC, ⟨by omega, ge_of hvoA (fun k hk => by simp [Value.ownBlock] at hk) zx⟩⟩ (grown_refl _ _)
   ·
    intro aA wA ccA cvA hNA hclA hRA hltA hvoA hbsA hdpA
    have hRA : ae.grownBy wA (Value.slice none 0 0).ownBlock := hRA
    have hnil_o := (Own.nil ae w.heap.size 46 1)
    have := hRA.size
    have hl := hl.keep0 hRA
    obtain ⟨aq, ar, aN, ay, aO⟩ := hdpA 7 _ 51 zy rfl rfl
    have ay : PtC wA 0 w.heap.size aq ar [(.int .u16 ((l.getD i 0).toNat : Int))] := ay
    clear hbsA hdpA
    refine zN (v := (Value.int .u16 ((l.getD i 0).toNat : Int))) one46 (zC hNA rfl aN) (ay.2.2 0 _ rfl) ?_
    exact obNc_end rfl rfl (grown_refl _ _)
   ·
    intro aA wA ccA cvA hNA hclA hRA hltA hvoA hbsA hdpA
    have hRA : ae.grownBy wA (Value.slice none 0 0).ownBlock := hRA
    have hnil_o := (Own.nil ae w.heap.size 46 1)
    have := hRA.size
    have aM : Sl aA 52 (.int .u16 ((l.getD i 0).toNat : Int)) := hdpA 8 _ 52 zy rfl rfl
    clear hbsA hdpA
    refine op_bslice (e := 46) (pv := [(0, (.int .u16 ((l.getD i 0).toNat : Int)))]) (cs := [(.int .u16 ((l.getD i 0).toNat : Int))]) ⟨rfl, (zC hNA rfl aM), trivial⟩ zy ?_
    intro aG aB aD aC az ay
    have := ay.size
    have hl := (hl.keep0 hRA).keep0 ay
    exact obNc_end rfl ⟨aB, rfl, zx, az, (fun hh => by have := hltA _ hh; omega)⟩ (ay)
   ·
    intro aA wA ccA cvA hNA hclA hRA hltA hvoA hbsA hdpA
    have aE := (hbsA 3 rfl).trans (zL af rfl ai)
    refine zG (zC hNA rfl aE) ?_
    exact obNc_end rfl rfl (grown_refl _ _)
   ·
    intro aA wA ccA cvA hNA hclA hRA hltA hvoA hbsA hdpA
    have aF := (hbsA 5 rfl).trans (zL af rfl al)
    refine zG (zC hNA rfl aF) ?_
    exact obNc_end rfl rfl (grown_refl _ _)
   ·
    intro aA wA ccA cvA hNA hclA hRA hltA hvoA hbsA hdpA
    have hRA : ae.grownBy wA (Value.slice none 0 0).ownBlock := hRA
    have hnil_o := (Own.nil ae w.heap.size 46 1)
    have := hRA.size
    have hl := hl.keep0 hRA
    have m := m.keep0 hRA
    have aP : Sl aA 55 r := hdpA 11 _ 55 zy rfl rfl
    have aQ : Sl aA 56 (.int .i64 ((jj : Nat) : Int)) := hdpA 12 _ 56 zy rfl rfl
    clear hbsA hdpA
    refine op_slice_rd (lo := jj) (hi := (nrm (l.take i)).length) slt54 (zC hNA rfl aP) (Own.rdB m ax) (.inr ⟨_, _, rfl, (zC hNA rfl aQ)⟩) (.inl ⟨rfl, rfl⟩) zx zx ?_
    intro ay ax
    have ax : RdC wA w.heap.size ae.heap.size 1 ay ((nrm (l.take i)).length - jj) ((((nrm (l.take i)).drop jj)).map u16v) := by simpa [List.map_drop, List.map_take, List.take_of_length_le] using ax
    exact obNc_end rfl ⟨ay, rfl, ax, ⟨by omega, ge_of hvoA (fun k hk => by simp [Value.ownBlock] at hk) zx⟩⟩ (grown_refl _ _)
   ·
    intro o_ ho_; obtain rfl := zE ho_; intro aA wA cvA hNA hRA aR hbsA hdpA hCA
    have hRA : ae.grownBy wA (Value.slice none 0 0).ownBlock := hRA
    have hnil_o := (Own.nil ae w.heap.size 46 1)
    have := hRA.size
    have hcvA : (Value.slice none 0 0) = cvA := (aR rfl).symm
    subst hcvA
    clear hbsA hdpA
    refine op_bslice (e := 46) (pv := []) (cs := []) trivial zy ?_
    intro az aq aB aC ay ax
    have := ax.size
    have hl := (hl.keep0 hRA).keep0 ax
    exact obCc_end rfl rfl (chP_now (w := az)) (Own.ofBx (base := w.heap.size) (sz := 1) (n := 0) ay rfl zz zx) ⟨ax, .inr (fun k hk => by simp [Value.ownBlock] at hk; omega)⟩
   ·
    intro o_ ho_; obtain rfl := zE ho_; intro aA wA cvA hNA hRA aR hbsA hdpA hCA
    have hRA : ae.grownBy wA (Value.slice none 0 0).ownBlock := hRA
    have hnil_o := (Own.nil ae w.heap.size 46 1)
    have := hRA.size
    have hb := below_stepO hb (Own.nil ae w.heap.size 46 1) hRA hb.size zx
    have hCA : Own wA w.heap.size 46 1 cvA 0 ([]) := hCA
    have aS : aA.tmps.getD 44 undef = cvA := (show chP 0 1 cvA (aA.tmps.getD 44 undef) wA from hdpA 0 _ 44 zy rfl rfl).2 rfl
    obtain ⟨au, aT, ax, aV⟩ := hdpA 3 _ 47 zy rfl rfl
    have ax : RdC wA w.heap.size ae.heap.size 1 au jj ((((nrm (l.take i)).take jj)).map u16v) := ax
    clear hbsA hdpA
    have ay := hCA
    refine op_append slt54 (zC hNA rfl aS) ay (zC hNA rfl aT) (Src.ofRd Try.underlying54 zz ax (one_u16 _)) (by unfold maxLen; omega) zx hb.size ?_
    intro aD aB ax az aC
    have := az.size
    have hl := (hl.keep0 hRA).keepO ay az zx
    have ax : Own aB w.heap.size 46 1 aD (0 + jj) ((((nrm (l.take i)).take jj)).map u16v) := by simpa [u8v, u16v, cellsV] using ax
    exact obCc_end rfl rfl (chP_now (w := aB)) ax ⟨az, aC⟩
   ·
    intro o_ ho_; obtain rfl := zE ho_; intro aA wA cvA hNA hRA aR hbsA hdpA hCA
    have hRA : ae.grownBy wA (Value.slice none 0 0).ownBlock := hRA
    have hnil_o := (Own.nil ae w.heap.size 46 1)
    have := hRA.size
    have hb := below_stepO hb (Own.nil ae w.heap.size 46 1) hRA hb.size zx
    have hCA : Own wA w.heap.size 46 1 cvA (0 + jj) ((((nrm (l.take i)).take jj)).map u16v) := hCA
    have Z : aA.tmps.getD 48 undef = cvA := (show chP 1 2 cvA (aA.tmps.getD 48 undef) wA from hdpA 4 _ 48 zy rfl rfl).2 rfl
    obtain ⟨ap, ab, ad, a, ac⟩ := hdpA 9 _ 53 zy rfl rfl
    have a : Bx wA ap 46 [(.int .u16 ((l.getD i 0).toNat : Int))] := a
    clear hbsA hdpA
    have d := hCA
    refine op_append slt54 (zC hNA rfl Z) d (zC hNA rfl ab) (Src.ofRd Try.underlying54 zz (RdC.ofBx (sz := 1) (n := 1) a rfl zz) (by simp [Value.oneCell', u8v])) (by unfold maxLen; omega) zx hb.size ?_
    intro A y a o z
    have := o.size
    have hl := (hl.keep0 hRA).keepO d o zx
    have a : Own y w.heap.size 46 1 A ((0 + jj) + 1) (((((nrm (l.take i)).take jj) ++ [(l.getD i 0)])).map u16v) := by simpa [u8v, u16v, cellsV] using a
    exact obCc_end rfl rfl (chP_now (w := y)) a ⟨o, z⟩
   intro G o D a B y z A d H
   have B := B.trans ak
   have H := (y 0 rfl).trans (zL af rfl ah)
   have I := (y 2 rfl).trans (zL af rfl aj)
   have J := (y 4 rfl).trans (zL af rfl ag)
   have K : G.tmps.getD 54 undef = D := (show chP 2 3 D (G.tmps.getD 54 undef) o from z 10 _ 54 rfl rfl).2 rfl
   obtain ⟨av, L, G, M⟩ := z 13 _ 57 rfl rfl
   have G : RdC o w.heap.size ae.heap.size 1 av ((nrm (l.take i)).length - jj) ((((nrm (l.take i)).drop jj)).map u16v) := G
   clear y z
   have d : ae.grownBy o (Value.slice none 0 0).ownBlock := d
   have A : Own o w.heap.size 46 1 D ((0 + jj) + 1) (((((nrm (l.take i)).take jj) ++ [(l.getD i 0)])).map u16v) := A
   have d : ae.grownBy o none := d
   obtain ⟨hb, _⟩ := yE hb d
   refine split_end (from_seq (tl := [_, _]) zz zy rfl ?_)
   have o := A
   refine op_append slt54 (zC a rfl K) o (zC a rfl L) (Src.ofRd Try.underlying54 zz G (one_u16 _)) (by unfold maxLen; omega) zx hb.size ?_
   intro A D y z G
   have := z.size
   have hl := (hl.keep0 d).keepO o z zx
   have hb := below_stepO hb o z hb.size zx
   have y : Own D w.heap.size 46 1 A (((0 + jj) + 1) + ((nrm (l.take i)).length - jj)) ((((((nrm (l.take i)).take jj) ++ [(l.getD i 0)]) ++ ((nrm (l.take i)).drop jj))).map u16v) := by simpa [u8v, u16v, cellsV] using y
   refine zD (zA a rfl) (zB (g _ _ (zH (zG (zC a rfl J) (op_add (zA a rfl) rfl (add64 zx) (zD (zA a rfl) (zB ?_)))))))
   -- round 9T 15F 43T
   have hins := insT_at (x := l.getD i 0) (acc := (nrm (l.take i))) (j := jj) hlt zx zx
   exact zg _ a B ⟨i + 1, _, rfl, (zL a rfl H), (zL a rfl I), (zU a rfl).trans (congrArg (Value.int .i64) zx), (zU a rfl), zx, (nrm_len zx), hb, zx, hl, (y.cast (by rw [take_nrm zx, hins.2 (aw.imp (fun q => by omega) fun q e => q (by rw [e]))]; simp; omega) (by rw [take_nrm zx, hins.2 (aw.imp (fun q => by omega) fun q e => q (by rw [e]))]; try simp [u16v]))⟩ zx
  have aw := of_decide_eq_false aw
  refine wp_skip (g _ _ (zH (zG (zC af rfl ag) (op_add (zA af rfl) rfl (add64 zx) (zD (zA af rfl) (zB ?_))))))
  -- round 9T 15F 43F
  have hins := insT_at (x := l.getD i 0) (acc := (nrm (l.take i))) (j := jj) hlt zx zx
  exact zg _ af ak ⟨i + 1, _, rfl, (zL af rfl ah), (zL af rfl aj), (zU af rfl).trans (congrArg (Value.int .i64) zx), (zL af rfl ai), zx, (nrm_len zx), hb, zx, hl, (m.cast (by rw [take_nrm zx, hins.1 ⟨by omega, u16_eq zx⟩]) (by rw [take_nrm zx, hins.1 ⟨by omega, u16_eq zx⟩]))⟩ zx
 refine zB (F _ _ (wp_cond_false (zA p rfl) (wp_exit (then_exit (then_exit (blk_hit (f _ _ (zF fun _ f => zH (zG (zC p rfl s) (zD (zA p rfl) (zB (f _ _ (wp_ret (ret1 rfl t (zA p rfl) ⟨_, rfl, ?_⟩))))))))))))))
 rw [take_all l zx] at m
 exact ⟨hb, m⟩

end Go.Proofs.Ytmhdbphpmgjpcaa

namespace Go.Proofs.Ytmhdbphpmgjpcaa
open Go.Gx
end Go.Proofs.Ytmhdbphpmgjpcaa

namespace Go.Proofs.Ytmhdbphpmgjpcaa
open Go.Gx
theorem flat_be2_get : ∀ (l : Lb) (r : List UInt8) (i : Nat), i < l.length → (l.flatMap be2 ++ r).getD (2 * i) 0 = UInt8.ofNat ((l.getD i 0).toNat / 256) ∧ (l.flatMap be2 ++ r).getD (2 * i + 1) 0 = UInt8.ofNat (l.getD i 0).toNat
  | [], r, i, h => by simp at h
  | a :: l, r, 0, _ => ⟨rfl, rfl⟩
  | a :: l, r, i + 1, h => by
    have := flat_be2_get l r i (by simpa using h)
    rw [show 2 * (i + 1) = 2 * i + 1 + 1 by omega]
    exact this
theorem of_be2 (t : UInt16) : UInt16.ofNat ((UInt8.ofNat (t.toNat / 256)).toNat * 256 + (UInt8.ofNat t.toNat).toNat) = t := by
  apply UInt16.toNat_inj.1
  have := t.toNat_lt
  rw [UInt16.toNat_ofNat', UInt8.toNat_ofNat', UInt8.toNat_ofNat']; omega
theorem tags_put (l : Lb) (r : List UInt8) : tagsL l.length (labB l ++ r) = l := by
  apply List.ext_getElem
  · rw [tags_len]
  · intro i h1 h2
    obtain ⟨g1, g2⟩ := flat_be2_get l r i h2
    have e1 : (labB l ++ r).getD (1 + 2 * i) 0 = (l.flatMap be2 ++ r).getD (2 * i) 0 := by rw [show 1 + 2 * i = 2 * i + 1 by omega]; rfl
    have e2 : (labB l ++ r).getD (2 + 2 * i) 0 = (l.flatMap be2 ++ r).getD (2 * i + 1) 0 := by rw [show 2 + 2 * i = 2 * i + 1 + 1 by omega]; rfl
    simp only [tagsL, List.getElem_map, List.getElem_range]
    rw [e1, e2, g1, g2, of_be2]
    simp [List.getD_eq_getElem?_getD, h2]
theorem putL_head {l : Lb} (h : l.length ≤ 255) (r : List UInt8) : ((labB l ++ r).getD 0 0).toNat = l.length := by
  show (UInt8.ofNat l.length).toNat = l.length
  rw [UInt8.toNat_ofNat']; omega
theorem takeL_put {l : Lb} (h : mayL l = true) (r : List UInt8) : takeL (labB l ++ r) = (l, (((labB l).length : Nat) : Int), 0) := by
  have h8 := mayL_len h
  have hn := putL_head (l := l) (by omega) r
  have hl : (labB l ++ r).length = 1 + l.length * 2 + r.length := by rw [List.length_append, labB_len]
  rw [takeL, if_neg (by omega), if_neg (by omega), if_neg (by omega), hn, tags_put, if_pos (mayL_rise h), labB_len, Nat.mul_comm]
/-! how keys stand -/
end Go.Proofs.Ytmhdbphpmgjpcaa

namespace Go.Proofs.Ytmhdbphpmgjpcaa
open Go.Gx Go.RowKit
attribute [local irreducible] wpList wpStill Code.wp Calls

theorem refMay_ret (l : Lb) (v : Value) (w : World) (hl : l.length ≤ 9223372036854775807) (h : RdC w 0 w.heap.size 1 v l.length (l.map u16v)) : Ret Try.prog 33 #[v] w (fun v' w' => Below w.heap.size w w' ∧ v' = .bool (mayL l)) := by
 have hb := Below.refl w.heap.size w
 refine enter (N := 23) Try.func33 rfl rfl (by simp) fun a hN hd hA => ?_
 have c : a.tmps.getD 0 undef = v := hA 0 (by simp)
 clear hA
 refine zF fun _ a => ?_
 refine zH (zD rfl (zB (a _ _ (zF fun _ a => zF fun _ d => zH (zD rfl (zB (d _ _ (wp_block (loop_m (fun mz_ az_ w' => ∃ (i : Nat), mz_ = l.length - i ∧ (Sl az_ 0 v) ∧ (Sl az_ 3 (.int .i64 ((i : Nat) : Int))) ∧ (1 ≤ i ∧ (i ≤ l.length ∨ i = 1)) ∧ (Rise (l.take i)) ∧ (Below w.heap.size w w') ∧ (w.heap.size ≤ w'.heap.size) ∧ (RdC w' 0 w.heap.size 1 v l.length (l.map u16v))) _ hN hd ⟨1, rfl, (zL hN rfl c), (zU hN rfl).trans (congrArg (Value.int .i64) zx), ⟨Nat.le_refl _, .inr rfl⟩, rise_one, hb, (Nat.le_refl _), h⟩ ?_)))))))))
 rintro _ m j c g ⟨i, rfl, e, f, hi, hr, hb, k, h⟩
 have := hb.size
 refine zF fun _ d => zF fun _ j => zH (zG (zC c rfl f) (zG (zC c rfl e) (op_len_rd Try.underlying54 (zA c rfl) h (op_lss (zA c rfl) (zA c rfl) (fun k => ?_) (fun k => ?_)))))
 ·
  refine zB (j _ _ (wp_cond_true (zA c rfl) (wp_skip (d _ _ (zF fun _ d => wp_block (zF fun _ j => reg_still mixed zy ?_))))))
  intro m k
  obtain ⟨hb, _⟩ := yE hb k
  have h := h.keep0 k
  refine st_step rfl (fun _ k => zG (zC c rfl e) k) (st_step rfl (fun _ k => zG (zC c rfl f) k) (st_step rfl (fun _ k => op_sub (zA c rfl) rfl (sub64 zx) k) (st_index_rd slt54 (zA c rfl) h (zA c rfl) zx zx ?_)))
  intro p n o q m
  refine st_step rfl (fun _ k => zN (v := (Value.int .u16 ((l.getD (i - 1) 0).toNat : Int))) one46 (zA c rfl) (by have := m 0 (.int .u16 ((l.getD (i - 1) 0).toNat : Int)) zz (el_u16 (i := (i - 1)) zx zx); simpa using this) k) (st_step rfl (fun _ k => zG (zC c rfl e) k) (st_step rfl (fun _ k => zG (zC c rfl f) k) (st_index_rd slt54 (zA c rfl) h (zA c rfl) zx zx ?_)))
  intro p q n o m
  refine st_step rfl (fun _ k => zN (v := (Value.int .u16 ((l.getD i 0).toNat : Int))) one46 (zA c rfl) (by have := m 0 (.int .u16 ((l.getD i 0).toNat : Int)) zz (el_u16 (i := i) zx zx); simpa using this) k) (st_step rfl (fun _ k => op_cmp (b := (decide (((l.getD i 0).toNat : Int) ≤ ((l.getD (i - 1) 0).toNat : Int)))) (zA c rfl) (zA c rfl) (b_geq rfl) k) (st_nil (j _ _ (wp_cond_split (zA c rfl) (fun n => ?_) (fun n => ?_)))))
  ·
   have n := of_decide_eq_true n
   refine zF fun _ j => zH (zD rfl (zB (j _ _ (wp_ret (zb (zO (zO (zb (zO ( (ret1 rfl g (zA c rfl) ⟨_, rfl, ?_⟩)))))))))))
   exact ⟨hb, congrArg Value.bool (by rw [mayL, decide_eq_false (rise_bad (i := i) zx zx zx), Bool.false_and])⟩
  have n := of_decide_eq_false n
  refine wp_skip (d _ _ (zH (zG (zC c rfl f) (op_add (zA c rfl) rfl (add64 zx) (zD (zA c rfl) (zB ?_))))))
  -- round 7T 19F
  exact zg _ c g ⟨i + 1, rfl, (zL c rfl e), (zU c rfl).trans (congrArg (Value.int .i64) zx), zx, (rise_step zx zx hr zx), hb, zx, h⟩ zx
 refine zB (j _ _ (wp_cond_false (zA c rfl) (wp_exit (then_exit (then_exit (blk_hit (a _ _ (zF fun _ a => zH (zG (zC c rfl e) (op_len_rd Try.underlying54 (zA c rfl) h (op_leq (zA c rfl) rfl (fun d => ?_) (fun d => ?_))))))))))))
 ·
  refine zD (zA c rfl) (zB (a _ _ (wp_ret (ret1 rfl g (zA c rfl) ⟨_, rfl, ?_⟩))))
  have d : Rise l := by rwa [List.take_of_length_le zx] at hr
  exact ⟨hb, congrArg Value.bool (by rw [mayL, decide_eq_true d, Bool.true_and]; exact (decide_eq_true zx).symm)⟩
 refine zD (zA c rfl) (zB (a _ _ (wp_ret (ret1 rfl g (zA c rfl) ⟨_, rfl, ?_⟩))))
 have d : Rise l := by rwa [List.take_of_length_le zx] at hr
 exact ⟨hb, congrArg Value.bool (by rw [mayL, decide_eq_true d, Bool.true_and]; exact (decide_eq_false zx).symm)⟩

theorem rises_ret (l : Lb) (v : Value) (w : World) (hl : l.length ≤ 9223372036854775807) (h : RdC w 0 w.heap.size 1 v l.length (l.map u16v)) : Ret Try.prog 115 #[v] w (fun v' w' => Below w.heap.size w w' ∧ v' = .bool (decide (Rise l))) := by
 have hb := Below.refl w.heap.size w
 refine enter (N := 20) Try.func115 rfl rfl (by simp) fun a hN hd hA => ?_
 have c : a.tmps.getD 0 undef = v := hA 0 (by simp)
 clear hA
 refine zF fun _ a => ?_
 refine zH (zD rfl (zB (a _ _ (zF fun _ a => zF fun _ d => zH (zD rfl (zB (d _ _ (wp_block (loop_m (fun mz_ az_ w' => ∃ (i : Nat), mz_ = l.length - i ∧ (Sl az_ 0 v) ∧ (Sl az_ 3 (.int .i64 ((i : Nat) : Int))) ∧ (1 ≤ i ∧ (i ≤ l.length ∨ i = 1)) ∧ (Rise (l.take i)) ∧ (Below w.heap.size w w') ∧ (w.heap.size ≤ w'.heap.size) ∧ (RdC w' 0 w.heap.size 1 v l.length (l.map u16v))) _ hN hd ⟨1, rfl, (zL hN rfl c), (zU hN rfl).trans (congrArg (Value.int .i64) zx), ⟨Nat.le_refl _, .inr rfl⟩, rise_one, hb, (Nat.le_refl _), h⟩ ?_)))))))))
 rintro _ j k c g ⟨i, rfl, e, f, hi, hr, hb, m, h⟩
 have := hb.size
 refine zF fun _ d => zF fun _ j => zH (zG (zC c rfl f) (zG (zC c rfl e) (op_len_rd Try.underlying45 (zA c rfl) h (op_lss (zA c rfl) (zA c rfl) (fun k => ?_) (fun k => ?_)))))
 ·
  refine zB (j _ _ (wp_cond_true (zA c rfl) (wp_skip (d _ _ (zF fun _ d => wp_block (zF fun _ j => reg_still mixed zy ?_))))))
  intro m k
  obtain ⟨hb, _⟩ := yE hb k
  have h := h.keep0 k
  refine st_step rfl (fun _ k => zG (zC c rfl e) k) (st_step rfl (fun _ k => zG (zC c rfl f) k) (st_step rfl (fun _ k => op_sub (zA c rfl) rfl (sub64 zx) k) (st_index_rd slt45 (zA c rfl) h (zA c rfl) zx zx ?_)))
  intro p q n o m
  refine st_step rfl (fun _ k => zN (v := (Value.int .u16 ((l.getD (i - 1) 0).toNat : Int))) one46 (zA c rfl) (by have := m 0 (.int .u16 ((l.getD (i - 1) 0).toNat : Int)) zz (el_u16 (i := (i - 1)) zx zx); simpa using this) k) (st_step rfl (fun _ k => zG (zC c rfl e) k) (st_step rfl (fun _ k => zG (zC c rfl f) k) (st_index_rd slt45 (zA c rfl) h (zA c rfl) zx zx ?_)))
  intro p q n o m
  refine st_step rfl (fun _ k => zN (v := (Value.int .u16 ((l.getD i 0).toNat : Int))) one46 (zA c rfl) (by have := m 0 (.int .u16 ((l.getD i 0).toNat : Int)) zz (el_u16 (i := i) zx zx); simpa using this) k) (st_step rfl (fun _ k => op_cmp (b := (decide (((l.getD i 0).toNat : Int) ≤ ((l.getD (i - 1) 0).toNat : Int)))) (zA c rfl) (zA c rfl) (b_geq rfl) k) (st_nil (j _ _ (wp_cond_split (zA c rfl) (fun n => ?_) (fun n => ?_)))))
  ·
   have n := of_decide_eq_true n
   refine zF fun _ j => zH (zD rfl (zB (j _ _ (wp_ret (zb (zO (zO (zb (zO ( (ret1 rfl g (zA c rfl) ⟨_, rfl, ?_⟩)))))))))))
   exact ⟨hb, congrArg Value.bool (by rw [decide_eq_false (rise_bad (i := i) zx zx zx)])⟩
  have n := of_decide_eq_false n
  refine wp_skip (d _ _ (zH (zG (zC c rfl f) (op_add (zA c rfl) rfl (add64 zx) (zD (zA c rfl) (zB ?_))))))
  -- round 7T 19F
  exact zg _ c g ⟨i + 1, rfl, (zL c rfl e), (zU c rfl).trans (congrArg (Value.int .i64) zx), zx, (rise_step zx zx hr zx), hb, zx, h⟩ zx
 refine zB (j _ _ (wp_cond_false (zA c rfl) (wp_exit (then_exit (then_exit (blk_hit (a _ _ (zF fun _ a => zH (zD rfl (zB (a _ _ (wp_ret (ret1 rfl g (zA c rfl) ⟨_, rfl, ?_⟩)))))))))))))
 have a : Rise l := by rwa [List.take_of_length_le zx] at hr
 exact ⟨hb, congrArg Value.bool (by rw [decide_eq_true a])⟩

theorem cmpL_ret (l m : Lb) (v u : Value) (w : World) (hl : l.length ≤ 9223372036854775807) (hm : m.length ≤ 9223372036854775807) (h : RdC w 0 w.heap.size 1 v l.length (l.map u16v)) (h2 : RdC w 0 w.heap.size 1 u m.length (m.map u16v)) : Ret Try.prog 78 #[v, u] w (fun v' w' => Below w.heap.size w w' ∧ v' = .int .i64 (cmpL l m)) := by
 have hb := Below.refl w.heap.size w
 refine enter (N := 40) Try.func78 rfl rfl (by simp) fun a hN hd hA => ?_
 have c : a.tmps.getD 0 undef = v := hA 0 (by simp)
 have d : a.tmps.getD 1 undef = u := hA 1 (by simp)
 clear hA
 refine zF fun _ a => zH ?_
 refine zD rfl (zB (a _ _ (zF fun _ a => zF fun _ e => zH (zG (zC hN rfl c) (op_len_rd Try.underlying54 (zA hN rfl) h (zG (zC hN rfl d) (op_len_rd Try.underlying54 (zA hN rfl) h2 (op_neq (zA hN rfl) (zA hN rfl) (fun f => ?_) (fun f => ?_)))))))))
 ·
  refine zB (e _ _ (wp_cond_true (zA hN rfl) (zF fun _ e => zF fun _ f => zH (zG (zC hN rfl c) (op_len_rd Try.underlying54 (zA hN rfl) h (zG (zC hN rfl d) (op_len_rd Try.underlying54 (zA hN rfl) h2 (op_lss (zA hN rfl) (zA hN rfl) (fun g => ?_) (fun g => ?_)))))))))
  ·
   refine zB (f _ _ (wp_cond_true (zA hN rfl) (zF fun _ f => zH (zD rfl (zB (f _ _ (wp_ret (zO (zO ( (ret1 rfl hd (zA hN rfl) ⟨_, rfl, ?_⟩)))))))))))
   exact ⟨hb, congrArg (Value.int .i64) (by rw [cmpL, if_pos zx])⟩
  refine zB (f _ _ (wp_cond_false (zA hN rfl) (wp_skip (e _ _ (zF fun _ e => zH (zD rfl (zB (e _ _ (wp_ret (zO ( (ret1 rfl hd (zA hN rfl) ⟨_, rfl, ?_⟩))))))))))))
  exact ⟨hb, congrArg (Value.int .i64) (by rw [cmpL, if_neg zx, if_pos zx])⟩
 refine zB (e _ _ (wp_cond_false (zA hN rfl) (wp_skip (a _ _ (zF fun _ a => zF fun _ e => zH (zD rfl (zB (e _ _ (wp_block (loop_m (fun mz_ az_ w' => ∃ (i : Nat), mz_ = l.length - i ∧ (Sl az_ 0 v) ∧ (Sl az_ 1 u) ∧ (Sl az_ 5 (.int .i64 ((i : Nat) : Int))) ∧ (i ≤ l.length) ∧ (cmpG l m = cmpG (l.drop i) (m.drop i)) ∧ (Below w.heap.size w w') ∧ (w.heap.size ≤ w'.heap.size) ∧ (RdC w' 0 w.heap.size 1 v l.length (l.map u16v)) ∧ (RdC w' 0 w.heap.size 1 u m.length (m.map u16v))) _ hN hd ⟨0, rfl, (zL hN rfl c), (zL hN rfl d), (zU hN rfl), Nat.zero_le _, rfl, hb, (Nat.le_refl _), h, h2⟩ ?_))))))))))
 rintro _ o n c g ⟨i, rfl, j, k, d, hi, he, hb, p, h, h2⟩
 have := hb.size
 refine zF fun _ e => zF fun _ f => zH (zG (zC c rfl d) (zG (zC c rfl j) (op_len_rd Try.underlying54 (zA c rfl) h (op_lss (zA c rfl) (zA c rfl) (fun n => ?_) (fun n => ?_)))))
 ·
  refine zB (f _ _ (wp_cond_true (zA c rfl) (wp_skip (e _ _ (zF fun _ e => wp_block (zF fun _ f => zF fun _ n => reg_still mixed zy ?_))))))
  intro p o
  obtain ⟨hb, _⟩ := yE hb o
  have h := h.keep0 o
  have h2 := h2.keep0 o
  refine st_step rfl (fun _ o => zG (zC c rfl j) o) (st_step rfl (fun _ o => zG (zC c rfl d) o) (st_index_rd slt54 (zA c rfl) h (zA c rfl) zx zx ?_))
  intro s y t q p
  refine st_step rfl (fun _ o => zN (v := (Value.int .u16 ((l.getD i 0).toNat : Int))) one46 (zA c rfl) (by have := p 0 (.int .u16 ((l.getD i 0).toNat : Int)) zz (el_u16 (i := i) zx zx); simpa using this) o) (st_step rfl (fun _ o => zG (zC c rfl k) o) (st_step rfl (fun _ o => zG (zC c rfl d) o) (st_index_rd slt54 (zA c rfl) h2 (zA c rfl) zx zx ?_)))
  intro q s y t p
  refine st_step rfl (fun _ o => zN (v := (Value.int .u16 ((m.getD i 0).toNat : Int))) one46 (zA c rfl) (by have := p 0 (.int .u16 ((m.getD i 0).toNat : Int)) zz (el_u16 (i := i) zx zx); simpa using this) o) (st_step rfl (fun _ o => op_cmp (b := (decide (((l.getD i 0).toNat : Int) < ((m.getD i 0).toNat : Int)))) (zA c rfl) (zA c rfl) (b_lss rfl) o) (st_nil (n _ _ (wp_cond_split (zA c rfl) (fun q => ?_) (fun q => ?_)))))
  ·
   have q := of_decide_eq_true q
   refine zF fun _ n => zH (zD rfl (zB (n _ _ (wp_ret (zO (zb (zO (zO (zb (zO ( (ret1 rfl g (zA c rfl) ⟨_, rfl, ?_⟩))))))))))))
   exact ⟨hb, congrArg (Value.int .i64) (by rw [cmpL, if_neg zx, if_neg zx, he, cmpG_step zx zx, if_pos zx])⟩
  have q := of_decide_eq_false q
  refine wp_skip (f _ _ (zF fun _ f => reg_still mixed zy ?_))
  intro p n
  obtain ⟨hb, _⟩ := yE hb n
  have h := h.keep0 n
  have h2 := h2.keep0 n
  refine st_step rfl (fun _ o => zG (zC c rfl j) o) (st_step rfl (fun _ o => zG (zC c rfl d) o) (st_index_rd slt54 (zA c rfl) h (zA c rfl) zx zx ?_))
  intro q p s t n
  refine st_step rfl (fun _ o => zN (v := (Value.int .u16 ((l.getD i 0).toNat : Int))) one46 (zA c rfl) (by have := n 0 (.int .u16 ((l.getD i 0).toNat : Int)) zz (el_u16 (i := i) zx zx); simpa using this) o) (st_step rfl (fun _ o => zG (zC c rfl k) o) (st_step rfl (fun _ o => zG (zC c rfl d) o) (st_index_rd slt54 (zA c rfl) h2 (zA c rfl) zx zx ?_)))
  intro q t s p n
  refine st_step rfl (fun _ o => zN (v := (Value.int .u16 ((m.getD i 0).toNat : Int))) one46 (zA c rfl) (by have := n 0 (.int .u16 ((m.getD i 0).toNat : Int)) zz (el_u16 (i := i) zx zx); simpa using this) o) (st_step rfl (fun _ o => op_cmp (b := (decide (((m.getD i 0).toNat : Int) < ((l.getD i 0).toNat : Int)))) (zA c rfl) (zA c rfl) (b_gtr rfl) o) (st_nil (f _ _ (wp_cond_split (zA c rfl) (fun p => ?_) (fun p => ?_)))))
  ·
   have p := of_decide_eq_true p
   refine zF fun _ f => zH (zD rfl (zB (f _ _ (wp_ret (zb (zO (zO (zb (zO ( (ret1 rfl g (zA c rfl) ⟨_, rfl, ?_⟩)))))))))))
   exact ⟨hb, congrArg (Value.int .i64) (by rw [cmpL, if_neg zx, if_neg zx, he, cmpG_step zx zx, if_neg zx, if_pos zx])⟩
  have p := of_decide_eq_false p
  refine wp_skip (e _ _ (zH (zG (zC c rfl d) (op_add (zA c rfl) rfl (add64 zx) (zD (zA c rfl) (zB ?_))))))
  -- round 10F 19T 30F 39F
  exact zg _ c g ⟨i + 1, rfl, (zL c rfl j), (zL c rfl k), (zU c rfl).trans (congrArg (Value.int .i64) zx), zx, (he.trans ((cmpG_step zx zx).trans (by rw [if_neg zx, if_neg zx]))), hb, zx, h, h2⟩ zx
 refine zB (f _ _ (wp_cond_false (zA c rfl) (wp_exit (then_exit (then_exit (blk_hit (a _ _ (zF fun _ a => zH (zD rfl (zB (a _ _ (wp_ret (ret1 rfl g (zA c rfl) ⟨_, rfl, ?_⟩)))))))))))))
 exact ⟨hb, congrArg (Value.int .i64) (by rw [cmpL, if_neg zx, if_neg zx, he, cmpG_end zx zx])⟩

theorem sameL_ret (l m : Lb) (v u : Value) (w : World) (hl : l.length ≤ 9223372036854775807) (hm : m.length ≤ 9223372036854775807) (h : RdC w 0 w.heap.size 1 v l.length (l.map u16v)) (h2 : RdC w 0 w.heap.size 1 u m.length (m.map u16v)) : Ret Try.prog 34 #[v, u] w (fun v' w' => Below w.heap.size w w' ∧ v' = .bool (decide (l = m))) := by
 have hb := Below.refl w.heap.size w
 refine enter (N := 9) Try.func34 rfl rfl (by simp) fun a hN hd hA => ?_
 have b : a.tmps.getD 0 undef = v := hA 0 (by simp)
 have c : a.tmps.getD 1 undef = u := hA 1 (by simp)
 clear hA
 refine zF fun _ a => zH (zD rfl ?_)
 refine zB (a _ _ (zF fun _ a => zH (zG (zC hN rfl b) (zG (zC hN rfl c) (zj ok78 (cmpL_ret l m _ _ _ (by first | assumption | omega | (simp only [List.length_append, List.length_cons, List.length_nil, List.length_drop, List.length_take]; omega) | (dsimp only; omega) | decide | (simp [keyV, be8_len]; done)) (by first | assumption | omega | (simp only [List.length_append, List.length_cons, List.length_nil, List.length_drop, List.length_take]; omega) | (dsimp only; omega) | decide | (simp [keyV, be8_len]; done)) (show RdC w 0 w.heap.size 1 v l.length (l.map u16v) from by have hh : RdC w 0 w.heap.size 1 _ _ _ := (h.mono (L' := 0) (B' := w.heap.size) (Nat.zero_le _) zx); first | exact hh | exact hh.cast (by first | omega | (simp; try omega)) (by first | rfl | simp [u16v])) (show RdC w 0 w.heap.size 1 u m.length (m.map u16v) from by have hh : RdC w 0 w.heap.size 1 _ _ _ := (h2.mono (L' := 0) (B' := w.heap.size) (Nat.zero_le _) zx); first | exact hh | exact hh.cast (by first | omega | (simp; try omega)) (by first | rfl | simp [u16v]))) ⟨(zA hN rfl), ⟨(zA hN rfl), trivial⟩⟩ ?_)))))
 rintro _ c ⟨b, rfl⟩
 have b := zQ b
 obtain ⟨hb, _⟩ := yE hb b
 refine op_eql (zA hN rfl) rfl (fun b => ?_) (fun b => ?_)
 ·
  refine zD (zA hN rfl) (zB (a _ _ (wp_ret (ret1 rfl hd (zA hN rfl) ⟨_, rfl, ?_⟩))))
  exact ⟨hb, congrArg Value.bool (decide_eq_true (cmpL_zero.1 b)).symm⟩
 refine zD (zA hN rfl) (zB (a _ _ (wp_ret (ret1 rfl hd (zA hN rfl) ⟨_, rfl, ?_⟩))))
 exact ⟨hb, congrArg Value.bool (decide_eq_false (fun hh => b (cmpL_zero.2 hh))).symm⟩

theorem growW_ret (n : Nat) (w : World) (hn : n ≤ 1000000000000) : Ret Try.prog 135 #[(.slice none 0 0), (.int .i64 ((n : Nat) : Int))] w (fun v' w' => Below w.heap.size w w' ∧ Own w' w.heap.size 46 1 v' 0 []) := by
 have hb := Below.refl w.heap.size w
 refine enter (N := 27) Try.func135 rfl rfl (by simp) fun a hN hd hA => ?_
 have b : a.tmps.getD 0 undef = (.slice none 0 0) := hA 0 (by simp)
 have d : a.tmps.getD 1 undef = (.int .i64 ((n : Nat) : Int)) := hA 1 (by simp)
 clear hA
 refine zF fun _ a => zH (zD rfl (zB (a _ _ (zF fun _ a => zF fun _ e => zH (zG (zC hN rfl d) (op_lss (zA hN rfl) rfl (fun f => ?_) (fun f => ?_)))))))
 ·
  exfalso; omega
 refine zB (e _ _ (wp_cond_false (zA hN rfl) (wp_skip (a _ _ (zF fun _ a => zF fun _ e => zH (zG (zC hN rfl d) (zG (zC hN rfl b) (op_cap (c := 0) Try.underlying54 (.inl ⟨(zA hN rfl), rfl⟩) ?_))))))))
 refine zG (zC hN rfl b) (op_len_rd Try.underlying54 (zA hN rfl) (RdC.nil _ 0 0 1) (op_sub (r := 0) (zA hN rfl) (zA hN rfl) zz (op_sub (r := ((n : Nat) : Int)) (zA hN rfl) (zA hN rfl) (by rw [IntKind.wrap_i64]; omega) (zD (zA hN rfl) (zB (e _ _ (zF fun _ e => zH (zG (zA hN rfl) (op_gtr (zA hN rfl) rfl (fun d => ?_) (fun d => ?_))))))))))
 ·
  refine zB (e _ _ (wp_cond_true (zA hN rfl) (zH (zG (zC hN rfl b) (zG (zC hN rfl b) (op_cap (c := 0) Try.underlying54 (.inl ⟨(zA hN rfl), rfl⟩) (op_slice_nil slt54 (zA hN rfl) (zA hN rfl) (zG (zA hN rfl) (op_append_zeros_nil (n := n) (base := w.heap.size) slt54 Try.underlying3 (zA hN rfl) (zA hN rfl) zx zx zx hb.size ?_)))))))))
  intro j g h f d k
  obtain ⟨hb, _⟩ := yE hb d
  refine zG (zC hN rfl b) (op_len_rd Try.underlying54 (zA hN rfl) (RdC.nil _ 0 0 1) (op_slice_own_hi (m := 0) slt54 (zA hN rfl) f (zA hN rfl) rfl zx ?_))
  intro f d h
  have d : Own g w.heap.size 46 1 f 0 ([]) := by exact d.cast rfl (by simp)
  refine zD (zA hN rfl) (zB (a _ _ (zF fun _ a => zH (zG (zA hN rfl) (zD (zA hN rfl) (zB (a _ _ (wp_ret (ret1 rfl hd (zA hN rfl) ⟨_, rfl, ?_⟩)))))))))
  exact ⟨hb, d⟩
 refine zB (e _ _ (wp_cond_false (zA hN rfl) (wp_skip (a _ _ (zF fun _ a => zH (zG (zC hN rfl b) (zD (zA hN rfl) (zB (a _ _ (wp_ret (ret1 rfl hd (zA hN rfl) ⟨_, rfl, ?_⟩)))))))))))
 exact ⟨hb, Own.nil _ _ _ _⟩

theorem concatW_ret (l m : Lb) (v u1 u2 : Value) (w : World) (hz : l.length ≤ 1000000000) (hzm : m.length ≤ 1000000000) (hv : RdC w 0 w.heap.size 1 v 2 [u1, u2]) (hl : RdC w 0 w.heap.size 1 u1 l.length (l.map u16v)) (hm : RdC w 0 w.heap.size 1 u2 m.length (m.map u16v)) : Ret Try.prog 117 #[v] w (fun v' w' => Below w.heap.size w w' ∧ Own w' w.heap.size 46 1 v' (l ++ m).length ((l ++ m).map u16v)) := by
 have hb := Below.refl w.heap.size w
 refine enter (N := 36) Try.func117 rfl rfl (by simp) fun a hN hd hA => ?_
 have b : a.tmps.getD 0 undef = v := hA 0 (by simp)
 clear hA
 refine zF fun _ a => zH (zD rfl (zB (a _ _ (zF fun _ a => zH (zD rfl ?_)))))
 refine zB (a _ _ (zF fun _ a => zF fun _ c => zH (zG (zC hN rfl b) (op_len_rd Try.underlying49 (zA hN rfl) hv (zG rfl (zB (c _ _ (wp_block (wp_loop_rounds 3 ?_)))))))))
 refine rounds_any fun _ c => zF fun _ d => zH (op_bin (v := .bool true) (zA hN rfl) (zA hN rfl) (by rw [binOp_lss]; rfl) (zB (d _ _ (zF fun _ d => wp_cond_true (zA hN rfl) (wp_skip (d _ _ (zF fun _ d => wp_block (zF fun _ e => zH (zh slt49 (zA hN rfl) hv (zA hN rfl) zx zx ?_)))))))))
 intro h k g j f
 refine zN (v := u1) one54 (zA hN rfl) (by have := f 0 u1 zz rfl; simpa using this) (zD (zA hN rfl) (zB (e _ _ (zF fun _ e => zH ?_))))
 refine zG (zA hN rfl) (zG (zA hN rfl) (op_len_rd Try.underlying54 (zA hN rfl) hl (op_add (zA hN rfl) (zA hN rfl) (add64 zx) (zD (zA hN rfl) (zB (e _ _ (zF fun _ e => zH (zG (zA hN rfl) (op_lss (zA hN rfl) rfl (fun f => ?_) (fun f => ?_))))))))))
 ·
  exfalso; omega
 refine zB (e _ _ (wp_cond_false (zA hN rfl) (wp_skip (d _ _ (zH (op_add (r := 1) (zA hN rfl) rfl zz (zG (zA hN rfl) (zB ?_))))))))
 refine c _ _ (rounds_any fun _ c => zF fun _ d => zH (op_bin (v := .bool true) (zA hN rfl) (zA hN rfl) (by rw [binOp_lss]; rfl) (zB (d _ _ (zF fun _ d => wp_cond_true (zA hN rfl) (wp_skip (d _ _ (zF fun _ d => wp_block (zF fun _ e => zH (zh slt49 (zA hN rfl) hv (zA hN rfl) zx zx ?_))))))))))
 intro k n h j g
 refine zN (v := u2) one54 (zA hN rfl) (by have := g 0 u2 zz rfl; simpa using this) (zD (zA hN rfl) (zB (e _ _ (zF fun _ e => zH ?_))))
 refine zG (zA hN rfl) (zG (zA hN rfl) (op_len_rd Try.underlying54 (zA hN rfl) hm (op_add (zA hN rfl) (zA hN rfl) (add64 zx) (zD (zA hN rfl) (zB (e _ _ (zF fun _ e => zH (zG (zA hN rfl) (op_lss (zA hN rfl) rfl (fun f => ?_) (fun f => ?_))))))))))
 ·
  exfalso; omega
 refine zB (e _ _ (wp_cond_false (zA hN rfl) (wp_skip (d _ _ (zH (op_add (r := 2) (zA hN rfl) rfl zz (zG (zA hN rfl) (zB (c _ _ (rounds_any fun _ c => zF fun _ d => zH (op_bin (v := .bool false) (zA hN rfl) (zA hN rfl) (by rw [binOp_lss]; rfl) (zB ?_))))))))))))
 refine d _ _ (zF fun _ d => wp_cond_false (zA hN rfl) (wp_exit (then_exit (then_exit (blk_hit (a _ _ (zF fun _ a => zH (zG (zA hN rfl) (zj ok135 (growW_ret ((0 + (l.length)) + (m.length)) _ zx) ⟨rfl, ⟨(zA hN rfl), trivial⟩⟩ ?_)))))))))
 rintro h j ⟨f, g⟩
 have f := zQ f
 obtain ⟨hb, _⟩ := yE hb f
 have hv := hv.keep0 f
 have hl := hl.keep0 f
 have g := g.mono (base' := w.heap.size) zx
 refine zD (zA hN rfl) ?_
 refine zB (a _ _ (zF fun _ a => zF fun _ c => zH (zG (zC hN rfl b) (op_len_rd Try.underlying49 (zA hN rfl) hv (zG rfl (zB (c _ _ (wp_block (wp_loop_rounds 3 ?_)))))))))
 refine rounds_any fun _ c => zF fun _ d => zH (op_bin (v := .bool true) (zA hN rfl) (zA hN rfl) (by rw [binOp_lss]; rfl) (zB (d _ _ (zF fun _ d => wp_cond_true (zA hN rfl) (wp_skip (d _ _ (zF fun _ d => wp_block (zF fun _ e => zH (zh slt49 (zA hN rfl) hv (zA hN rfl) zx zx ?_)))))))))
 intro n k h j b
 refine zN (v := u1) one54 (zA hN rfl) (by have := b 0 u1 zz rfl; simpa using this) (zD (zA hN rfl) (zB (e _ _ (zH (zG (zA hN rfl) (zG (zA hN rfl) ?_))))))
 have b := g
 refine op_append slt54 (zA hN rfl) b (zA hN rfl) (Src.ofRd Try.underlying54 zz hl (one_u16 _)) (by unfold maxLen; omega) zx hb.size ?_
 intro k j h g n
 have := g.size
 have hv := hv.keepO b g zx
 have hm := (hm.keep0 f).keepO b g zx
 have hb := below_stepO hb b g hb.size zx
 have h : Own j w.heap.size 46 1 k (0 + l.length) ((l).map u16v) := by simpa [u8v, u16v, cellsV] using h
 refine zD (zA hN rfl) (zB (d _ _ (zH (op_add (r := 1) (zA hN rfl) rfl zz (zG (zA hN rfl) (zB ?_))))))
 refine c _ _ (rounds_any fun _ c => zF fun _ d => zH (op_bin (v := .bool true) (zA hN rfl) (zA hN rfl) (by rw [binOp_lss]; rfl) (zB (d _ _ (zF fun _ d => wp_cond_true (zA hN rfl) (wp_skip (d _ _ (zF fun _ d => wp_block (zF fun _ e => zH (zh slt49 (zA hN rfl) hv (zA hN rfl) zx zx ?_))))))))))
 intro o n k j f
 refine zN (v := u2) one54 (zA hN rfl) (by have := f 0 u2 zz rfl; simpa using this) (zD (zA hN rfl) (zB (e _ _ (zH (zG (zA hN rfl) (zG (zA hN rfl) ?_))))))
 have e := h
 refine op_append slt54 (zA hN rfl) e (zA hN rfl) (Src.ofRd Try.underlying54 zz hm (one_u16 _)) (by unfold maxLen; omega) zx hb.size ?_
 intro k j f h n
 have := h.size
 have hl := (hl.keepO b g zx).keepO e h zx
 have hb := below_stepO hb e h hb.size zx
 have f : Own j w.heap.size 46 1 k ((0 + l.length) + m.length) (((l ++ m)).map u16v) := by simpa [u8v, u16v, cellsV] using f
 refine zD (zA hN rfl) (zB (d _ _ (zH (op_add (r := 2) (zA hN rfl) rfl zz (zG (zA hN rfl) (zB (c _ _ (rounds_any fun _ c => zF fun _ d => zH ?_))))))))
 refine op_bin (v := .bool false) (zA hN rfl) (zA hN rfl) (by rw [binOp_lss]; rfl) (zB (d _ _ (zF fun _ d => wp_cond_false (zA hN rfl) (wp_exit (then_exit (then_exit (blk_hit (a _ _ (zF fun _ a => zH (zG (zA hN rfl) (zD (zA hN rfl) (zB (a _ _ (wp_ret (ret1 rfl hd (zA hN rfl) ⟨_, rfl, ?_⟩)))))))))))))))
 exact ⟨hb, f.cast (by simp) (by simp)⟩

theorem joinW_ret (l m : Lb) (v u : Value) (w : World) (hl2 : l.length ≤ 1000000000) (hm2 : m.length ≤ 1000000000) (hl : RdC w 0 w.heap.size 1 v l.length (l.map u16v)) (hm : RdC w 0 w.heap.size 1 u m.length (m.map u16v)) : Ret Try.prog 91 #[v, u] w (fun v' w' => Below w.heap.size w w' ∧ Own w' w.heap.size 46 1 v' (joinL l m).length ((joinL l m).map u16v)) := by
 have hb := Below.refl w.heap.size w
 refine enter (N := 10) Try.func91 rfl rfl (by simp) fun a hN hd hA => ?_
 have b : a.tmps.getD 0 undef = v := hA 0 (by simp)
 have c : a.tmps.getD 1 undef = u := hA 1 (by simp)
 clear hA
 refine zF fun _ a => zH (zD rfl (zB (a _ _ (zF fun _ a => zH (zG (zC hN rfl b) (zG (zC hN rfl c) (op_bslice (e := 54) (pv := [(0, v), (1, u)]) (cs := [v, u]) ⟨rfl, (zA hN rfl), ⟨rfl, (zA hN rfl), trivial⟩⟩ (by obtain ⟨_, _, _, rfl⟩ := hl.sl; obtain ⟨_, _, _, rfl⟩ := hm.sl; kernel_rfl) ?_)))))))
 intro b f h g d c
 obtain ⟨hb, _⟩ := yE hb c
 have hl := hl.keep0 c
 have hm := hm.keep0 c
 refine zj ok117 (concatW_ret l m _ _ _ _ (by first | assumption | omega | (simp only [List.length_append, List.length_cons, List.length_nil, List.length_drop, List.length_take]; omega) | (dsimp only; omega) | decide | (simp [keyV, be8_len]; done)) (by first | assumption | omega | (simp only [List.length_append, List.length_cons, List.length_nil, List.length_drop, List.length_take]; omega) | (dsimp only; omega) | decide | (simp [keyV, be8_len]; done)) ((RdC.ofBx (sz := 1) (n := 2) d rfl zz).mono (Nat.zero_le _) (by have := d.lt; omega)) (show RdC b 0 b.heap.size 1 v l.length (l.map u16v) from by have hh : RdC b 0 b.heap.size 1 _ _ _ := (hl.mono (L' := 0) (B' := b.heap.size) (Nat.zero_le _) zx); first | exact hh | exact hh.cast (by first | omega | (simp; try omega)) (by first | rfl | simp [u16v])) (show RdC b 0 b.heap.size 1 u m.length (m.map u16v) from by have hh : RdC b 0 b.heap.size 1 _ _ _ := (hm.mono (L' := 0) (B' := b.heap.size) (Nat.zero_le _) zx); first | exact hh | exact hh.cast (by first | omega | (simp; try omega)) (by first | rfl | simp [u16v]))) ⟨(zA hN rfl), trivial⟩ ?_
 rintro f b ⟨c, d⟩
 have c := zQ c
 obtain ⟨hb, _⟩ := yE hb c
 have d := d.mono (base' := w.heap.size) zx
 refine zj ok116 (sortedW_ret (l ++ m) _ _ (by first | assumption | omega | (simp only [List.length_append, List.length_cons, List.length_nil, List.length_drop, List.length_take]; omega) | (dsimp only; omega) | decide | (simp [keyV, be8_len]; done)) (show RdC b 0 b.heap.size 1 f (l ++ m).length ((l ++ m).map u16v) from by have hh : RdC b 0 b.heap.size 1 _ _ _ := (d.rdw.mono (L' := 0) (B' := b.heap.size) (Nat.zero_le _) zx); first | exact hh | exact hh.cast (by first | omega | (simp; try omega)) (by first | rfl | simp [u16v]))) ⟨(zA hN rfl), trivial⟩ ?_
 rintro g f ⟨b, d⟩
 have b := zQ b
 obtain ⟨hb, _⟩ := yE hb b
 have hl := (hl.keep0 c).keep0 b
 have d := d.mono (base' := w.heap.size) zx
 refine zD (zA hN rfl) (zB (a _ _ (wp_ret (ret1 rfl hd (zA hN rfl) ⟨_, rfl, ?_⟩))))
 exact ⟨hb, d⟩

theorem rjoinW_ret (l m : Lb) (v u : Value) (w : World) (hl2 : l.length ≤ 1000000000) (hm2 : m.length ≤ 1000000000) (hl : RdC w 0 w.heap.size 1 v l.length (l.map u16v)) (hm : RdC w 0 w.heap.size 1 u m.length (m.map u16v)) : Ret Try.prog 51 #[v, u] w (fun v' w' => Below w.heap.size w w' ∧ Own w' w.heap.size 46 1 v' (joinL l m).length ((joinL l m).map u16v)) := by
 have hb := Below.refl w.heap.size w
 refine enter (N := 11) Try.func51 rfl rfl (by simp) fun a hN hd hA => ?_
 have b : a.tmps.getD 0 undef = v := hA 0 (by simp)
 have c : a.tmps.getD 1 undef = u := hA 1 (by simp)
 clear hA
 refine zF fun _ a => zH (zD rfl (zB (a _ _ (zF fun _ a => zH (op_bslice (e := 46) (pv := []) (cs := []) trivial zy ?_)))))
 intro g k j h f d
 obtain ⟨hb, _⟩ := yE hb d
 have hl := hl.keep0 d
 refine zG (zC hN rfl b) ?_
 have b := (Own.ofBx (base := w.heap.size) (sz := 1) (n := 0) f rfl zz zx)
 refine op_append slt45 (zA hN rfl) b (zA hN rfl) (Src.ofRd Try.underlying54 zz hl (one_u16 _)) (by unfold maxLen; omega) zx hb.size ?_
 intro h j g f k
 have := f.size
 have hm := (hm.keep0 d).keepO b f zx
 have hb := below_stepO hb b f hb.size zx
 have g : Own j w.heap.size 46 1 h (0 + l.length) ((l).map u16v) := by simpa [u8v, u16v, cellsV] using g
 refine zG (zC hN rfl c) ?_
 have c := g
 refine op_append slt45 (zA hN rfl) c (zA hN rfl) (Src.ofRd Try.underlying54 zz hm (one_u16 _)) (by unfold maxLen; omega) zx hb.size ?_
 intro j d g h k
 have := h.size
 have hb := below_stepO hb c h hb.size zx
 have g : Own d w.heap.size 46 1 j ((0 + l.length) + m.length) (((l ++ m)).map u16v) := by simpa [u8v, u16v, cellsV] using g
 refine zj ok92 (rallW_ret (l ++ m) _ _ (by first | assumption | omega | (simp only [List.length_append, List.length_cons, List.length_nil, List.length_drop, List.length_take]; omega) | (dsimp only; omega) | decide | (simp [keyV, be8_len]; done)) (show RdC d 0 d.heap.size 1 j (l ++ m).length ((l ++ m).map u16v) from by have hh : RdC d 0 d.heap.size 1 _ _ _ := (g.rdw.mono (L' := 0) (B' := d.heap.size) (Nat.zero_le _) zx); first | exact hh | exact hh.cast (by first | omega | (simp; try omega)) (by first | rfl | simp [u16v]))) ⟨(zA hN rfl), trivial⟩ ?_
 rintro j k ⟨d, g⟩
 have d := zQ d
 obtain ⟨hb, _⟩ := yE hb d
 have hl := ((hl.keepO b f zx).keepO c h zx).keep0 d
 have g := g.mono (base' := w.heap.size) zx
 refine zD (zA hN rfl) (zB (a _ _ (wp_ret (ret1 rfl hd (zA hN rfl) ⟨_, rfl, ?_⟩))))
 exact ⟨hb, g⟩

end Go.Proofs.Ytmhdbphpmgjpcaa
