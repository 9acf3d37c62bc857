/- Walks, written by a program: what each function of the translation hands back. -/
import Derived.Test.YtmhdbphpmgjpcaaB2
set_option linter.unusedVariables false
set_option linter.unusedSimpArgs false

namespace Go.Proofs.Ytmhdbphpmgjpcaa
open Go.Gx Go.RowKit
attribute [local irreducible] wpList wpStill Code.wp Calls
open Go.Sort (insertionSort insOuter insInner swp siftDown heapSort heapBuild heapPop scanUp scanDown partition partLoop partitionEqual partEqLoop scanSorted partialIns bitsLen partialInsertionSort shiftDown shiftUp SortedIn reverseRange reverseLoop fixDown fixUp)
set_option maxHeartbeats 2000000 in
theorem siftDownW_ret (d : Ar) (v : Value) (n base : Nat) (lo hi fi : Nat) (w : World) (hd : d.size = n) (hn : n ≤ 4000000000000000000) (O : Own w base 46 1 v n (d.toList.map u16v)) (hfh : fi + hi ≤ n) (hlo : lo ≤ n) : Ret Try.prog 173 #[v, (.int .i64 ((lo : Nat) : Int)), (.int .i64 ((hi : Nat) : Int)), (.int .i64 ((fi : Nat) : Int))] w (fun v' w' => w.grownBy w' v.ownBlock ∧ v' = .tuple #[] ∧ Own w' base 46 1 v n ((siftDown ltT hi fi lo d).toList.map u16v)) := by
 have hb := grown_refl w v.ownBlock
 refine enter (N := 76) Try.func173 rfl rfl (by simp) fun a hN hd hA => ?_
 have c : a.tmps.getD 0 undef = v := hA 0 (by simp)
 have f : a.tmps.getD 1 undef = (.int .i64 ((lo : Nat) : Int)) := hA 1 (by simp)
 have g : a.tmps.getD 2 undef = (.int .i64 ((hi : Nat) : Int)) := hA 2 (by simp)
 have k : a.tmps.getD 3 undef = (.int .i64 ((fi : Nat) : Int)) := hA 3 (by simp)
 clear hA
 refine zF fun _ l => zH (zG (zC hN rfl f) (zD (zA hN rfl) (zB (l _ _ (wp_block (loop_m (fun mz_ az_ w' => ∃ (rt : Nat) (dk : Ar), mz_ = (hi + lo + 1 - rt) ∧ (Sl az_ 0 v) ∧ (Sl az_ 2 (.int .i64 ((hi : Nat) : Int))) ∧ (Sl az_ 3 (.int .i64 ((fi : Nat) : Int))) ∧ (Sl az_ 8 (.int .i64 ((rt : Nat) : Int))) ∧ (dk.size = n) ∧ (rt < hi ∨ rt = lo) ∧ (siftDown ltT hi fi lo d = siftDown ltT hi fi rt dk) ∧ (w.grownBy w' v.ownBlock) ∧ (w.heap.size ≤ w'.heap.size) ∧ (Own w' base 46 1 v n (dk.toList.map u16v))) _ hN hd ⟨lo, _, rfl, (zL hN rfl c), (zL hN rfl g), (zL hN rfl k), (zU hN rfl).trans (congrArg (Value.int .i64) zx), (by first | assumption | (simp only [Array.size_setIfInBounds, swp_sz, siftDown_size]; assumption)), .inr rfl, rfl, hb, (Nat.le_refl _), O⟩ ?_))))))
 rintro _ A y m t ⟨rt, dk, rfl, q, u, p, s, hdk, hrt, hs, hb, z, o⟩
 have := hb.size
 refine wp_block (zF fun _ l => zH (zG (zC m rfl s) ?_))
 refine op_mul rfl (zA m rfl) (mul64 zx) (op_add (zA m rfl) rfl (add64 zx) (zD (zA m rfl) (zB (l _ _ (zF fun _ l => zF fun _ B => zH (zG (zA m rfl) (zG (zC m rfl u) (op_geq (zA m rfl) (zA m rfl) (fun C => ?_) (fun C => ?_)))))))))
 ·
  refine zB (B _ _ (wp_cond_true (zA m rfl) (wp_exit (then_exit (blk_miss zz (then_exit (blk_hit (end_ret (ret0 rfl t  ⟨_, rfl, ?_⟩)))))))))
  exact ⟨hb, rfl, o.cast rfl (by rw [hs, siftDown_stop zx])⟩
 refine zB (B _ _ (wp_cond_false (zA m rfl) (wp_skip (l _ _ (zF fun _ l => zF fun _ B => reg_still mixed zy ?_)))))
 intro E D
 have := D.size
 have o := o.keep0 D
 have hb := grow_step0 hb D
 refine st_step rfl (fun _ F => zG (zA m rfl) F) (st_step rfl (fun _ F => op_add (zA m rfl) rfl (add64 zx) F) (st_step rfl (fun _ F => zG (zC m rfl u) F) ?_))
 by_cases G : (((2 * ((rt : Nat) : Int)) + 1) + 1) < ((hi : Nat) : Int)
 ·
  refine st_step rfl (fun _ F => op_cmp (b := true) (zA m rfl) (zA m rfl) (b_lss (decide_eq_true G)) F) (st_step rfl (fun _ F => zG (zA m rfl) F) ?_)
  refine st_g_true (j := 4) (dj := 21) (b := true) rfl rfl rfl (zA m rfl) (st_step rfl (fun _ F => zG (zC m rfl q) F) (st_g_true (j := 4) (dj := 21) (b := true) rfl rfl rfl (zA m rfl) (st_step rfl (fun _ F => zG (zC m rfl p) F) (st_g_true (j := 4) (dj := 21) (b := true) rfl rfl rfl (zA m rfl) (st_step rfl (fun _ F => zG (zA m rfl) F) (st_g_true (j := 4) (dj := 21) (b := true) rfl rfl rfl (zA m rfl) (st_step rfl (fun _ F => op_add (zA m rfl) (zA m rfl) (add64 zx) F) (st_g_true (j := 4) (dj := 21) (b := true) rfl rfl rfl (zA m rfl) (st_index_rd slt45 (zA m rfl) o.rdw (zA m rfl) zx zx ?_)))))))))
  intro J L I K H
  refine st_g_true (j := 4) (dj := 21) (b := true) rfl rfl rfl (zA m rfl) (st_step rfl (fun _ F => zN (v := (Value.int .u16 (dk[(fi + ((2 * rt) + 1))]!.toNat : Int))) one46 (zA m rfl) (by have := H 0 (.int .u16 (dk[(fi + ((2 * rt) + 1))]!.toNat : Int)) zz (el_arr (i := (fi + ((2 * rt) + 1))) zx (by first | omega | (simp only [Array.size_setIfInBounds, swp_sz, siftDown_size]; omega))); simpa using this) F) (st_g_true (j := 4) (dj := 21) (b := true) rfl rfl rfl (zA m rfl) (st_step rfl (fun _ F => zG (zC m rfl q) F) ?_)))
  refine st_g_true (j := 4) (dj := 21) (b := true) rfl rfl rfl (zA m rfl) (st_step rfl (fun _ F => zG (zC m rfl p) F) (st_g_true (j := 4) (dj := 21) (b := true) rfl rfl rfl (zA m rfl) (st_step rfl (fun _ F => zG (zA m rfl) F) (st_g_true (j := 4) (dj := 21) (b := true) rfl rfl rfl (zA m rfl) (st_step rfl (fun _ F => op_add (zA m rfl) (zA m rfl) (add64 zx) F) (st_g_true (j := 4) (dj := 21) (b := true) rfl rfl rfl (zA m rfl) (st_step rfl (fun _ F => op_add (zA m rfl) rfl (add64 zx) F) (st_g_true (j := 4) (dj := 21) (b := true) rfl rfl rfl (zA m rfl) (st_index_rd slt45 (zA m rfl) o.rdw (zA m rfl) zx zx ?_)))))))))
  intro P Q R S M
  refine st_g_true (j := 4) (dj := 21) (b := true) rfl rfl rfl (zA m rfl) (st_step rfl (fun _ F => zN (v := (Value.int .u16 (dk[((fi + ((2 * rt) + 1)) + 1)]!.toNat : Int))) one46 (zA m rfl) (by have := M 0 (.int .u16 (dk[((fi + ((2 * rt) + 1)) + 1)]!.toNat : Int)) zz (el_arr (i := ((fi + ((2 * rt) + 1)) + 1)) zx (by first | omega | (simp only [Array.size_setIfInBounds, swp_sz, siftDown_size]; omega))); simpa using this) F) (st_g_true (j := 4) (dj := 21) (b := true) rfl rfl rfl (zA m rfl) (st_fn (vs := [(.int .u16 (dk[(fi + ((2 * rt) + 1))]!.toNat : Int)), (.int .u16 (dk[((fi + ((2 * rt) + 1)) + 1)]!.toNat : Int))]) ok159 (⟨(zA m rfl), ⟨(zA m rfl), trivial⟩⟩) (Less16_ret dk[(fi + ((2 * rt) + 1))]! dk[((fi + ((2 * rt) + 1)) + 1)]! _) (st_step rfl (fun _ F => zc (zA m rfl) (zA m rfl) F) (st_nil (B _ _ (wp_cond_split (zA m rfl) (fun T => ?_) (fun T => ?_))))))))
  ·
   refine zH (zG (zA m rfl) (op_add (zA m rfl) rfl (add64 zx) (zD (zA m rfl) (zB (l _ _ (zF fun _ l => zF fun _ B => reg_still mixed zy ?_))))))
   intro V U
   have := U.size
   have o := o.keep0 U
   have hb := grow_step0 hb U
   refine st_step rfl (fun _ F => zG (zC m rfl q) F) (st_step rfl (fun _ F => zG (zC m rfl p) F) (st_step rfl (fun _ F => zG (zC m rfl s) F) (st_step rfl (fun _ F => op_add (zA m rfl) (zA m rfl) (add64 zx) F) (st_index_rd slt45 (zA m rfl) o.rdw (zA m rfl) zx zx ?_))))
   intro Z aa X Y W
   refine st_step rfl (fun _ F => zN (v := (Value.int .u16 (dk[(fi + rt)]!.toNat : Int))) one46 (zA m rfl) (by have := W 0 (.int .u16 (dk[(fi + rt)]!.toNat : Int)) zz (el_arr (i := (fi + rt)) zx (by first | omega | (simp only [Array.size_setIfInBounds, swp_sz, siftDown_size]; omega))); simpa using this) F) (st_step rfl (fun _ F => zG (zC m rfl q) F) (st_step rfl (fun _ F => zG (zC m rfl p) F) (st_step rfl (fun _ F => zG (zA m rfl) F) (st_step rfl (fun _ F => op_add (zA m rfl) (zA m rfl) (add64 zx) F) (st_index_rd slt45 (zA m rfl) o.rdw (zA m rfl) zx zx ?_)))))
   intro ad af ae ac ab
   refine st_step rfl (fun _ F => zN (v := (Value.int .u16 (dk[(fi + (((2 * rt) + 1) + 1))]!.toNat : Int))) one46 (zA m rfl) (by have := ab 0 (.int .u16 (dk[(fi + (((2 * rt) + 1) + 1))]!.toNat : Int)) zz (el_arr (i := (fi + (((2 * rt) + 1) + 1))) zx (by first | omega | (simp only [Array.size_setIfInBounds, swp_sz, siftDown_size]; omega))); simpa using this) F) (st_fn (vs := [(.int .u16 (dk[(fi + rt)]!.toNat : Int)), (.int .u16 (dk[(fi + (((2 * rt) + 1) + 1))]!.toNat : Int))]) ok159 (⟨(zA m rfl), ⟨(zA m rfl), trivial⟩⟩) (Less16_ret dk[(fi + rt)]! dk[(fi + (((2 * rt) + 1) + 1))]! _) (st_step rfl (fun _ F => op_not (zA m rfl) F) (st_nil (B _ _ (wp_cond_split (zA m rfl) (fun ag => ?_) (fun ag => ?_))))))
   ·
    refine wp_ret (zO (zb (zO (zb ( (ret0 rfl t  ⟨_, rfl, ?_⟩))))))
    have hch : childS hi fi rt dk = 2 * rt + 2 := childS_t zx T
    exact ⟨hb, rfl, o.cast rfl (by rw [hs, siftDown_ret zx (by rw [hch]; simpa [Nat.add_assoc] using ag)])⟩
   refine wp_skip (l _ _ (zF fun _ l => ?_))
   refine reg_mid (e := 46) (sz := 1) (base := base) (n := n) (v := v) (Φ := phiL [(fun uz _ => uz = v), (fun uz _ => uz = (.int .i64 ((fi : Nat) : Int))), (fun uz _ => uz = (.int .i64 ((rt : Nat) : Int))), (fun uz _ => uz = (.int .i64 (((fi : Nat) : Int) + ((rt : Nat) : Int)))), (fun uz _ => uz = v), (fun uz _ => uz = (.int .i64 ((fi : Nat) : Int))), (fun uz _ => uz = (.int .i64 (((2 * ((rt : Nat) : Int)) + 1) + 1))), (fun uz _ => uz = (.int .i64 (((fi : Nat) : Int) + (((2 * ((rt : Nat) : Int)) + 1) + 1)))), (fun uz _ => uz = v), (fun uz _ => uz = (.int .i64 ((fi : Nat) : Int))), (fun uz _ => uz = (.int .i64 (((2 * ((rt : Nat) : Int)) + 1) + 1))), (fun uz _ => uz = (.int .i64 (((fi : Nat) : Int) + (((2 * ((rt : Nat) : Int)) + 1) + 1)))), (fun uz _ => ∃ bz oz, uz = ptr bz oz ∧ AtV v (fi + (((2 * rt) + 1) + 1)) bz oz), (fun uz _ => uz = (.int .u16 (dk[(fi + (((2 * rt) + 1) + 1))]!.toNat : Int))), (fun uz _ => uz = v), (fun uz _ => uz = (.int .i64 ((fi : Nat) : Int))), (fun uz _ => uz = (.int .i64 ((rt : Nat) : Int))), (fun uz _ => uz = (.int .i64 (((fi : Nat) : Int) + ((rt : Nat) : Int)))), (fun uz _ => ∃ bz oz, uz = ptr bz oz ∧ AtV v (fi + rt) bz oz), (fun uz _ => uz = (.int .u16 (dk[(fi + rt)]!.toNat : Int))), (fun uz _ => ∃ bz oz, uz = ptr bz oz ∧ AtV v (fi + rt) bz oz), (fun _ _ => True), (fun uz _ => ∃ bz oz, uz = ptr bz oz ∧ AtV v (fi + (((2 * rt) + 1) + 1)) bz oz), (fun _ _ => True)]) [21, 23] [(dk.toList.map u16v), ((dk.setIfInBounds (fi + rt) dk[(fi + (((2 * rt) + 1) + 1))]!).toList.map u16v), (((dk.setIfInBounds (fi + rt) dk[(fi + (((2 * rt) + 1) + 1))]!).setIfInBounds (fi + (((2 * rt) + 1) + 1)) dk[(fi + rt)]!).toList.map u16v)] mixed zy zy zy zy m o (StL.get (StL.eq (StL.eq (StL.eq (StL.eq (StL.eq (StL.eq (StL.eq (StL.eq (StL.eq (StL.eq (StL.eq (StL.eq (StL.at (StL.eq (StL.eq (StL.eq (StL.eq (StL.eq (StL.at (StL.eq (StL.at (StL.cons (fun _ _ _ _ h => h) (StL.at (StL.cons (fun _ _ _ _ h => h) (StL.nil _)))))))))))))))))))))))))) (ObRs.get (ObRs.cons ?_ (ObRs.cons ?_ (ObRs.cons ?_ (ObRs.cons ?_ (ObRs.cons ?_ (ObRs.cons ?_ (ObRs.cons ?_ (ObRs.cons ?_ (ObRs.cons ?_ (ObRs.cons ?_ (ObRs.cons ?_ (ObRs.cons ?_ (ObRs.cons ?_ (ObRs.cons ?_ (ObRs.cons ?_ (ObRs.cons ?_ (ObRs.cons ?_ (ObRs.cons ?_ (ObRs.cons ?_ (ObRs.cons ?_ (ObRs.cons ?_ (ObRs.pass rfl (ObRs.cons ?_ (ObRs.pass rfl (ObRs.nil)))))))))))))))))))))))))) (ObWs.get (ObWs.cons ?_ (ObWs.cons ?_ (ObWs.nil)))) ?_
   ·
    intro aA wA cA hNA hRA hckA hOA hbsA hdpA
    have ah := (hbsA 0 rfl).trans (zL m rfl q)
    clear hbsA hdpA
    refine zG (zC hNA rfl ah) ?_
    exact obR_end rfl rfl (grown_refl _ _)
   ·
    intro aA wA cA hNA hRA hckA hOA hbsA hdpA
    have ai := (hbsA 3 rfl).trans (zL m rfl p)
    clear hbsA hdpA
    refine zG (zC hNA rfl ai) ?_
    exact obR_end rfl rfl (grown_refl _ _)
   ·
    intro aA wA cA hNA hRA hckA hOA hbsA hdpA
    have aj := (hbsA 8 rfl).trans (zL m rfl s)
    clear hbsA hdpA
    refine zG (zC hNA rfl aj) ?_
    exact obR_end rfl rfl (grown_refl _ _)
   ·
    intro aA wA cA hNA hRA hckA hOA hbsA hdpA
    have ak : Sl aA 54 (.int .i64 ((fi : Nat) : Int)) := hdpA 1 _ 54 zy rfl rfl
    have al : Sl aA 55 (.int .i64 ((rt : Nat) : Int)) := hdpA 2 _ 55 zy rfl rfl
    clear hbsA hdpA
    refine op_add (zC hNA rfl ak) (zC hNA rfl al) (add64 zx) ?_
    exact obR_end rfl rfl (grown_refl _ _)
   ·
    intro aA wA cA hNA hRA hckA hOA hbsA hdpA
    have ah := (hbsA 0 rfl).trans (zL m rfl q)
    clear hbsA hdpA
    refine zG (zC hNA rfl ah) ?_
    exact obR_end rfl rfl (grown_refl _ _)
   ·
    intro aA wA cA hNA hRA hckA hOA hbsA hdpA
    have ai := (hbsA 3 rfl).trans (zL m rfl p)
    clear hbsA hdpA
    refine zG (zC hNA rfl ai) ?_
    exact obR_end rfl rfl (grown_refl _ _)
   ·
    intro aA wA cA hNA hRA hckA hOA hbsA hdpA
    have am := (hbsA 9 rfl).trans (zU m rfl)
    clear hbsA hdpA
    refine zG (zC hNA rfl am) ?_
    exact obR_end rfl rfl (grown_refl _ _)
   ·
    intro aA wA cA hNA hRA hckA hOA hbsA hdpA
    have an : Sl aA 58 (.int .i64 ((fi : Nat) : Int)) := hdpA 5 _ 58 zy rfl rfl
    have ao : Sl aA 59 (.int .i64 (((2 * ((rt : Nat) : Int)) + 1) + 1)) := hdpA 6 _ 59 zy rfl rfl
    clear hbsA hdpA
    refine op_add (zC hNA rfl an) (zC hNA rfl ao) (add64 zx) ?_
    exact obR_end rfl rfl (grown_refl _ _)
   ·
    intro aA wA cA hNA hRA hckA hOA hbsA hdpA
    have ah := (hbsA 0 rfl).trans (zL m rfl q)
    clear hbsA hdpA
    refine zG (zC hNA rfl ah) ?_
    exact obR_end rfl rfl (grown_refl _ _)
   ·
    intro aA wA cA hNA hRA hckA hOA hbsA hdpA
    have ai := (hbsA 3 rfl).trans (zL m rfl p)
    clear hbsA hdpA
    refine zG (zC hNA rfl ai) ?_
    exact obR_end rfl rfl (grown_refl _ _)
   ·
    intro aA wA cA hNA hRA hckA hOA hbsA hdpA
    have am := (hbsA 9 rfl).trans (zU m rfl)
    clear hbsA hdpA
    refine zG (zC hNA rfl am) ?_
    exact obR_end rfl rfl (grown_refl _ _)
   ·
    intro aA wA cA hNA hRA hckA hOA hbsA hdpA
    have ap : Sl aA 62 (.int .i64 ((fi : Nat) : Int)) := hdpA 9 _ 62 zy rfl rfl
    have aq : Sl aA 63 (.int .i64 (((2 * ((rt : Nat) : Int)) + 1) + 1)) := hdpA 10 _ 63 zy rfl rfl
    clear hbsA hdpA
    refine op_add (zC hNA rfl ap) (zC hNA rfl aq) (add64 zx) ?_
    exact obR_end rfl rfl (grown_refl _ _)
   ·
    intro aA wA cA hNA hRA hckA hOA hbsA hdpA
    have ar : Sl aA 61 v := hdpA 8 _ 61 zy rfl rfl
    have au : Sl aA 64 (.int .i64 (((fi : Nat) : Int) + (((2 * ((rt : Nat) : Int)) + 1) + 1))) := hdpA 11 _ 64 zy rfl rfl
    clear hbsA hdpA
    refine op_index_own (i := (fi + (((2 * rt) + 1) + 1))) slt45 (zC hNA rfl ar) hOA (zC hNA rfl au) zx zx ?_
    intro b_ o_ _ hA_
    exact obR_end rfl ⟨b_, o_, rfl, by simpa using hA_⟩ (grown_refl _ _)
   ·
    intro aA wA cA hNA hRA hckA hOA hbsA hdpA
    obtain ⟨ax, ay, aw, av⟩ := hdpA 12 _ 65 zy rfl rfl
    clear hbsA hdpA
    obtain rfl : cA = 0 := Nat.le_zero.1 (hckA 0 21 rfl zy)
    have hOA : Own wA base 46 1 v n (dk.toList.map u16v) := hOA
    refine zN (v := (Value.int .u16 (dk[(fi + (((2 * rt) + 1) + 1))]!.toNat : Int))) one46 (zC hNA rfl aw) (by have := hOA.cellAt av 0 _ (el_at (i := (fi + (((2 * rt) + 1) + 1))) (by first | omega | (simp only [Array.size_setIfInBounds, swp_sz, siftDown_size]; omega))); simpa using this) ?_
    exact obR_end rfl rfl (grown_refl _ _)
   ·
    intro aA wA cA hNA hRA hckA hOA hbsA hdpA
    have ah := (hbsA 0 rfl).trans (zL m rfl q)
    clear hbsA hdpA
    refine zG (zC hNA rfl ah) ?_
    exact obR_end rfl rfl (grown_refl _ _)
   ·
    intro aA wA cA hNA hRA hckA hOA hbsA hdpA
    have ai := (hbsA 3 rfl).trans (zL m rfl p)
    clear hbsA hdpA
    refine zG (zC hNA rfl ai) ?_
    exact obR_end rfl rfl (grown_refl _ _)
   ·
    intro aA wA cA hNA hRA hckA hOA hbsA hdpA
    have aj := (hbsA 8 rfl).trans (zL m rfl s)
    clear hbsA hdpA
    refine zG (zC hNA rfl aj) ?_
    exact obR_end rfl rfl (grown_refl _ _)
   ·
    intro aA wA cA hNA hRA hckA hOA hbsA hdpA
    have az : Sl aA 68 (.int .i64 ((fi : Nat) : Int)) := hdpA 15 _ 68 zy rfl rfl
    have aB : Sl aA 69 (.int .i64 ((rt : Nat) : Int)) := hdpA 16 _ 69 zy rfl rfl
    clear hbsA hdpA
    refine op_add (zC hNA rfl az) (zC hNA rfl aB) (add64 zx) ?_
    exact obR_end rfl rfl (grown_refl _ _)
   ·
    intro aA wA cA hNA hRA hckA hOA hbsA hdpA
    have aC : Sl aA 67 v := hdpA 14 _ 67 zy rfl rfl
    have aD : Sl aA 70 (.int .i64 (((fi : Nat) : Int) + ((rt : Nat) : Int))) := hdpA 17 _ 70 zy rfl rfl
    clear hbsA hdpA
    refine op_index_own (i := (fi + rt)) slt45 (zC hNA rfl aC) hOA (zC hNA rfl aD) zx zx ?_
    intro b_ o_ _ hA_
    exact obR_end rfl ⟨b_, o_, rfl, by simpa using hA_⟩ (grown_refl _ _)
   ·
    intro aA wA cA hNA hRA hckA hOA hbsA hdpA
    obtain ⟨aH, aG, aE, aF⟩ := hdpA 18 _ 71 zy rfl rfl
    clear hbsA hdpA
    obtain rfl : cA = 0 := Nat.le_zero.1 (hckA 0 21 rfl zy)
    have hOA : Own wA base 46 1 v n (dk.toList.map u16v) := hOA
    refine zN (v := (Value.int .u16 (dk[(fi + rt)]!.toNat : Int))) one46 (zC hNA rfl aE) (by have := hOA.cellAt aF 0 _ (el_at (i := (fi + rt)) (by first | omega | (simp only [Array.size_setIfInBounds, swp_sz, siftDown_size]; omega))); simpa using this) ?_
    exact obR_end rfl rfl (grown_refl _ _)
   ·
    intro aA wA cA hNA hRA hckA hOA hbsA hdpA
    have aI : Sl aA 53 v := hdpA 0 _ 53 zy rfl rfl
    have aJ : Sl aA 56 (.int .i64 (((fi : Nat) : Int) + ((rt : Nat) : Int))) := hdpA 3 _ 56 zy rfl rfl
    clear hbsA hdpA
    refine op_index_own (i := (fi + rt)) slt45 (zC hNA rfl aI) hOA (zC hNA rfl aJ) zx zx ?_
    intro b_ o_ _ hA_
    exact obR_end rfl ⟨b_, o_, rfl, by simpa using hA_⟩ (grown_refl _ _)
   ·
    intro aA wA cA hNA hRA hckA hOA hbsA hdpA
    have aK : Sl aA 57 v := hdpA 4 _ 57 zy rfl rfl
    have aL : Sl aA 60 (.int .i64 (((fi : Nat) : Int) + (((2 * ((rt : Nat) : Int)) + 1) + 1))) := hdpA 7 _ 60 zy rfl rfl
    clear hbsA hdpA
    refine op_index_own (i := (fi + (((2 * rt) + 1) + 1))) slt45 (zC hNA rfl aK) hOA (zC hNA rfl aL) zx zx ?_
    intro b_ o_ _ hA_
    exact obR_end rfl ⟨b_, o_, rfl, by simpa using hA_⟩ (grown_refl _ _)
   ·
    intro o_ ho_; obtain rfl := zE ho_; intro aA wA hNA hRA hbsA hdpA hOA
    obtain ⟨aO, aP, aN, aM⟩ := hdpA 20 _ 73 zy rfl rfl
    have aQ : Sl aA 66 (.int .u16 (dk[(fi + (((2 * rt) + 1) + 1))]!.toNat : Int)) := hdpA 13 _ 66 zy rfl rfl
    clear hbsA hdpA
    have hOA : Own wA base 46 1 v n (dk.toList.map u16v) := hOA
    refine op_store_own (vs := [(.int .u16 (dk[(fi + (((2 * rt) + 1) + 1))]!.toNat : Int))]) size46 (zC hNA rfl aN) (zC hNA rfl aQ) rfl rfl rfl hOA aM (by have := hOA.1; simp at this ⊢; omega) ?_
    intro w_ hO_ E_
    exact obW_end rfl (hO_.cast rfl (set_arr (by first | omega | (simp only [Array.size_setIfInBounds, swp_sz, siftDown_size]; omega)))) E_
   ·
    intro o_ ho_; obtain rfl := zE ho_; intro aA wA hNA hRA hbsA hdpA hOA
    obtain ⟨aU, aT, aS, aR⟩ := hdpA 22 _ 74 zy rfl rfl
    have U : Sl aA 72 (.int .u16 (dk[(fi + rt)]!.toNat : Int)) := hdpA 19 _ 72 zy rfl rfl
    clear hbsA hdpA
    have hOA : Own wA base 46 1 v n ((dk.setIfInBounds (fi + rt) dk[(fi + (((2 * rt) + 1) + 1))]!).toList.map u16v) := hOA
    refine op_store_own (vs := [(.int .u16 (dk[(fi + rt)]!.toNat : Int))]) size46 (zC hNA rfl aS) (zC hNA rfl U) rfl rfl rfl hOA aR (by have := hOA.1; simp at this ⊢; omega) ?_
    intro w_ hO_ E_
    exact obW_end rfl (hO_.cast rfl (set_arr (by first | omega | (simp only [Array.size_setIfInBounds, swp_sz, siftDown_size]; omega)))) E_
   intro ac aa V X W ab Y Z
   have X := X.trans t
   have ac := (W 0 rfl).trans (zL m rfl q)
   have ad := (W 2 rfl).trans (zL m rfl u)
   have ae := (W 3 rfl).trans (zL m rfl p)
   have af := (W 9 rfl).trans (zU m rfl)
   clear W ab
   have Y : Own aa base 46 1 v n (((dk.setIfInBounds (fi + rt) dk[(fi + (((2 * rt) + 1) + 1))]!).setIfInBounds (fi + (((2 * rt) + 1) + 1)) dk[(fi + rt)]!).toList.map u16v) := Y
   have := Z.size
   have hb := grow_stepX hb Z rfl
   refine l _ _ (zH (zG (zC V rfl af) (zD (zA V rfl) (zB (blk_normal ?_)))))
   -- round 16F 20T 36T 52F
   have hch : childS hi fi rt dk = 2 * rt + 2 := childS_t zx T
   exact zg _ V X ⟨(2 * rt + 2), _, rfl, (zL V rfl ac), (zL V rfl ad), (zL V rfl ae), (zU V rfl).trans (congrArg (Value.int .i64) zx), (by first | assumption | (simp only [Array.size_setIfInBounds, swp_sz, siftDown_size]; assumption)), zx, (hs.trans ((siftDown_go zx (by rw [hch]; simpa [Nat.add_assoc] using ag)).trans (by rw [hch]; rfl))), hb, zx, Y⟩ zx
  refine wp_skip (l _ _ (zF fun _ l => zF fun _ B => reg_still mixed zy ?_))
  intro W V
  have := V.size
  have o := o.keep0 V
  have hb := grow_step0 hb V
  refine st_step rfl (fun _ F => zG (zC m rfl q) F) (st_step rfl (fun _ F => zG (zC m rfl p) F) (st_step rfl (fun _ F => zG (zC m rfl s) F) (st_step rfl (fun _ F => op_add (zA m rfl) (zA m rfl) (add64 zx) F) (st_index_rd slt45 (zA m rfl) o.rdw (zA m rfl) zx zx ?_))))
  intro Z aa ab Y X
  refine st_step rfl (fun _ F => zN (v := (Value.int .u16 (dk[(fi + rt)]!.toNat : Int))) one46 (zA m rfl) (by have := X 0 (.int .u16 (dk[(fi + rt)]!.toNat : Int)) zz (el_arr (i := (fi + rt)) zx (by first | omega | (simp only [Array.size_setIfInBounds, swp_sz, siftDown_size]; omega))); simpa using this) F) (st_step rfl (fun _ F => zG (zC m rfl q) F) (st_step rfl (fun _ F => zG (zC m rfl p) F) (st_step rfl (fun _ F => zG (zA m rfl) F) (st_step rfl (fun _ F => op_add (zA m rfl) (zA m rfl) (add64 zx) F) (st_index_rd slt45 (zA m rfl) o.rdw (zA m rfl) zx zx ?_)))))
  intro ad ae aV af ac
  refine st_step rfl (fun _ F => zN (v := (Value.int .u16 (dk[(fi + ((2 * rt) + 1))]!.toNat : Int))) one46 (zA m rfl) (by have := ac 0 (.int .u16 (dk[(fi + ((2 * rt) + 1))]!.toNat : Int)) zz (el_arr (i := (fi + ((2 * rt) + 1))) zx (by first | omega | (simp only [Array.size_setIfInBounds, swp_sz, siftDown_size]; omega))); simpa using this) F) (st_fn (vs := [(.int .u16 (dk[(fi + rt)]!.toNat : Int)), (.int .u16 (dk[(fi + ((2 * rt) + 1))]!.toNat : Int))]) ok159 (⟨(zA m rfl), ⟨(zA m rfl), trivial⟩⟩) (Less16_ret dk[(fi + rt)]! dk[(fi + ((2 * rt) + 1))]! _) (st_step rfl (fun _ F => op_not (zA m rfl) F) (st_nil (B _ _ (wp_cond_split (zA m rfl) (fun ag => ?_) (fun ag => ?_))))))
  ·
   refine wp_ret (zO (zb (zO (zb ( (ret0 rfl t  ⟨_, rfl, ?_⟩))))))
   have hch : childS hi fi rt dk = 2 * rt + 1 := childS_f (.inr T)
   exact ⟨hb, rfl, o.cast rfl (by rw [hs, siftDown_ret zx (by rw [hch]; simpa [Nat.add_assoc] using ag)])⟩
  refine wp_skip (l _ _ (zF fun _ l => ?_))
  refine reg_mid (e := 46) (sz := 1) (base := base) (n := n) (v := v) (Φ := phiL [(fun uz _ => uz = v), (fun uz _ => uz = (.int .i64 ((fi : Nat) : Int))), (fun uz _ => uz = (.int .i64 ((rt : Nat) : Int))), (fun uz _ => uz = (.int .i64 (((fi : Nat) : Int) + ((rt : Nat) : Int)))), (fun uz _ => uz = v), (fun uz _ => uz = (.int .i64 ((fi : Nat) : Int))), (fun uz _ => uz = (.int .i64 ((2 * ((rt : Nat) : Int)) + 1))), (fun uz _ => uz = (.int .i64 (((fi : Nat) : Int) + ((2 * ((rt : Nat) : Int)) + 1)))), (fun uz _ => uz = v), (fun uz _ => uz = (.int .i64 ((fi : Nat) : Int))), (fun uz _ => uz = (.int .i64 ((2 * ((rt : Nat) : Int)) + 1))), (fun uz _ => uz = (.int .i64 (((fi : Nat) : Int) + ((2 * ((rt : Nat) : Int)) + 1)))), (fun uz _ => ∃ bz oz, uz = ptr bz oz ∧ AtV v (fi + ((2 * rt) + 1)) bz oz), (fun uz _ => uz = (.int .u16 (dk[(fi + ((2 * rt) + 1))]!.toNat : Int))), (fun uz _ => uz = v), (fun uz _ => uz = (.int .i64 ((fi : Nat) : Int))), (fun uz _ => uz = (.int .i64 ((rt : Nat) : Int))), (fun uz _ => uz = (.int .i64 (((fi : Nat) : Int) + ((rt : Nat) : Int)))), (fun uz _ => ∃ bz oz, uz = ptr bz oz ∧ AtV v (fi + rt) bz oz), (fun uz _ => uz = (.int .u16 (dk[(fi + rt)]!.toNat : Int))), (fun uz _ => ∃ bz oz, uz = ptr bz oz ∧ AtV v (fi + rt) bz oz), (fun _ _ => True), (fun uz _ => ∃ bz oz, uz = ptr bz oz ∧ AtV v (fi + ((2 * rt) + 1)) bz oz), (fun _ _ => True)]) [21, 23] [(dk.toList.map u16v), ((dk.setIfInBounds (fi + rt) dk[(fi + ((2 * rt) + 1))]!).toList.map u16v), (((dk.setIfInBounds (fi + rt) dk[(fi + ((2 * rt) + 1))]!).setIfInBounds (fi + ((2 * rt) + 1)) dk[(fi + rt)]!).toList.map u16v)] mixed zy zy zy zy m o (StL.get (StL.eq (StL.eq (StL.eq (StL.eq (StL.eq (StL.eq (StL.eq (StL.eq (StL.eq (StL.eq (StL.eq (StL.eq (StL.at (StL.eq (StL.eq (StL.eq (StL.eq (StL.eq (StL.at (StL.eq (StL.at (StL.cons (fun _ _ _ _ h => h) (StL.at (StL.cons (fun _ _ _ _ h => h) (StL.nil _)))))))))))))))))))))))))) (ObRs.get (ObRs.cons ?_ (ObRs.cons ?_ (ObRs.cons ?_ (ObRs.cons ?_ (ObRs.cons ?_ (ObRs.cons ?_ (ObRs.cons ?_ (ObRs.cons ?_ (ObRs.cons ?_ (ObRs.cons ?_ (ObRs.cons ?_ (ObRs.cons ?_ (ObRs.cons ?_ (ObRs.cons ?_ (ObRs.cons ?_ (ObRs.cons ?_ (ObRs.cons ?_ (ObRs.cons ?_ (ObRs.cons ?_ (ObRs.cons ?_ (ObRs.cons ?_ (ObRs.pass rfl (ObRs.cons ?_ (ObRs.pass rfl (ObRs.nil)))))))))))))))))))))))))) (ObWs.get (ObWs.cons ?_ (ObWs.cons ?_ (ObWs.nil)))) ?_
  ·
   intro aA wA cA hNA hRA hckA hOA hbsA hdpA
   have ah := (hbsA 0 rfl).trans (zL m rfl q)
   clear hbsA hdpA
   refine zG (zC hNA rfl ah) ?_
   exact obR_end rfl rfl (grown_refl _ _)
  ·
   intro aA wA cA hNA hRA hckA hOA hbsA hdpA
   have ai := (hbsA 3 rfl).trans (zL m rfl p)
   clear hbsA hdpA
   refine zG (zC hNA rfl ai) ?_
   exact obR_end rfl rfl (grown_refl _ _)
  ·
   intro aA wA cA hNA hRA hckA hOA hbsA hdpA
   have aj := (hbsA 8 rfl).trans (zL m rfl s)
   clear hbsA hdpA
   refine zG (zC hNA rfl aj) ?_
   exact obR_end rfl rfl (grown_refl _ _)
  ·
   intro aA wA cA hNA hRA hckA hOA hbsA hdpA
   have ak : Sl aA 54 (.int .i64 ((fi : Nat) : Int)) := hdpA 1 _ 54 zy rfl rfl
   have al : Sl aA 55 (.int .i64 ((rt : Nat) : Int)) := hdpA 2 _ 55 zy rfl rfl
   clear hbsA hdpA
   refine op_add (zC hNA rfl ak) (zC hNA rfl al) (add64 zx) ?_
   exact obR_end rfl rfl (grown_refl _ _)
  ·
   intro aA wA cA hNA hRA hckA hOA hbsA hdpA
   have ah := (hbsA 0 rfl).trans (zL m rfl q)
   clear hbsA hdpA
   refine zG (zC hNA rfl ah) ?_
   exact obR_end rfl rfl (grown_refl _ _)
  ·
   intro aA wA cA hNA hRA hckA hOA hbsA hdpA
   have ai := (hbsA 3 rfl).trans (zL m rfl p)
   clear hbsA hdpA
   refine zG (zC hNA rfl ai) ?_
   exact obR_end rfl rfl (grown_refl _ _)
  ·
   intro aA wA cA hNA hRA hckA hOA hbsA hdpA
   have am := (hbsA 9 rfl).trans (zU m rfl)
   clear hbsA hdpA
   refine zG (zC hNA rfl am) ?_
   exact obR_end rfl rfl (grown_refl _ _)
  ·
   intro aA wA cA hNA hRA hckA hOA hbsA hdpA
   have an : Sl aA 58 (.int .i64 ((fi : Nat) : Int)) := hdpA 5 _ 58 zy rfl rfl
   have ao : Sl aA 59 (.int .i64 ((2 * ((rt : Nat) : Int)) + 1)) := hdpA 6 _ 59 zy rfl rfl
   clear hbsA hdpA
   refine op_add (zC hNA rfl an) (zC hNA rfl ao) (add64 zx) ?_
   exact obR_end rfl rfl (grown_refl _ _)
  ·
   intro aA wA cA hNA hRA hckA hOA hbsA hdpA
   have ah := (hbsA 0 rfl).trans (zL m rfl q)
   clear hbsA hdpA
   refine zG (zC hNA rfl ah) ?_
   exact obR_end rfl rfl (grown_refl _ _)
  ·
   intro aA wA cA hNA hRA hckA hOA hbsA hdpA
   have ai := (hbsA 3 rfl).trans (zL m rfl p)
   clear hbsA hdpA
   refine zG (zC hNA rfl ai) ?_
   exact obR_end rfl rfl (grown_refl _ _)
  ·
   intro aA wA cA hNA hRA hckA hOA hbsA hdpA
   have am := (hbsA 9 rfl).trans (zU m rfl)
   clear hbsA hdpA
   refine zG (zC hNA rfl am) ?_
   exact obR_end rfl rfl (grown_refl _ _)
  ·
   intro aA wA cA hNA hRA hckA hOA hbsA hdpA
   have ap : Sl aA 62 (.int .i64 ((fi : Nat) : Int)) := hdpA 9 _ 62 zy rfl rfl
   have aq : Sl aA 63 (.int .i64 ((2 * ((rt : Nat) : Int)) + 1)) := hdpA 10 _ 63 zy rfl rfl
   clear hbsA hdpA
   refine op_add (zC hNA rfl ap) (zC hNA rfl aq) (add64 zx) ?_
   exact obR_end rfl rfl (grown_refl _ _)
  ·
   intro aA wA cA hNA hRA hckA hOA hbsA hdpA
   have ar : Sl aA 61 v := hdpA 8 _ 61 zy rfl rfl
   have au : Sl aA 64 (.int .i64 (((fi : Nat) : Int) + ((2 * ((rt : Nat) : Int)) + 1))) := hdpA 11 _ 64 zy rfl rfl
   clear hbsA hdpA
   refine op_index_own (i := (fi + ((2 * rt) + 1))) slt45 (zC hNA rfl ar) hOA (zC hNA rfl au) zx zx ?_
   intro b_ o_ _ hA_
   exact obR_end rfl ⟨b_, o_, rfl, by simpa using hA_⟩ (grown_refl _ _)
  ·
   intro aA wA cA hNA hRA hckA hOA hbsA hdpA
   obtain ⟨ax, ay, aw, av⟩ := hdpA 12 _ 65 zy rfl rfl
   clear hbsA hdpA
   obtain rfl : cA = 0 := Nat.le_zero.1 (hckA 0 21 rfl zy)
   have hOA : Own wA base 46 1 v n (dk.toList.map u16v) := hOA
   refine zN (v := (Value.int .u16 (dk[(fi + ((2 * rt) + 1))]!.toNat : Int))) one46 (zC hNA rfl aw) (by have := hOA.cellAt av 0 _ (el_at (i := (fi + ((2 * rt) + 1))) (by first | omega | (simp only [Array.size_setIfInBounds, swp_sz, siftDown_size]; omega))); simpa using this) ?_
   exact obR_end rfl rfl (grown_refl _ _)
  ·
   intro aA wA cA hNA hRA hckA hOA hbsA hdpA
   have ah := (hbsA 0 rfl).trans (zL m rfl q)
   clear hbsA hdpA
   refine zG (zC hNA rfl ah) ?_
   exact obR_end rfl rfl (grown_refl _ _)
  ·
   intro aA wA cA hNA hRA hckA hOA hbsA hdpA
   have ai := (hbsA 3 rfl).trans (zL m rfl p)
   clear hbsA hdpA
   refine zG (zC hNA rfl ai) ?_
   exact obR_end rfl rfl (grown_refl _ _)
  ·
   intro aA wA cA hNA hRA hckA hOA hbsA hdpA
   have aj := (hbsA 8 rfl).trans (zL m rfl s)
   clear hbsA hdpA
   refine zG (zC hNA rfl aj) ?_
   exact obR_end rfl rfl (grown_refl _ _)
  ·
   intro aA wA cA hNA hRA hckA hOA hbsA hdpA
   have az : Sl aA 68 (.int .i64 ((fi : Nat) : Int)) := hdpA 15 _ 68 zy rfl rfl
   have aB : Sl aA 69 (.int .i64 ((rt : Nat) : Int)) := hdpA 16 _ 69 zy rfl rfl
   clear hbsA hdpA
   refine op_add (zC hNA rfl az) (zC hNA rfl aB) (add64 zx) ?_
   exact obR_end rfl rfl (grown_refl _ _)
  ·
   intro aA wA cA hNA hRA hckA hOA hbsA hdpA
   have aC : Sl aA 67 v := hdpA 14 _ 67 zy rfl rfl
   have aD : Sl aA 70 (.int .i64 (((fi : Nat) : Int) + ((rt : Nat) : Int))) := hdpA 17 _ 70 zy rfl rfl
   clear hbsA hdpA
   refine op_index_own (i := (fi + rt)) slt45 (zC hNA rfl aC) hOA (zC hNA rfl aD) zx zx ?_
   intro b_ o_ _ hA_
   exact obR_end rfl ⟨b_, o_, rfl, by simpa using hA_⟩ (grown_refl _ _)
  ·
   intro aA wA cA hNA hRA hckA hOA hbsA hdpA
   obtain ⟨aH, aG, aE, aF⟩ := hdpA 18 _ 71 zy rfl rfl
   clear hbsA hdpA
   obtain rfl : cA = 0 := Nat.le_zero.1 (hckA 0 21 rfl zy)
   have hOA : Own wA base 46 1 v n (dk.toList.map u16v) := hOA
   refine zN (v := (Value.int .u16 (dk[(fi + rt)]!.toNat : Int))) one46 (zC hNA rfl aE) (by have := hOA.cellAt aF 0 _ (el_at (i := (fi + rt)) (by first | omega | (simp only [Array.size_setIfInBounds, swp_sz, siftDown_size]; omega))); simpa using this) ?_
   exact obR_end rfl rfl (grown_refl _ _)
  ·
   intro aA wA cA hNA hRA hckA hOA hbsA hdpA
   have aI : Sl aA 53 v := hdpA 0 _ 53 zy rfl rfl
   have aJ : Sl aA 56 (.int .i64 (((fi : Nat) : Int) + ((rt : Nat) : Int))) := hdpA 3 _ 56 zy rfl rfl
   clear hbsA hdpA
   refine op_index_own (i := (fi + rt)) slt45 (zC hNA rfl aI) hOA (zC hNA rfl aJ) zx zx ?_
   intro b_ o_ _ hA_
   exact obR_end rfl ⟨b_, o_, rfl, by simpa using hA_⟩ (grown_refl _ _)
  ·
   intro aA wA cA hNA hRA hckA hOA hbsA hdpA
   have aK : Sl aA 57 v := hdpA 4 _ 57 zy rfl rfl
   have aL : Sl aA 60 (.int .i64 (((fi : Nat) : Int) + ((2 * ((rt : Nat) : Int)) + 1))) := hdpA 7 _ 60 zy rfl rfl
   clear hbsA hdpA
   refine op_index_own (i := (fi + ((2 * rt) + 1))) slt45 (zC hNA rfl aK) hOA (zC hNA rfl aL) zx zx ?_
   intro b_ o_ _ hA_
   exact obR_end rfl ⟨b_, o_, rfl, by simpa using hA_⟩ (grown_refl _ _)
  ·
   intro o_ ho_; obtain rfl := zE ho_; intro aA wA hNA hRA hbsA hdpA hOA
   obtain ⟨aO, aP, aN, aM⟩ := hdpA 20 _ 73 zy rfl rfl
   have aQ : Sl aA 66 (.int .u16 (dk[(fi + ((2 * rt) + 1))]!.toNat : Int)) := hdpA 13 _ 66 zy rfl rfl
   clear hbsA hdpA
   have hOA : Own wA base 46 1 v n (dk.toList.map u16v) := hOA
   refine op_store_own (vs := [(.int .u16 (dk[(fi + ((2 * rt) + 1))]!.toNat : Int))]) size46 (zC hNA rfl aN) (zC hNA rfl aQ) rfl rfl rfl hOA aM (by have := hOA.1; simp at this ⊢; omega) ?_
   intro w_ hO_ E_
   exact obW_end rfl (hO_.cast rfl (set_arr (by first | omega | (simp only [Array.size_setIfInBounds, swp_sz, siftDown_size]; omega)))) E_
  ·
   intro o_ ho_; obtain rfl := zE ho_; intro aA wA hNA hRA hbsA hdpA hOA
   obtain ⟨aU, aT, aS, aR⟩ := hdpA 22 _ 74 zy rfl rfl
   have U : Sl aA 72 (.int .u16 (dk[(fi + rt)]!.toNat : Int)) := hdpA 19 _ 72 zy rfl rfl
   clear hbsA hdpA
   have hOA : Own wA base 46 1 v n ((dk.setIfInBounds (fi + rt) dk[(fi + ((2 * rt) + 1))]!).toList.map u16v) := hOA
   refine op_store_own (vs := [(.int .u16 (dk[(fi + rt)]!.toNat : Int))]) size46 (zC hNA rfl aS) (zC hNA rfl U) rfl rfl rfl hOA aR (by have := hOA.1; simp at this ⊢; omega) ?_
   intro w_ hO_ E_
   exact obW_end rfl (hO_.cast rfl (set_arr (by first | omega | (simp only [Array.size_setIfInBounds, swp_sz, siftDown_size]; omega)))) E_
  intro Q P H K I M J L
  have K := K.trans t
  have Q := (I 0 rfl).trans (zL m rfl q)
  have R := (I 2 rfl).trans (zL m rfl u)
  have S := (I 3 rfl).trans (zL m rfl p)
  have V := (I 9 rfl).trans (zU m rfl)
  clear I M
  have J : Own P base 46 1 v n (((dk.setIfInBounds (fi + rt) dk[(fi + ((2 * rt) + 1))]!).setIfInBounds (fi + ((2 * rt) + 1)) dk[(fi + rt)]!).toList.map u16v) := J
  have := L.size
  have hb := grow_stepX hb L rfl
  refine l _ _ (zH (zG (zC H rfl V) (zD (zA H rfl) (zB (blk_normal ?_)))))
  -- round 16F 20T 36F 52F
  have hch : childS hi fi rt dk = 2 * rt + 1 := childS_f (.inr T)
  exact zg _ H K ⟨(2 * rt + 1), _, rfl, (zL H rfl Q), (zL H rfl R), (zL H rfl S), (zU H rfl).trans (congrArg (Value.int .i64) zx), (by first | assumption | (simp only [Array.size_setIfInBounds, swp_sz, siftDown_size]; assumption)), zx, (hs.trans ((siftDown_go zx (by rw [hch]; simpa [Nat.add_assoc] using ag)).trans (by rw [hch]; rfl))), hb, zx, J⟩ zx
 refine st_step rfl (fun _ F => op_cmp (b := false) (zA m rfl) (zA m rfl) (b_lss (decide_eq_false G)) F) ?_
 refine st_step rfl (fun _ F => zG (zA m rfl) F) (st_g_false (j := 4) (dj := 21) (b := true) rfl rfl rfl (zA m rfl) rfl rfl (st_g_false (j := 4) (dj := 21) (b := true) rfl rfl rfl (zA m rfl) rfl rfl (st_g_false (j := 4) (dj := 21) (b := true) rfl rfl rfl (zA m rfl) rfl rfl (st_g_false (j := 4) (dj := 21) (b := true) rfl rfl rfl (zA m rfl) rfl rfl (st_g_false (j := 4) (dj := 21) (b := true) rfl rfl rfl (zA m rfl) rfl rfl (st_g_false (j := 4) (dj := 21) (b := true) rfl rfl rfl (zA m rfl) rfl rfl (st_g_false (j := 4) (dj := 21) (b := true) rfl rfl rfl (zA m rfl) rfl rfl (st_g_false (j := 4) (dj := 21) (b := true) rfl rfl rfl (zA m rfl) rfl rfl (st_g_false (j := 4) (dj := 21) (b := true) rfl rfl rfl (zA m rfl) rfl rfl ?_)))))))))
 refine st_g_false (j := 4) (dj := 21) (b := true) rfl rfl rfl (zA m rfl) rfl rfl (st_g_false (j := 4) (dj := 21) (b := true) rfl rfl rfl (zA m rfl) rfl rfl (st_g_false (j := 4) (dj := 21) (b := true) rfl rfl rfl (zA m rfl) rfl rfl (st_g_false (j := 4) (dj := 21) (b := true) rfl rfl rfl (zA m rfl) rfl rfl (st_g_false (j := 4) (dj := 21) (b := true) rfl rfl rfl (zA m rfl) rfl rfl (st_step rfl (fun _ F => zd (zA m rfl) rfl F) (st_nil (B _ _ (wp_cond_false (zA m rfl) (wp_skip (l _ _ (zF fun _ l => zF fun _ B => reg_still mixed zy ?_)))))))))))
 intro I H
 have := H.size
 have o := o.keep0 H
 have hb := grow_step0 hb H
 refine st_step rfl (fun _ F => zG (zC m rfl q) F) (st_step rfl (fun _ F => zG (zC m rfl p) F) (st_step rfl (fun _ F => zG (zC m rfl s) F) (st_step rfl (fun _ F => op_add (zA m rfl) (zA m rfl) (add64 zx) F) (st_index_rd slt45 (zA m rfl) o.rdw (zA m rfl) zx zx ?_))))
 intro M P L K J
 refine st_step rfl (fun _ F => zN (v := (Value.int .u16 (dk[(fi + rt)]!.toNat : Int))) one46 (zA m rfl) (by have := J 0 (.int .u16 (dk[(fi + rt)]!.toNat : Int)) zz (el_arr (i := (fi + rt)) zx (by first | omega | (simp only [Array.size_setIfInBounds, swp_sz, siftDown_size]; omega))); simpa using this) F) (st_step rfl (fun _ F => zG (zC m rfl q) F) (st_step rfl (fun _ F => zG (zC m rfl p) F) (st_step rfl (fun _ F => zG (zA m rfl) F) (st_step rfl (fun _ F => op_add (zA m rfl) (zA m rfl) (add64 zx) F) (st_index_rd slt45 (zA m rfl) o.rdw (zA m rfl) zx zx ?_)))))
 intro T S R V Q
 refine st_step rfl (fun _ F => zN (v := (Value.int .u16 (dk[(fi + ((2 * rt) + 1))]!.toNat : Int))) one46 (zA m rfl) (by have := Q 0 (.int .u16 (dk[(fi + ((2 * rt) + 1))]!.toNat : Int)) zz (el_arr (i := (fi + ((2 * rt) + 1))) zx (by first | omega | (simp only [Array.size_setIfInBounds, swp_sz, siftDown_size]; omega))); simpa using this) F) (st_fn (vs := [(.int .u16 (dk[(fi + rt)]!.toNat : Int)), (.int .u16 (dk[(fi + ((2 * rt) + 1))]!.toNat : Int))]) ok159 (⟨(zA m rfl), ⟨(zA m rfl), trivial⟩⟩) (Less16_ret dk[(fi + rt)]! dk[(fi + ((2 * rt) + 1))]! _) (st_step rfl (fun _ F => op_not (zA m rfl) F) (st_nil (B _ _ (wp_cond_split (zA m rfl) (fun ag => ?_) (fun ag => ?_))))))
 ·
  refine wp_ret (zO (zb (zO (zb ( (ret0 rfl t  ⟨_, rfl, ?_⟩))))))
  have hch : childS hi fi rt dk = 2 * rt + 1 := childS_f (.inl zx)
  exact ⟨hb, rfl, o.cast rfl (by rw [hs, siftDown_ret zx (by rw [hch]; simpa [Nat.add_assoc] using ag)])⟩
 refine wp_skip (l _ _ (zF fun _ l => ?_))
 refine reg_mid (e := 46) (sz := 1) (base := base) (n := n) (v := v) (Φ := phiL [(fun uz _ => uz = v), (fun uz _ => uz = (.int .i64 ((fi : Nat) : Int))), (fun uz _ => uz = (.int .i64 ((rt : Nat) : Int))), (fun uz _ => uz = (.int .i64 (((fi : Nat) : Int) + ((rt : Nat) : Int)))), (fun uz _ => uz = v), (fun uz _ => uz = (.int .i64 ((fi : Nat) : Int))), (fun uz _ => uz = (.int .i64 ((2 * ((rt : Nat) : Int)) + 1))), (fun uz _ => uz = (.int .i64 (((fi : Nat) : Int) + ((2 * ((rt : Nat) : Int)) + 1)))), (fun uz _ => uz = v), (fun uz _ => uz = (.int .i64 ((fi : Nat) : Int))), (fun uz _ => uz = (.int .i64 ((2 * ((rt : Nat) : Int)) + 1))), (fun uz _ => uz = (.int .i64 (((fi : Nat) : Int) + ((2 * ((rt : Nat) : Int)) + 1)))), (fun uz _ => ∃ bz oz, uz = ptr bz oz ∧ AtV v (fi + ((2 * rt) + 1)) bz oz), (fun uz _ => uz = (.int .u16 (dk[(fi + ((2 * rt) + 1))]!.toNat : Int))), (fun uz _ => uz = v), (fun uz _ => uz = (.int .i64 ((fi : Nat) : Int))), (fun uz _ => uz = (.int .i64 ((rt : Nat) : Int))), (fun uz _ => uz = (.int .i64 (((fi : Nat) : Int) + ((rt : Nat) : Int)))), (fun uz _ => ∃ bz oz, uz = ptr bz oz ∧ AtV v (fi + rt) bz oz), (fun uz _ => uz = (.int .u16 (dk[(fi + rt)]!.toNat : Int))), (fun uz _ => ∃ bz oz, uz = ptr bz oz ∧ AtV v (fi + rt) bz oz), (fun _ _ => True), (fun uz _ => ∃ bz oz, uz = ptr bz oz ∧ AtV v (fi + ((2 * rt) + 1)) bz oz), (fun _ _ => True)]) [21, 23] [(dk.toList.map u16v), ((dk.setIfInBounds (fi + rt) dk[(fi + ((2 * rt) + 1))]!).toList.map u16v), (((dk.setIfInBounds (fi + rt) dk[(fi + ((2 * rt) + 1))]!).setIfInBounds (fi + ((2 * rt) + 1)) dk[(fi + rt)]!).toList.map u16v)] mixed zy zy zy zy m o (StL.get (StL.eq (StL.eq (StL.eq (StL.eq (StL.eq (StL.eq (StL.eq (StL.eq (StL.eq (StL.eq (StL.eq (StL.eq (StL.at (StL.eq (StL.eq (StL.eq (StL.eq (StL.eq (StL.at (StL.eq (StL.at (StL.cons (fun _ _ _ _ h => h) (StL.at (StL.cons (fun _ _ _ _ h => h) (StL.nil _)))))))))))))))))))))))))) (ObRs.get (ObRs.cons ?_ (ObRs.cons ?_ (ObRs.cons ?_ (ObRs.cons ?_ (ObRs.cons ?_ (ObRs.cons ?_ (ObRs.cons ?_ (ObRs.cons ?_ (ObRs.cons ?_ (ObRs.cons ?_ (ObRs.cons ?_ (ObRs.cons ?_ (ObRs.cons ?_ (ObRs.cons ?_ (ObRs.cons ?_ (ObRs.cons ?_ (ObRs.cons ?_ (ObRs.cons ?_ (ObRs.cons ?_ (ObRs.cons ?_ (ObRs.cons ?_ (ObRs.pass rfl (ObRs.cons ?_ (ObRs.pass rfl (ObRs.nil)))))))))))))))))))))))))) (ObWs.get (ObWs.cons ?_ (ObWs.cons ?_ (ObWs.nil)))) ?_
 ·
  intro aA wA cA hNA hRA hckA hOA hbsA hdpA
  have ah := (hbsA 0 rfl).trans (zL m rfl q)
  clear hbsA hdpA
  refine zG (zC hNA rfl ah) ?_
  exact obR_end rfl rfl (grown_refl _ _)
 ·
  intro aA wA cA hNA hRA hckA hOA hbsA hdpA
  have ai := (hbsA 3 rfl).trans (zL m rfl p)
  clear hbsA hdpA
  refine zG (zC hNA rfl ai) ?_
  exact obR_end rfl rfl (grown_refl _ _)
 ·
  intro aA wA cA hNA hRA hckA hOA hbsA hdpA
  have aj := (hbsA 8 rfl).trans (zL m rfl s)
  clear hbsA hdpA
  refine zG (zC hNA rfl aj) ?_
  exact obR_end rfl rfl (grown_refl _ _)
 ·
  intro aA wA cA hNA hRA hckA hOA hbsA hdpA
  have ak : Sl aA 54 (.int .i64 ((fi : Nat) : Int)) := hdpA 1 _ 54 zy rfl rfl
  have al : Sl aA 55 (.int .i64 ((rt : Nat) : Int)) := hdpA 2 _ 55 zy rfl rfl
  clear hbsA hdpA
  refine op_add (zC hNA rfl ak) (zC hNA rfl al) (add64 zx) ?_
  exact obR_end rfl rfl (grown_refl _ _)
 ·
  intro aA wA cA hNA hRA hckA hOA hbsA hdpA
  have ah := (hbsA 0 rfl).trans (zL m rfl q)
  clear hbsA hdpA
  refine zG (zC hNA rfl ah) ?_
  exact obR_end rfl rfl (grown_refl _ _)
 ·
  intro aA wA cA hNA hRA hckA hOA hbsA hdpA
  have ai := (hbsA 3 rfl).trans (zL m rfl p)
  clear hbsA hdpA
  refine zG (zC hNA rfl ai) ?_
  exact obR_end rfl rfl (grown_refl _ _)
 ·
  intro aA wA cA hNA hRA hckA hOA hbsA hdpA
  have am := (hbsA 9 rfl).trans (zU m rfl)
  clear hbsA hdpA
  refine zG (zC hNA rfl am) ?_
  exact obR_end rfl rfl (grown_refl _ _)
 ·
  intro aA wA cA hNA hRA hckA hOA hbsA hdpA
  have an : Sl aA 58 (.int .i64 ((fi : Nat) : Int)) := hdpA 5 _ 58 zy rfl rfl
  have ao : Sl aA 59 (.int .i64 ((2 * ((rt : Nat) : Int)) + 1)) := hdpA 6 _ 59 zy rfl rfl
  clear hbsA hdpA
  refine op_add (zC hNA rfl an) (zC hNA rfl ao) (add64 zx) ?_
  exact obR_end rfl rfl (grown_refl _ _)
 ·
  intro aA wA cA hNA hRA hckA hOA hbsA hdpA
  have ah := (hbsA 0 rfl).trans (zL m rfl q)
  clear hbsA hdpA
  refine zG (zC hNA rfl ah) ?_
  exact obR_end rfl rfl (grown_refl _ _)
 ·
  intro aA wA cA hNA hRA hckA hOA hbsA hdpA
  have ai := (hbsA 3 rfl).trans (zL m rfl p)
  clear hbsA hdpA
  refine zG (zC hNA rfl ai) ?_
  exact obR_end rfl rfl (grown_refl _ _)
 ·
  intro aA wA cA hNA hRA hckA hOA hbsA hdpA
  have am := (hbsA 9 rfl).trans (zU m rfl)
  clear hbsA hdpA
  refine zG (zC hNA rfl am) ?_
  exact obR_end rfl rfl (grown_refl _ _)
 ·
  intro aA wA cA hNA hRA hckA hOA hbsA hdpA
  have ap : Sl aA 62 (.int .i64 ((fi : Nat) : Int)) := hdpA 9 _ 62 zy rfl rfl
  have aq : Sl aA 63 (.int .i64 ((2 * ((rt : Nat) : Int)) + 1)) := hdpA 10 _ 63 zy rfl rfl
  clear hbsA hdpA
  refine op_add (zC hNA rfl ap) (zC hNA rfl aq) (add64 zx) ?_
  exact obR_end rfl rfl (grown_refl _ _)
 ·
  intro aA wA cA hNA hRA hckA hOA hbsA hdpA
  have ar : Sl aA 61 v := hdpA 8 _ 61 zy rfl rfl
  have au : Sl aA 64 (.int .i64 (((fi : Nat) : Int) + ((2 * ((rt : Nat) : Int)) + 1))) := hdpA 11 _ 64 zy rfl rfl
  clear hbsA hdpA
  refine op_index_own (i := (fi + ((2 * rt) + 1))) slt45 (zC hNA rfl ar) hOA (zC hNA rfl au) zx zx ?_
  intro b_ o_ _ hA_
  exact obR_end rfl ⟨b_, o_, rfl, by simpa using hA_⟩ (grown_refl _ _)
 ·
  intro aA wA cA hNA hRA hckA hOA hbsA hdpA
  obtain ⟨ax, ay, aw, av⟩ := hdpA 12 _ 65 zy rfl rfl
  clear hbsA hdpA
  obtain rfl : cA = 0 := Nat.le_zero.1 (hckA 0 21 rfl zy)
  have hOA : Own wA base 46 1 v n (dk.toList.map u16v) := hOA
  refine zN (v := (Value.int .u16 (dk[(fi + ((2 * rt) + 1))]!.toNat : Int))) one46 (zC hNA rfl aw) (by have := hOA.cellAt av 0 _ (el_at (i := (fi + ((2 * rt) + 1))) (by first | omega | (simp only [Array.size_setIfInBounds, swp_sz, siftDown_size]; omega))); simpa using this) ?_
  exact obR_end rfl rfl (grown_refl _ _)
 ·
  intro aA wA cA hNA hRA hckA hOA hbsA hdpA
  have ah := (hbsA 0 rfl).trans (zL m rfl q)
  clear hbsA hdpA
  refine zG (zC hNA rfl ah) ?_
  exact obR_end rfl rfl (grown_refl _ _)
 ·
  intro aA wA cA hNA hRA hckA hOA hbsA hdpA
  have ai := (hbsA 3 rfl).trans (zL m rfl p)
  clear hbsA hdpA
  refine zG (zC hNA rfl ai) ?_
  exact obR_end rfl rfl (grown_refl _ _)
 ·
  intro aA wA cA hNA hRA hckA hOA hbsA hdpA
  have aj := (hbsA 8 rfl).trans (zL m rfl s)
  clear hbsA hdpA
  refine zG (zC hNA rfl aj) ?_
  exact obR_end rfl rfl (grown_refl _ _)
 ·
  intro aA wA cA hNA hRA hckA hOA hbsA hdpA
  have az : Sl aA 68 (.int .i64 ((fi : Nat) : Int)) := hdpA 15 _ 68 zy rfl rfl
  have aB : Sl aA 69 (.int .i64 ((rt : Nat) : Int)) := hdpA 16 _ 69 zy rfl rfl
  clear hbsA hdpA
  refine op_add (zC hNA rfl az) (zC hNA rfl aB) (add64 zx) ?_
  exact obR_end rfl rfl (grown_refl _ _)
 ·
  intro aA wA cA hNA hRA hckA hOA hbsA hdpA
  have aC : Sl aA 67 v := hdpA 14 _ 67 zy rfl rfl
  have aD : Sl aA 70 (.int .i64 (((fi : Nat) : Int) + ((rt : Nat) : Int))) := hdpA 17 _ 70 zy rfl rfl
  clear hbsA hdpA
  refine op_index_own (i := (fi + rt)) slt45 (zC hNA rfl aC) hOA (zC hNA rfl aD) zx zx ?_
  intro b_ o_ _ hA_
  exact obR_end rfl ⟨b_, o_, rfl, by simpa using hA_⟩ (grown_refl _ _)
 ·
  intro aA wA cA hNA hRA hckA hOA hbsA hdpA
  obtain ⟨aH, aG, aE, aF⟩ := hdpA 18 _ 71 zy rfl rfl
  clear hbsA hdpA
  obtain rfl : cA = 0 := Nat.le_zero.1 (hckA 0 21 rfl zy)
  have hOA : Own wA base 46 1 v n (dk.toList.map u16v) := hOA
  refine zN (v := (Value.int .u16 (dk[(fi + rt)]!.toNat : Int))) one46 (zC hNA rfl aE) (by have := hOA.cellAt aF 0 _ (el_at (i := (fi + rt)) (by first | omega | (simp only [Array.size_setIfInBounds, swp_sz, siftDown_size]; omega))); simpa using this) ?_
  exact obR_end rfl rfl (grown_refl _ _)
 ·
  intro aA wA cA hNA hRA hckA hOA hbsA hdpA
  have aI : Sl aA 53 v := hdpA 0 _ 53 zy rfl rfl
  have aJ : Sl aA 56 (.int .i64 (((fi : Nat) : Int) + ((rt : Nat) : Int))) := hdpA 3 _ 56 zy rfl rfl
  clear hbsA hdpA
  refine op_index_own (i := (fi + rt)) slt45 (zC hNA rfl aI) hOA (zC hNA rfl aJ) zx zx ?_
  intro b_ o_ _ hA_
  exact obR_end rfl ⟨b_, o_, rfl, by simpa using hA_⟩ (grown_refl _ _)
 ·
  intro aA wA cA hNA hRA hckA hOA hbsA hdpA
  have aK : Sl aA 57 v := hdpA 4 _ 57 zy rfl rfl
  have aL : Sl aA 60 (.int .i64 (((fi : Nat) : Int) + ((2 * ((rt : Nat) : Int)) + 1))) := hdpA 7 _ 60 zy rfl rfl
  clear hbsA hdpA
  refine op_index_own (i := (fi + ((2 * rt) + 1))) slt45 (zC hNA rfl aK) hOA (zC hNA rfl aL) zx zx ?_
  intro b_ o_ _ hA_
  exact obR_end rfl ⟨b_, o_, rfl, by simpa using hA_⟩ (grown_refl _ _)
 ·
  intro o_ ho_; obtain rfl := zE ho_; intro aA wA hNA hRA hbsA hdpA hOA
  obtain ⟨aO, aP, aN, aM⟩ := hdpA 20 _ 73 zy rfl rfl
  have aQ : Sl aA 66 (.int .u16 (dk[(fi + ((2 * rt) + 1))]!.toNat : Int)) := hdpA 13 _ 66 zy rfl rfl
  clear hbsA hdpA
  have hOA : Own wA base 46 1 v n (dk.toList.map u16v) := hOA
  refine op_store_own (vs := [(.int .u16 (dk[(fi + ((2 * rt) + 1))]!.toNat : Int))]) size46 (zC hNA rfl aN) (zC hNA rfl aQ) rfl rfl rfl hOA aM (by have := hOA.1; simp at this ⊢; omega) ?_
  intro w_ hO_ E_
  exact obW_end rfl (hO_.cast rfl (set_arr (by first | omega | (simp only [Array.size_setIfInBounds, swp_sz, siftDown_size]; omega)))) E_
 ·
  intro o_ ho_; obtain rfl := zE ho_; intro aA wA hNA hRA hbsA hdpA hOA
  obtain ⟨aU, aT, aS, aR⟩ := hdpA 22 _ 74 zy rfl rfl
  have U : Sl aA 72 (.int .u16 (dk[(fi + rt)]!.toNat : Int)) := hdpA 19 _ 72 zy rfl rfl
  clear hbsA hdpA
  have hOA : Own wA base 46 1 v n ((dk.setIfInBounds (fi + rt) dk[(fi + ((2 * rt) + 1))]!).toList.map u16v) := hOA
  refine op_store_own (vs := [(.int .u16 (dk[(fi + rt)]!.toNat : Int))]) size46 (zC hNA rfl aS) (zC hNA rfl U) rfl rfl rfl hOA aR (by have := hOA.1; simp at this ⊢; omega) ?_
  intro w_ hO_ E_
  exact obW_end rfl (hO_.cast rfl (set_arr (by first | omega | (simp only [Array.size_setIfInBounds, swp_sz, siftDown_size]; omega)))) E_
 intro y s a f c o g k
 have f := f.trans t
 have t := (c 0 rfl).trans (zL m rfl q)
 have q := (c 2 rfl).trans (zL m rfl u)
 have u := (c 3 rfl).trans (zL m rfl p)
 have p := (c 9 rfl).trans (zU m rfl)
 clear c o
 have g : Own s base 46 1 v n (((dk.setIfInBounds (fi + rt) dk[(fi + ((2 * rt) + 1))]!).setIfInBounds (fi + ((2 * rt) + 1)) dk[(fi + rt)]!).toList.map u16v) := g
 have := k.size
 have hb := grow_stepX hb k rfl
 refine l _ _ (zH (zG (zC a rfl p) (zD (zA a rfl) (zB (blk_normal ?_)))))
 -- round 16F 20F 52F
 have hch : childS hi fi rt dk = 2 * rt + 1 := childS_f (.inl zx)
 exact zg _ a f ⟨(2 * rt + 1), _, rfl, (zL a rfl t), (zL a rfl q), (zL a rfl u), (zU a rfl).trans (congrArg (Value.int .i64) zx), (by first | assumption | (simp only [Array.size_setIfInBounds, swp_sz, siftDown_size]; assumption)), zx, (hs.trans ((siftDown_go zx (by rw [hch]; simpa [Nat.add_assoc] using ag)).trans (by rw [hch]; rfl))), hb, zx, g⟩ zx
open Go.Sort (insertionSort insOuter insInner swp siftDown heapSort heapBuild heapPop scanUp scanDown partition partLoop partitionEqual partEqLoop scanSorted partialIns bitsLen partialInsertionSort shiftDown shiftUp SortedIn reverseRange reverseLoop fixDown fixUp)
theorem heapW_ret (d : Ar) (v : Value) (n base : Nat) (a b : Nat) (w : World) (hd : d.size = n) (hn : n ≤ 4000000000000000000) (O : Own w base 46 1 v n (d.toList.map u16v)) (hab : a ≤ b) (hbn : b ≤ n) : Ret Try.prog 154 #[v, (.int .i64 ((a : Nat) : Int)), (.int .i64 ((b : Nat) : Int))] w (fun v' w' => w.grownBy w' v.ownBlock ∧ v' = .tuple #[] ∧ Own w' base 46 1 v n ((heapSort ltT d a b).toList.map u16v)) := by
 have hb := grown_refl w v.ownBlock
 refine enter (N := 56) Try.func154 rfl rfl (by simp) fun c hN hd hA => ?_
 have f : c.tmps.getD 0 undef = v := hA 0 (by simp)
 have g : c.tmps.getD 1 undef = (.int .i64 ((a : Nat) : Int)) := hA 1 (by simp)
 have j : c.tmps.getD 2 undef = (.int .i64 ((b : Nat) : Int)) := hA 2 (by simp)
 clear hA
 refine zF fun _ l => zH (zG (zC hN rfl g) (zD (zA hN rfl) (zB (l _ _ (zF fun _ l => ?_)))))
 refine zH (zD rfl (zB (l _ _ (zF fun _ l => zH (zG (zC hN rfl j) (zG (zC hN rfl g) (op_sub (r := ((b - a : Nat) : Int)) (zA hN rfl) (zA hN rfl) (by rw [IntKind.wrap_i64]; omega) (zD (zA hN rfl) (zB ?_)))))))))
 refine l _ _ (zF fun _ l => zF fun _ m => zH (zG (zA hN rfl) (op_sub (zA hN rfl) rfl (sub64 zx) (op_quo (r := (((b - a - 1) / 2 : Nat) : Int)) (zA hN rfl) rfl zz (by rw [tdiv2, IntKind.wrap_i64]; omega) (zD (zA hN rfl) (zB (m _ _ (wp_block (loop_m (fun mz_ az_ w' => ∃ (k : Nat) (dk : Ar), mz_ = (k + 1) ∧ (Sl az_ 0 v) ∧ (Sl az_ 6 (.int .i64 ((a : Nat) : Int))) ∧ (Sl az_ 7 (.int .i64 0)) ∧ (Sl az_ 8 (.int .i64 ((b - a : Nat) : Int))) ∧ (Sl az_ 9 (.int .i64 (((k : Nat) : Int) - 1))) ∧ (dk.size = n) ∧ (k ≤ (b - a - 1) / 2 + 1) ∧ (heapBuild ltT (b - a) a ((b - a - 1) / 2 + 1) d = heapBuild ltT (b - a) a k dk) ∧ (w.grownBy w' v.ownBlock) ∧ (w.heap.size ≤ w'.heap.size) ∧ (Own w' base 46 1 v n (dk.toList.map u16v))) _ hN hd ⟨((b - a - 1) / 2 + 1), _, rfl, (zL hN rfl f), (zU hN rfl), (zU hN rfl), (zU hN rfl), (zU hN rfl).trans (congrArg (Value.int .i64) zx), (by first | assumption | (simp only [Array.size_setIfInBounds, swp_sz, siftDown_size]; assumption)), Nat.le_refl _, rfl, hb, (Nat.le_refl _), O⟩ ?_)))))))))
 rintro _ D B o A ⟨k, dk, rfl, u, p, z, t, s, hdk, hk, hs, hb, C, y⟩
 have := hb.size
 refine zF fun _ m => zF fun _ E => zH (zG (zC o rfl s) (op_geq (zA o rfl) rfl (fun F => ?_) (fun F => ?_)))
 ·
  refine zB (E _ _ (wp_cond_true (zA o rfl) (wp_skip (m _ _ (zF fun _ m => wp_block ?_)))))
  refine zH (zG (zC o rfl u) (zG ((zC o rfl s).trans (congrArg (Value.int .i64) (show _ = ((k - 1 : Nat) : Int) by omega))) (zG (zC o rfl t) (zG (zC o rfl p) (zj ok173 (siftDownW_ret dk _ _ _ (k - 1) (b - a) a _ (by first | assumption | (simp only [Array.size_setIfInBounds, swp_sz, siftDown_size]; assumption)) zx y zx zx) ⟨(zA o rfl), ⟨(zA o rfl), ⟨(zA o rfl), ⟨(zA o rfl), trivial⟩⟩⟩⟩ ?_)))))
  rintro _ I ⟨G, rfl, H⟩
  have := G.size
  have hb := grow_stepX hb G rfl
  refine zB (m _ _ (zH (zG (zC o rfl s) (op_sub (zA o rfl) rfl (sub64 zx) (zD (zA o rfl) (zB ?_))))))
  -- round 19T
  exact zg _ o A ⟨(k - 1), _, rfl, (zL o rfl u), (zL o rfl p), (zL o rfl z), (zL o rfl t), (zU o rfl).trans (congrArg (Value.int .i64) zx), (by first | assumption | (simp only [Array.size_setIfInBounds, swp_sz, siftDown_size]; assumption)), zx, (hs.trans (heapBuild_go' zx)), hb, zx, H⟩ zx
 refine zB (E _ _ (wp_cond_false (zA o rfl) (wp_exit (then_exit (then_exit (blk_hit (l _ _ (zF fun _ l => zH (zG (zC o rfl t) (op_sub (zA o rfl) rfl (sub64 zx) (zD (zA o rfl) (zB (l _ _ (wp_block (loop_m (fun mz_ az_ w' => ∃ (q : Nat) (dj : Ar), mz_ = (q + 1) ∧ (Sl az_ 0 v) ∧ (Sl az_ 6 (.int .i64 ((a : Nat) : Int))) ∧ (Sl az_ 7 (.int .i64 0)) ∧ (Sl az_ 10 (.int .i64 (((q : Nat) : Int) - 1))) ∧ (dj.size = n) ∧ (q ≤ b - a) ∧ (heapPop ltT a (b - a) (heapBuild ltT (b - a) a ((b - a - 1) / 2 + 1) d) = heapPop ltT a q dj) ∧ (w.grownBy w' v.ownBlock) ∧ (B.heap.size ≤ w'.heap.size) ∧ (Own w' base 46 1 v n (dj.toList.map u16v))) _ o A ⟨(b - a), _, rfl, (zL o rfl u), (zL o rfl p), (zL o rfl z), (zU o rfl).trans (congrArg (Value.int .i64) zx), (by first | assumption | (simp only [Array.size_setIfInBounds, swp_sz, siftDown_size]; assumption)), Nat.le_refl _, (congrArg (heapPop ltT a (b - a)) (hs.trans (by rw [show k = 0 by omega]; rfl))), hb, (Nat.le_refl _), y⟩ ?_)))))))))))))))
 rintro _ Q R G K ⟨q, dj, rfl, I, H, P, J, hdj, hk, M, hb, S, L⟩
 have := hb.size
 refine zF fun _ l => zF fun _ m => zH (zG (zC G rfl J) (op_geq (zA G rfl) rfl (fun T => ?_) (fun T => ?_)))
 ·
  refine zB (m _ _ (wp_cond_true (zA G rfl) (wp_skip (l _ _ (zF fun _ l => wp_block (zF fun _ m => reg_mid (e := 46) (sz := 1) (base := base) (n := n) (v := v) (Φ := phiL [(fun uz _ => uz = v), (fun uz _ => uz = (.int .i64 ((a : Nat) : Int))), (fun uz _ => uz = v), (fun uz _ => uz = (.int .i64 ((a : Nat) : Int))), (fun uz _ => uz = (.int .i64 ((q - 1 : Nat) : Int))), (fun uz _ => uz = (.int .i64 (((a : Nat) : Int) + ((q - 1 : Nat) : Int)))), (fun uz _ => uz = v), (fun uz _ => uz = (.int .i64 ((a : Nat) : Int))), (fun uz _ => uz = (.int .i64 ((q - 1 : Nat) : Int))), (fun uz _ => uz = (.int .i64 (((a : Nat) : Int) + ((q - 1 : Nat) : Int)))), (fun uz _ => ∃ bz oz, uz = ptr bz oz ∧ AtV v (a + (q - 1)) bz oz), (fun uz _ => uz = (.int .u16 (dj[(a + (q - 1))]!.toNat : Int))), (fun uz _ => uz = v), (fun uz _ => uz = (.int .i64 ((a : Nat) : Int))), (fun uz _ => ∃ bz oz, uz = ptr bz oz ∧ AtV v a bz oz), (fun uz _ => uz = (.int .u16 (dj[a]!.toNat : Int))), (fun uz _ => ∃ bz oz, uz = ptr bz oz ∧ AtV v a bz oz), (fun _ _ => True), (fun uz _ => ∃ bz oz, uz = ptr bz oz ∧ AtV v (a + (q - 1)) bz oz), (fun _ _ => True)]) [17, 19] [(dj.toList.map u16v), ((dj.setIfInBounds a dj[(a + (q - 1))]!).toList.map u16v), (((dj.setIfInBounds a dj[(a + (q - 1))]!).setIfInBounds (a + (q - 1)) dj[a]!).toList.map u16v)] mixed zy zy zy zy G L (StL.get (StL.eq (StL.eq (StL.eq (StL.eq (StL.eq (StL.eq (StL.eq (StL.eq (StL.eq (StL.eq (StL.at (StL.eq (StL.eq (StL.eq (StL.at (StL.eq (StL.at (StL.cons (fun _ _ _ _ h => h) (StL.at (StL.cons (fun _ _ _ _ h => h) (StL.nil _)))))))))))))))))))))) (ObRs.get (ObRs.cons ?_ (ObRs.cons ?_ (ObRs.cons ?_ (ObRs.cons ?_ (ObRs.cons ?_ (ObRs.cons ?_ (ObRs.cons ?_ (ObRs.cons ?_ (ObRs.cons ?_ (ObRs.cons ?_ (ObRs.cons ?_ (ObRs.cons ?_ (ObRs.cons ?_ (ObRs.cons ?_ (ObRs.cons ?_ (ObRs.cons ?_ (ObRs.cons ?_ (ObRs.pass rfl (ObRs.cons ?_ (ObRs.pass rfl (ObRs.nil)))))))))))))))))))))) (ObWs.get (ObWs.cons ?_ (ObWs.cons ?_ (ObWs.nil)))) ?_))))))
  ·
   intro aA wA cA hNA hRA hckA hOA hbsA hdpA
   have U := (hbsA 0 rfl).trans (zL G rfl I)
   clear hbsA hdpA
   refine zG (zC hNA rfl U) ?_
   exact obR_end rfl rfl (grown_refl _ _)
  ·
   intro aA wA cA hNA hRA hckA hOA hbsA hdpA
   have V := (hbsA 6 rfl).trans (zL G rfl H)
   clear hbsA hdpA
   refine zG (zC hNA rfl V) ?_
   exact obR_end rfl rfl (grown_refl _ _)
  ·
   intro aA wA cA hNA hRA hckA hOA hbsA hdpA
   have U := (hbsA 0 rfl).trans (zL G rfl I)
   clear hbsA hdpA
   refine zG (zC hNA rfl U) ?_
   exact obR_end rfl rfl (grown_refl _ _)
  ·
   intro aA wA cA hNA hRA hckA hOA hbsA hdpA
   have V := (hbsA 6 rfl).trans (zL G rfl H)
   clear hbsA hdpA
   refine zG (zC hNA rfl V) ?_
   exact obR_end rfl rfl (grown_refl _ _)
  ·
   intro aA wA cA hNA hRA hckA hOA hbsA hdpA
   have W := (hbsA 10 rfl).trans (zL G rfl J)
   clear hbsA hdpA
   refine zG ((zC hNA rfl W).trans (congrArg (Value.int .i64) (show _ = ((q - 1 : Nat) : Int) by omega))) ?_
   exact obR_end rfl rfl (grown_refl _ _)
  ·
   intro aA wA cA hNA hRA hckA hOA hbsA hdpA
   have X : Sl aA 36 (.int .i64 ((a : Nat) : Int)) := hdpA 3 _ 36 zy rfl rfl
   have Y : Sl aA 37 (.int .i64 ((q - 1 : Nat) : Int)) := hdpA 4 _ 37 zy rfl rfl
   clear hbsA hdpA
   refine op_add (zC hNA rfl X) (zC hNA rfl Y) (add64 zx) ?_
   exact obR_end rfl rfl (grown_refl _ _)
  ·
   intro aA wA cA hNA hRA hckA hOA hbsA hdpA
   have U := (hbsA 0 rfl).trans (zL G rfl I)
   clear hbsA hdpA
   refine zG (zC hNA rfl U) ?_
   exact obR_end rfl rfl (grown_refl _ _)
  ·
   intro aA wA cA hNA hRA hckA hOA hbsA hdpA
   have V := (hbsA 6 rfl).trans (zL G rfl H)
   clear hbsA hdpA
   refine zG (zC hNA rfl V) ?_
   exact obR_end rfl rfl (grown_refl _ _)
  ·
   intro aA wA cA hNA hRA hckA hOA hbsA hdpA
   have W := (hbsA 10 rfl).trans (zL G rfl J)
   clear hbsA hdpA
   refine zG ((zC hNA rfl W).trans (congrArg (Value.int .i64) (show _ = ((q - 1 : Nat) : Int) by omega))) ?_
   exact obR_end rfl rfl (grown_refl _ _)
  ·
   intro aA wA cA hNA hRA hckA hOA hbsA hdpA
   have W : Sl aA 40 (.int .i64 ((a : Nat) : Int)) := hdpA 7 _ 40 zy rfl rfl
   have X : Sl aA 41 (.int .i64 ((q - 1 : Nat) : Int)) := hdpA 8 _ 41 zy rfl rfl
   clear hbsA hdpA
   refine op_add (zC hNA rfl W) (zC hNA rfl X) (add64 zx) ?_
   exact obR_end rfl rfl (grown_refl _ _)
  ·
   intro aA wA cA hNA hRA hckA hOA hbsA hdpA
   have W : Sl aA 39 v := hdpA 6 _ 39 zy rfl rfl
   have X : Sl aA 42 (.int .i64 (((a : Nat) : Int) + ((q - 1 : Nat) : Int))) := hdpA 9 _ 42 zy rfl rfl
   clear hbsA hdpA
   refine op_index_own (i := (a + (q - 1))) slt45 (zC hNA rfl W) hOA (zC hNA rfl X) zx zx ?_
   intro b_ o_ _ hA_
   exact obR_end rfl ⟨b_, o_, rfl, by simpa using hA_⟩ (grown_refl _ _)
  ·
   intro aA wA cA hNA hRA hckA hOA hbsA hdpA
   obtain ⟨Y, Z, X, W⟩ := hdpA 10 _ 43 zy rfl rfl
   clear hbsA hdpA
   obtain rfl : cA = 0 := Nat.le_zero.1 (hckA 0 17 rfl zy)
   have hOA : Own wA base 46 1 v n (dj.toList.map u16v) := hOA
   refine zN (v := (Value.int .u16 (dj[(a + (q - 1))]!.toNat : Int))) one46 (zC hNA rfl X) (by have := hOA.cellAt W 0 _ (el_at (i := (a + (q - 1))) (by first | omega | (simp only [Array.size_setIfInBounds, swp_sz, siftDown_size]; omega))); simpa using this) ?_
   exact obR_end rfl rfl (grown_refl _ _)
  ·
   intro aA wA cA hNA hRA hckA hOA hbsA hdpA
   have U := (hbsA 0 rfl).trans (zL G rfl I)
   clear hbsA hdpA
   refine zG (zC hNA rfl U) ?_
   exact obR_end rfl rfl (grown_refl _ _)
  ·
   intro aA wA cA hNA hRA hckA hOA hbsA hdpA
   have V := (hbsA 6 rfl).trans (zL G rfl H)
   clear hbsA hdpA
   refine zG (zC hNA rfl V) ?_
   exact obR_end rfl rfl (grown_refl _ _)
  ·
   intro aA wA cA hNA hRA hckA hOA hbsA hdpA
   have U : Sl aA 45 v := hdpA 12 _ 45 zy rfl rfl
   have V : Sl aA 46 (.int .i64 ((a : Nat) : Int)) := hdpA 13 _ 46 zy rfl rfl
   clear hbsA hdpA
   refine op_index_own (i := a) slt45 (zC hNA rfl U) hOA (zC hNA rfl V) zx zx ?_
   intro b_ o_ _ hA_
   exact obR_end rfl ⟨b_, o_, rfl, by simpa using hA_⟩ (grown_refl _ _)
  ·
   intro aA wA cA hNA hRA hckA hOA hbsA hdpA
   obtain ⟨X, W, U, V⟩ := hdpA 14 _ 47 zy rfl rfl
   clear hbsA hdpA
   obtain rfl : cA = 0 := Nat.le_zero.1 (hckA 0 17 rfl zy)
   have hOA : Own wA base 46 1 v n (dj.toList.map u16v) := hOA
   refine zN (v := (Value.int .u16 (dj[a]!.toNat : Int))) one46 (zC hNA rfl U) (by have := hOA.cellAt V 0 _ (el_at (i := a) (by first | omega | (simp only [Array.size_setIfInBounds, swp_sz, siftDown_size]; omega))); simpa using this) ?_
   exact obR_end rfl rfl (grown_refl _ _)
  ·
   intro aA wA cA hNA hRA hckA hOA hbsA hdpA
   have U : Sl aA 33 v := hdpA 0 _ 33 zy rfl rfl
   have V : Sl aA 34 (.int .i64 ((a : Nat) : Int)) := hdpA 1 _ 34 zy rfl rfl
   clear hbsA hdpA
   refine op_index_own (i := a) slt45 (zC hNA rfl U) hOA (zC hNA rfl V) zx zx ?_
   intro b_ o_ _ hA_
   exact obR_end rfl ⟨b_, o_, rfl, by simpa using hA_⟩ (grown_refl _ _)
  ·
   intro aA wA cA hNA hRA hckA hOA hbsA hdpA
   have U : Sl aA 35 v := hdpA 2 _ 35 zy rfl rfl
   have V : Sl aA 38 (.int .i64 (((a : Nat) : Int) + ((q - 1 : Nat) : Int))) := hdpA 5 _ 38 zy rfl rfl
   clear hbsA hdpA
   refine op_index_own (i := (a + (q - 1))) slt45 (zC hNA rfl U) hOA (zC hNA rfl V) zx zx ?_
   intro b_ o_ _ hA_
   exact obR_end rfl ⟨b_, o_, rfl, by simpa using hA_⟩ (grown_refl _ _)
  ·
   intro o_ ho_; obtain rfl := zE ho_; intro aA wA hNA hRA hbsA hdpA hOA
   obtain ⟨W, X, V, U⟩ := hdpA 16 _ 49 zy rfl rfl
   have W : Sl aA 44 (.int .u16 (dj[(a + (q - 1))]!.toNat : Int)) := hdpA 11 _ 44 zy rfl rfl
   clear hbsA hdpA
   have hOA : Own wA base 46 1 v n (dj.toList.map u16v) := hOA
   refine op_store_own (vs := [(.int .u16 (dj[(a + (q - 1))]!.toNat : Int))]) size46 (zC hNA rfl V) (zC hNA rfl W) rfl rfl rfl hOA U (by have := hOA.1; simp at this ⊢; omega) ?_
   intro w_ hO_ E_
   exact obW_end rfl (hO_.cast rfl (set_arr (by first | omega | (simp only [Array.size_setIfInBounds, swp_sz, siftDown_size]; omega)))) E_
  ·
   intro o_ ho_; obtain rfl := zE ho_; intro aA wA hNA hRA hbsA hdpA hOA
   obtain ⟨X, W, U, V⟩ := hdpA 18 _ 50 zy rfl rfl
   have c : Sl aA 48 (.int .u16 (dj[a]!.toNat : Int)) := hdpA 15 _ 48 zy rfl rfl
   clear hbsA hdpA
   have hOA : Own wA base 46 1 v n ((dj.setIfInBounds a dj[(a + (q - 1))]!).toList.map u16v) := hOA
   refine op_store_own (vs := [(.int .u16 (dj[a]!.toNat : Int))]) size46 (zC hNA rfl U) (zC hNA rfl c) rfl rfl rfl hOA V (by have := hOA.1; simp at this ⊢; omega) ?_
   intro w_ hO_ E_
   exact obW_end rfl (hO_.cast rfl (set_arr (by first | omega | (simp only [Array.size_setIfInBounds, swp_sz, siftDown_size]; omega)))) E_
  intro t s c g f p j o
  have g := g.trans K
  have t := (f 0 rfl).trans (zL G rfl I)
  have u := (f 6 rfl).trans (zL G rfl H)
  have y := (f 7 rfl).trans (zL G rfl P)
  have z := (f 10 rfl).trans (zL G rfl J)
  clear f p
  have j : Own s base 46 1 v n (((dj.setIfInBounds a dj[(a + (q - 1))]!).setIfInBounds (a + (q - 1)) dj[a]!).toList.map u16v) := j
  have := o.size
  have hb := grow_stepX hb o rfl
  refine m _ _ (zH (zG (zC c rfl t) (zG (zC c rfl y) (zG ((zC c rfl z).trans (congrArg (Value.int .i64) (show _ = ((q - 1 : Nat) : Int) by omega))) (zG (zC c rfl u) (zj ok173 (siftDownW_ret ((dj.setIfInBounds a dj[(a + (q - 1))]!).setIfInBounds (a + (q - 1)) dj[a]!) _ _ _ 0 (q - 1) a _ (by first | assumption | (simp only [Array.size_setIfInBounds, swp_sz, siftDown_size]; assumption)) zx j zx zx) ⟨(zA c rfl), ⟨(zA c rfl), ⟨(zA c rfl), ⟨(zA c rfl), trivial⟩⟩⟩⟩ ?_))))))
  rintro _ o ⟨f, rfl, j⟩
  have := f.size
  have hb := grow_stepX hb f rfl
  refine zB (l _ _ (zH (zG (zC c rfl z) (op_sub (zA c rfl) rfl (sub64 zx) (zD (zA c rfl) (zB ?_))))))
  -- round 19F 30T
  exact zg _ c g ⟨(q - 1), _, rfl, (zL c rfl t), (zL c rfl u), (zL c rfl y), (zU c rfl).trans (congrArg (Value.int .i64) zx), (by first | assumption | (simp only [Array.size_setIfInBounds, swp_sz, siftDown_size]; assumption)), zx, (M.trans (heapPop_go' zx)), hb, zx, j⟩ zx
 refine zB (m _ _ (wp_cond_false (zA G rfl) (wp_exit (then_exit (then_exit (blk_hit (end_ret (ret0 rfl K  ⟨_, rfl, ?_⟩))))))))
 exact ⟨hb, rfl, L.cast rfl (by rw [show heapSort ltT d a b = heapPop ltT a (b - a) (heapBuild ltT (b - a) a ((b - a - 1) / 2 + 1) d) from rfl, M, show q = 0 by omega]; rfl)⟩
open Go.Sort (insertionSort insOuter insInner swp siftDown heapSort heapBuild heapPop scanUp scanDown partition partLoop partitionEqual partEqLoop scanSorted partialIns bitsLen partialInsertionSort shiftDown shiftUp SortedIn reverseRange reverseLoop fixDown fixUp)
theorem revW_ret (d : Ar) (v : Value) (n base : Nat) (a b : Nat) (w : World) (hd : d.size = n) (hn : n ≤ 4000000000000000000) (O : Own w base 46 1 v n (d.toList.map u16v)) (hab : a < b) (hbn : b ≤ n) : Ret Try.prog 157 #[v, (.int .i64 ((a : Nat) : Int)), (.int .i64 ((b : Nat) : Int))] w (fun v' w' => w.grownBy w' v.ownBlock ∧ v' = .tuple #[] ∧ Own w' base 46 1 v n ((reverseRange d a b).toList.map u16v)) := by
 have hb := grown_refl w v.ownBlock
 refine enter (N := 32) Try.func157 rfl rfl (by simp) fun c hN hd hA => ?_
 have f : c.tmps.getD 0 undef = v := hA 0 (by simp)
 have g : c.tmps.getD 1 undef = (.int .i64 ((a : Nat) : Int)) := hA 1 (by simp)
 have j : c.tmps.getD 2 undef = (.int .i64 ((b : Nat) : Int)) := hA 2 (by simp)
 clear hA
 refine zF fun _ k => zH (zG (zC hN rfl g) ?_)
 refine zD (zA hN rfl) (zB (k _ _ (zF fun _ k => zH (zG (zC hN rfl j) (op_sub (r := ((b - 1 : Nat) : Int)) (zA hN rfl) rfl (by rw [IntKind.wrap_i64]; omega) (zD (zA hN rfl) (zB (k _ _ (wp_block (loop_m (fun mz_ az_ w' => ∃ (ix jx : Nat) (dk : Ar), mz_ = (jx + 1 - ix) ∧ (Sl az_ 0 v) ∧ (Sl az_ 6 (.int .i64 ((ix : Nat) : Int))) ∧ (Sl az_ 7 (.int .i64 ((jx : Nat) : Int))) ∧ (dk.size = n) ∧ (a ≤ ix ∧ jx < b) ∧ (reverseLoop a (b - 1) d = reverseLoop ix jx dk) ∧ (w.grownBy w' v.ownBlock) ∧ (w.heap.size ≤ w'.heap.size) ∧ (Own w' base 46 1 v n (dk.toList.map u16v))) _ hN hd ⟨a, (b - 1), _, rfl, (zL hN rfl f), (zU hN rfl).trans (congrArg (Value.int .i64) zx), (zU hN rfl).trans (congrArg (Value.int .i64) zx), (by first | assumption | (simp only [Array.size_setIfInBounds, swp_sz, siftDown_size]; assumption)), zx, rfl, hb, (Nat.le_refl _), O⟩ ?_))))))))))
 rintro _ y t l s ⟨ix, jx, dk, rfl, m, p, o, hdk, hrng, hs, hb, u, q⟩
 have := hb.size
 refine zF fun _ k => zF fun _ z => zH (zG (zC l rfl p) (zG (zC l rfl o) (op_lss (zA l rfl) (zA l rfl) (fun A => ?_) (fun A => ?_))))
 ·
  refine zB (z _ _ (wp_cond_true (zA l rfl) (wp_skip (k _ _ (wp_block (zF fun _ k => reg_mid (e := 46) (sz := 1) (base := base) (n := n) (v := v) (Φ := phiL [(fun uz _ => uz = v), (fun uz _ => uz = (.int .i64 ((ix : Nat) : Int))), (fun uz _ => uz = v), (fun uz _ => uz = (.int .i64 ((jx : Nat) : Int))), (fun uz _ => uz = v), (fun uz _ => uz = (.int .i64 ((jx : Nat) : Int))), (fun uz _ => ∃ bz oz, uz = ptr bz oz ∧ AtV v jx bz oz), (fun uz _ => uz = (.int .u16 (dk[jx]!.toNat : Int))), (fun uz _ => uz = v), (fun uz _ => uz = (.int .i64 ((ix : Nat) : Int))), (fun uz _ => ∃ bz oz, uz = ptr bz oz ∧ AtV v ix bz oz), (fun uz _ => uz = (.int .u16 (dk[ix]!.toNat : Int))), (fun uz _ => ∃ bz oz, uz = ptr bz oz ∧ AtV v ix bz oz), (fun _ _ => True), (fun uz _ => ∃ bz oz, uz = ptr bz oz ∧ AtV v jx bz oz), (fun _ _ => True)]) [13, 15] [(dk.toList.map u16v), ((dk.setIfInBounds ix dk[jx]!).toList.map u16v), (((dk.setIfInBounds ix dk[jx]!).setIfInBounds jx dk[ix]!).toList.map u16v)] mixed zy zy zy zy l q (StL.get (StL.eq (StL.eq (StL.eq (StL.eq (StL.eq (StL.eq (StL.at (StL.eq (StL.eq (StL.eq (StL.at (StL.eq (StL.at (StL.cons (fun _ _ _ _ h => h) (StL.at (StL.cons (fun _ _ _ _ h => h) (StL.nil _)))))))))))))))))) (ObRs.get (ObRs.cons ?_ (ObRs.cons ?_ (ObRs.cons ?_ (ObRs.cons ?_ (ObRs.cons ?_ (ObRs.cons ?_ (ObRs.cons ?_ (ObRs.cons ?_ (ObRs.cons ?_ (ObRs.cons ?_ (ObRs.cons ?_ (ObRs.cons ?_ (ObRs.cons ?_ (ObRs.pass rfl (ObRs.cons ?_ (ObRs.pass rfl (ObRs.nil)))))))))))))))))) (ObWs.get (ObWs.cons ?_ (ObWs.cons ?_ (ObWs.nil)))) ?_))))))
  ·
   intro aA wA cA hNA hRA hckA hOA hbsA hdpA
   have B := (hbsA 0 rfl).trans (zL l rfl m)
   clear hbsA hdpA
   refine zG (zC hNA rfl B) ?_
   exact obR_end rfl rfl (grown_refl _ _)
  ·
   intro aA wA cA hNA hRA hckA hOA hbsA hdpA
   have C := (hbsA 6 rfl).trans (zL l rfl p)
   clear hbsA hdpA
   refine zG (zC hNA rfl C) ?_
   exact obR_end rfl rfl (grown_refl _ _)
  ·
   intro aA wA cA hNA hRA hckA hOA hbsA hdpA
   have B := (hbsA 0 rfl).trans (zL l rfl m)
   clear hbsA hdpA
   refine zG (zC hNA rfl B) ?_
   exact obR_end rfl rfl (grown_refl _ _)
  ·
   intro aA wA cA hNA hRA hckA hOA hbsA hdpA
   have D := (hbsA 7 rfl).trans (zL l rfl o)
   clear hbsA hdpA
   refine zG (zC hNA rfl D) ?_
   exact obR_end rfl rfl (grown_refl _ _)
  ·
   intro aA wA cA hNA hRA hckA hOA hbsA hdpA
   have B := (hbsA 0 rfl).trans (zL l rfl m)
   clear hbsA hdpA
   refine zG (zC hNA rfl B) ?_
   exact obR_end rfl rfl (grown_refl _ _)
  ·
   intro aA wA cA hNA hRA hckA hOA hbsA hdpA
   have D := (hbsA 7 rfl).trans (zL l rfl o)
   clear hbsA hdpA
   refine zG (zC hNA rfl D) ?_
   exact obR_end rfl rfl (grown_refl _ _)
  ·
   intro aA wA cA hNA hRA hckA hOA hbsA hdpA
   have D : Sl aA 18 v := hdpA 4 _ 18 zy rfl rfl
   have E : Sl aA 19 (.int .i64 ((jx : Nat) : Int)) := hdpA 5 _ 19 zy rfl rfl
   clear hbsA hdpA
   refine op_index_own (i := jx) slt45 (zC hNA rfl D) hOA (zC hNA rfl E) zx zx ?_
   intro b_ o_ _ hA_
   exact obR_end rfl ⟨b_, o_, rfl, by simpa using hA_⟩ (grown_refl _ _)
  ·
   intro aA wA cA hNA hRA hckA hOA hbsA hdpA
   obtain ⟨G, F, D, E⟩ := hdpA 6 _ 20 zy rfl rfl
   clear hbsA hdpA
   obtain rfl : cA = 0 := Nat.le_zero.1 (hckA 0 13 rfl zy)
   have hOA : Own wA base 46 1 v n (dk.toList.map u16v) := hOA
   refine zN (v := (Value.int .u16 (dk[jx]!.toNat : Int))) one46 (zC hNA rfl D) (by have := hOA.cellAt E 0 _ (el_at (i := jx) (by first | omega | (simp only [Array.size_setIfInBounds, swp_sz, siftDown_size]; omega))); simpa using this) ?_
   exact obR_end rfl rfl (grown_refl _ _)
  ·
   intro aA wA cA hNA hRA hckA hOA hbsA hdpA
   have B := (hbsA 0 rfl).trans (zL l rfl m)
   clear hbsA hdpA
   refine zG (zC hNA rfl B) ?_
   exact obR_end rfl rfl (grown_refl _ _)
  ·
   intro aA wA cA hNA hRA hckA hOA hbsA hdpA
   have C := (hbsA 6 rfl).trans (zL l rfl p)
   clear hbsA hdpA
   refine zG (zC hNA rfl C) ?_
   exact obR_end rfl rfl (grown_refl _ _)
  ·
   intro aA wA cA hNA hRA hckA hOA hbsA hdpA
   have B : Sl aA 22 v := hdpA 8 _ 22 zy rfl rfl
   have C : Sl aA 23 (.int .i64 ((ix : Nat) : Int)) := hdpA 9 _ 23 zy rfl rfl
   clear hbsA hdpA
   refine op_index_own (i := ix) slt45 (zC hNA rfl B) hOA (zC hNA rfl C) zx zx ?_
   intro b_ o_ _ hA_
   exact obR_end rfl ⟨b_, o_, rfl, by simpa using hA_⟩ (grown_refl _ _)
  ·
   intro aA wA cA hNA hRA hckA hOA hbsA hdpA
   obtain ⟨E, D, C, B⟩ := hdpA 10 _ 24 zy rfl rfl
   clear hbsA hdpA
   obtain rfl : cA = 0 := Nat.le_zero.1 (hckA 0 13 rfl zy)
   have hOA : Own wA base 46 1 v n (dk.toList.map u16v) := hOA
   refine zN (v := (Value.int .u16 (dk[ix]!.toNat : Int))) one46 (zC hNA rfl C) (by have := hOA.cellAt B 0 _ (el_at (i := ix) (by first | omega | (simp only [Array.size_setIfInBounds, swp_sz, siftDown_size]; omega))); simpa using this) ?_
   exact obR_end rfl rfl (grown_refl _ _)
  ·
   intro aA wA cA hNA hRA hckA hOA hbsA hdpA
   have B : Sl aA 14 v := hdpA 0 _ 14 zy rfl rfl
   have C : Sl aA 15 (.int .i64 ((ix : Nat) : Int)) := hdpA 1 _ 15 zy rfl rfl
   clear hbsA hdpA
   refine op_index_own (i := ix) slt45 (zC hNA rfl B) hOA (zC hNA rfl C) zx zx ?_
   intro b_ o_ _ hA_
   exact obR_end rfl ⟨b_, o_, rfl, by simpa using hA_⟩ (grown_refl _ _)
  ·
   intro aA wA cA hNA hRA hckA hOA hbsA hdpA
   have B : Sl aA 16 v := hdpA 2 _ 16 zy rfl rfl
   have C : Sl aA 17 (.int .i64 ((jx : Nat) : Int)) := hdpA 3 _ 17 zy rfl rfl
   clear hbsA hdpA
   refine op_index_own (i := jx) slt45 (zC hNA rfl B) hOA (zC hNA rfl C) zx zx ?_
   intro b_ o_ _ hA_
   exact obR_end rfl ⟨b_, o_, rfl, by simpa using hA_⟩ (grown_refl _ _)
  ·
   intro o_ ho_; obtain rfl := zE ho_; intro aA wA hNA hRA hbsA hdpA hOA
   obtain ⟨D, E, B, C⟩ := hdpA 12 _ 26 zy rfl rfl
   have D : Sl aA 21 (.int .u16 (dk[jx]!.toNat : Int)) := hdpA 7 _ 21 zy rfl rfl
   clear hbsA hdpA
   have hOA : Own wA base 46 1 v n (dk.toList.map u16v) := hOA
   refine op_store_own (vs := [(.int .u16 (dk[jx]!.toNat : Int))]) size46 (zC hNA rfl B) (zC hNA rfl D) rfl rfl rfl hOA C (by have := hOA.1; simp at this ⊢; omega) ?_
   intro w_ hO_ E_
   exact obW_end rfl (hO_.cast rfl (set_arr (by first | omega | (simp only [Array.size_setIfInBounds, swp_sz, siftDown_size]; omega)))) E_
  ·
   intro o_ ho_; obtain rfl := zE ho_; intro aA wA hNA hRA hbsA hdpA hOA
   obtain ⟨E, D, C, B⟩ := hdpA 14 _ 27 zy rfl rfl
   have c : Sl aA 25 (.int .u16 (dk[ix]!.toNat : Int)) := hdpA 11 _ 25 zy rfl rfl
   clear hbsA hdpA
   have hOA : Own wA base 46 1 v n ((dk.setIfInBounds ix dk[jx]!).toList.map u16v) := hOA
   refine op_store_own (vs := [(.int .u16 (dk[ix]!.toNat : Int))]) size46 (zC hNA rfl C) (zC hNA rfl c) rfl rfl rfl hOA B (by have := hOA.1; simp at this ⊢; omega) ?_
   intro w_ hO_ E_
   exact obW_end rfl (hO_.cast rfl (set_arr (by first | omega | (simp only [Array.size_setIfInBounds, swp_sz, siftDown_size]; omega)))) E_
  intro A u c j f y g t
  have j := j.trans s
  have A := (f 0 rfl).trans (zL l rfl m)
  have m := (f 6 rfl).trans (zL l rfl p)
  have p := (f 7 rfl).trans (zL l rfl o)
  clear f y
  have g : Own u base 46 1 v n (((dk.setIfInBounds ix dk[jx]!).setIfInBounds jx dk[ix]!).toList.map u16v) := g
  have := t.size
  have hb := grow_stepX hb t rfl
  refine k _ _ (zF fun _ k => zH ?_)
  refine zG (zC c rfl m) (op_add (zA c rfl) rfl (add64 zx) (zD (zA c rfl) (zB (k _ _ (zH (zG (zC c rfl p) (op_sub (zA c rfl) rfl (sub64 zx) (zD (zA c rfl) (zB (blk_normal ?_))))))))))
  -- round 13T
  exact zg _ c j ⟨(ix + 1), (jx - 1), _, rfl, (zL c rfl A), (zU c rfl).trans (congrArg (Value.int .i64) zx), (zU c rfl).trans (congrArg (Value.int .i64) zx), (by first | assumption | (simp only [Array.size_setIfInBounds, swp_sz, siftDown_size]; assumption)), zx, (hs.trans (rev_go zx)), hb, zx, g⟩ zx
 refine zB (z _ _ (wp_cond_false (zA l rfl) (wp_exit (then_exit (then_exit (blk_hit (end_ret (ret0 rfl s  ⟨_, rfl, ?_⟩))))))))
 exact ⟨hb, rfl, q.cast rfl (by rw [show reverseRange d a b = reverseLoop a (b - 1) d from rfl, hs, rev_stop zx])⟩
open Go.Sort (insertionSort insOuter insInner swp siftDown heapSort heapBuild heapPop scanUp scanDown partition partLoop partitionEqual partEqLoop scanSorted partialIns bitsLen partialInsertionSort shiftDown shiftUp SortedIn reverseRange reverseLoop fixDown fixUp)
theorem len64W_ret (n : Nat) (w : World) (hn : n < 18446744073709551616) : Ret Try.prog 163 #[(.int .u64 ((n : Nat) : Int))] w (fun v' w' => Below w.heap.size w w' ∧ v' = .int .i64 (bitsLen n : Int)) := by
 have hb := Below.refl w.heap.size w
 refine enter (N := 25) Try.func163 rfl rfl (by simp) fun a hN hd hA => ?_
 have c : a.tmps.getD 0 undef = (.int .u64 ((n : Nat) : Int)) := hA 0 (by simp)
 clear hA
 refine zF fun _ a => zH (zD rfl (zB (a _ _ (seq_join1 (N := 25) (fun az_ w' => ∃ (d e : Nat), (Sl az_ 0 (.int .u64 ((d : Nat) : Int))) ∧ (Sl az_ 2 (.int .i64 ((e : Nat) : Int))) ∧ (bitsLen n = e + bitsLen d ∧ d < 4294967296 ∧ e ≤ 32) ∧ (Below w.heap.size w w') ∧ (w.heap.size ≤ w'.heap.size)) (fun f => ?_) ?_))))
 ·
  refine zF fun _ a => zF fun _ g => zH (zG (zC hN rfl c) (op_geq (zA hN rfl) rfl (fun h => ?_) (fun h => ?_)))
  ·
   refine zB ?_
   refine g _ _ (wp_cond_true (zA hN rfl) (zF fun _ g => zH (zG (zC hN rfl c) (op_shr (r := ((n / 4294967296 : Nat) : Int)) (zA hN rfl) rfl zz (shr_nat (j := 32) zx zz) (zD (zA hN rfl) (zB (g _ _ (zH (zD rfl (zB (a _ _ ?_)))))))))))
   exact f _ _ _ hN hd ⟨(n / 4294967296), (0 + 32), (zU hN rfl).trans (congrArg (Value.int .u64) zx), (zU hN rfl).trans (congrArg (Value.int .i64) zx), (by have hz := bits_32 (n := n) zx; omega), hb, zx⟩
  refine zB (g _ _ (wp_cond_false (zA hN rfl) (wp_skip (a _ _ ?_))))
  exact f _ _ _ hN hd ⟨n, 0, (zL hN rfl c).trans (congrArg (Value.int .u64) zx), (zU hN rfl).trans (congrArg (Value.int .i64) zx), zx, hb, zx⟩
 rintro p l c k ⟨d, e, f, h, m, hb, o⟩
 have := hb.size
 refine seq_join1 (N := 25) (fun az_ w' => ∃ (m o : Nat), (Sl az_ 0 (.int .u64 ((m : Nat) : Int))) ∧ (Sl az_ 2 (.int .i64 ((o : Nat) : Int))) ∧ (bitsLen n = o + bitsLen m ∧ m < 65536 ∧ o ≤ 48) ∧ (Below w.heap.size w w') ∧ (l.heap.size ≤ w'.heap.size)) (fun p => ?_) ?_
 ·
  refine zF fun _ a => zF fun _ g => zH (zG (zC c rfl f) (op_geq (zA c rfl) rfl (fun l => ?_) (fun l => ?_)))
  ·
   refine zB (g _ _ (wp_cond_true (zA c rfl) (zF fun _ g => zH ?_)))
   refine zG (zC c rfl f) (op_shr (r := ((d / 65536 : Nat) : Int)) (zA c rfl) rfl zz (shr_nat (j := 16) zx zz) (zD (zA c rfl) (zB (g _ _ (zH (zG (zC c rfl h) (op_add (zA c rfl) rfl (add64 zx) (zD (zA c rfl) (zB (a _ _ ?_))))))))))
   exact p _ _ _ c k ⟨(d / 65536), (e + 16), (zU c rfl).trans (congrArg (Value.int .u64) zx), (zU c rfl).trans (congrArg (Value.int .i64) zx), (by have hz := bits_16 (n := d) zx; omega), hb, zx⟩
  refine zB (g _ _ (wp_cond_false (zA c rfl) (wp_skip (a _ _ ?_))))
  exact p _ _ _ c k ⟨d, e, (zL c rfl f).trans (congrArg (Value.int .u64) zx), (zL c rfl h).trans (congrArg (Value.int .i64) zx), zx, hb, zx⟩
 rintro p h c e ⟨m, o, d, f, k, hb, l⟩
 have := hb.size
 refine seq_join1 (N := 25) (fun az_ w' => ∃ (k l : Nat), (Sl az_ 0 (.int .u64 ((k : Nat) : Int))) ∧ (Sl az_ 2 (.int .i64 ((l : Nat) : Int))) ∧ (bitsLen n = l + bitsLen k ∧ k < 256 ∧ l ≤ 56) ∧ (Below w.heap.size w w') ∧ (h.heap.size ≤ w'.heap.size)) (fun p => ?_) ?_
 ·
  refine zF fun _ a => zF fun _ g => zH (zG (zC c rfl d) (op_geq (zA c rfl) rfl (fun h => ?_) (fun h => ?_)))
  ·
   refine zB (g _ _ (wp_cond_true (zA c rfl) (zF fun _ g => zH ?_)))
   refine zG (zC c rfl d) (op_shr (r := ((m / 256 : Nat) : Int)) (zA c rfl) rfl zz (shr_nat (j := 8) zx zz) (zD (zA c rfl) (zB (g _ _ (zH (zG (zC c rfl f) (op_add (zA c rfl) rfl (add64 zx) (zD (zA c rfl) (zB (a _ _ ?_))))))))))
   exact p _ _ _ c e ⟨(m / 256), (o + 8), (zU c rfl).trans (congrArg (Value.int .u64) zx), (zU c rfl).trans (congrArg (Value.int .i64) zx), (by have hz := bits_8 (n := m) zx; omega), hb, zx⟩
  refine zB (g _ _ (wp_cond_false (zA c rfl) (wp_skip (a _ _ ?_))))
  exact p _ _ _ c e ⟨m, o, (zL c rfl d).trans (congrArg (Value.int .u64) zx), (zL c rfl f).trans (congrArg (Value.int .i64) zx), zx, hb, zx⟩
 rintro o g c e ⟨k, l, f, d, m, hb, h⟩
 have := hb.size
 refine zF fun _ a => zH (zG (zC c rfl d) (zG (zC c rfl f) (op_conv (r := ((k : Nat) : Int)) (zA c rfl) us61 Try.underlying5 (wrap_u8 zx) ?_)))
 have d := tab8_sz
 have d := tab8_len (z := k) zx
 have d : k < tab8.length := by omega
 have f : bitsLen k ≤ 8 := (Go.Sort.bitsLen_le_iff k 8).2 zx
 refine op_index_str (b := (tab8.getD k 0)) Try.underlying9 rfl (zA c rfl) (Int.natCast_nonneg _) (el_str (i := k) rfl d) (op_conv (r := ((tab8.getD k 0).toNat : Int)) (zA c rfl) us5 Try.underlying3 (wrap_i64 (by have := ((tab8.getD k 0)).toNat_lt; omega)) (op_add (zA c rfl) (zA c rfl) (add64 zx) (zD (zA c rfl) (zB (a _ _ (wp_ret (ret1 rfl e (zA c rfl) ⟨_, rfl, ?_⟩)))))))
 exact ⟨hb, congrArg (Value.int .i64) zx⟩

theorem lenW_ret (n : Nat) (w : World) (hn : n < 18446744073709551616) : Ret Try.prog 148 #[(.int .u64 ((n : Nat) : Int))] w (fun v' w' => Below w.heap.size w w' ∧ v' = .int .i64 (bitsLen n : Int)) := by
 have hb := Below.refl w.heap.size w
 refine enter (N := 8) Try.func148 rfl rfl (by simp) fun a hN hd hA => ?_
 have b : a.tmps.getD 0 undef = (.int .u64 ((n : Nat) : Int)) := hA 0 (by simp)
 clear hA
 refine zF fun _ a => zH (zD rfl ?_)
 refine zB (a _ _ (zF fun _ a => wp_cond_false rfl (wp_skip (a _ _ (zF fun _ a => zH (zG (zC hN rfl b) (zj ok163 (len64W_ret n _ zx) ⟨(zA hN rfl), trivial⟩ ?_)))))))
 rintro _ c ⟨b, rfl⟩
 have b := zQ b
 obtain ⟨hb, _⟩ := yE hb b
 refine zD (zA hN rfl) (zB (a _ _ (wp_ret (ret1 rfl hd (zA hN rfl) ⟨_, rfl, ?_⟩))))
 exact ⟨hb, rfl⟩

theorem npW_ret (n : Nat) (w : World) (hn : 0 < n ∧ n ≤ 4000000000000000000) : Ret Try.prog 174 #[(.int .i64 ((n : Nat) : Int))] w (fun v' w' => Below w.heap.size w w' ∧ ∃ m : Nat, v' = .int .u64 (m : Int) ∧ 1 ≤ m ∧ m ≤ 2 * n) := by
 have hb := Below.refl w.heap.size w
 refine enter (N := 7) Try.func174 rfl rfl (by simp) fun a hN hd hA => ?_
 have b : a.tmps.getD 0 undef = (.int .i64 ((n : Nat) : Int)) := hA 0 (by simp)
 clear hA
 refine zF fun _ a => zH (zD rfl ?_)
 refine zB (a _ _ (zF fun _ a => zH (zG (zC hN rfl b) (op_conv (r := ((n : Nat) : Int)) (zA hN rfl) us3 Try.underlying184 (wrap_u64 zx) (zj ok148 (lenW_ret n _ zx) ⟨(zA hN rfl), trivial⟩ ?_)))))
 rintro _ c ⟨b, rfl⟩
 have b := zQ b
 obtain ⟨hb, _⟩ := yE hb b
 have hbl : bitsLen n ≤ 62 := (Go.Sort.bitsLen_le_iff n 62).2 zx
 have b := Go.Sort.two_pow_bitsLen_le (n := n) hn.1
 have b := Nat.two_pow_pos (bitsLen n)
 refine op_shl (r := ((2 ^ bitsLen n : Nat) : Int)) rfl (zA hN rfl) zx (shl_one zx) (zD (zA hN rfl) (zB (a _ _ (wp_ret (ret1 rfl hd (zA hN rfl) ⟨_, rfl, ?_⟩)))))
 exact ⟨hb, _, rfl, by omega, by omega⟩

theorem xnextW_ret (s : Nat) (m : Int) (w : World) (hs : Bx w s 244 [.int .u64 m]) : Ret Try.prog 175 #[(ptr s 0)] w (fun v' w' => w.grownBy w' (some s) ∧ ∃ r : Nat, v' = .int .u64 (r : Int) ∧ r < 18446744073709551616 ∧ Bx w' s 244 [.int .u64 (r : Int)]) := by
 have hs_lt := hs.lt
 have hb := grown_refl w (some s)
 refine enter (N := 33) Try.func175 rfl rfl (by simp) fun a hN hd hA => ?_
 have b : a.tmps.getD 0 undef = (ptr s 0) := hA 0 (by simp)
 clear hA
 refine zF fun _ a => zH (zD rfl (zB (a _ _ (zF fun _ a => reg_from mixed ?_))))
 intro d c
 have := c.size
 have hs := hs.keep0 c
 have hb := grow_step0 hb c
 refine from_still (m := 9) 9 (hd := [_, _, _, _, _, _, _, _, _]) zy rfl rfl (st_step rfl (fun _ c => zG (zC hN rfl b) c) (st_step rfl (fun _ c => op_nil (zA hN rfl) c) ?_))
 refine st_step rfl (fun _ c => zN one244 (zA hN rfl) (hs.cell rfl) c) (st_step rfl (fun _ c => zG (zC hN rfl b) c) (st_step rfl (fun _ c => op_nil (zA hN rfl) c) (st_step rfl (fun _ c => zN one244 (zA hN rfl) (hs.cell rfl) c) (st_step rfl (fun _ c => op_shl (r := (IntKind.u64.wrap (m * 2 ^ (min (13 : Int).toNat (IntKind.bits .u64))))) (zA hN rfl) rfl zz rfl c) (st_step rfl (fun _ c => op_xor (r := (bits .xor .u64 (m) ((IntKind.u64.wrap (m * 2 ^ (min (13 : Int).toNat (IntKind.bits .u64))))))) (zA hN rfl) (zA hN rfl) rfl c) (st_step rfl (fun _ c => op_nil (zA hN rfl) c) (st_nil (from_seq (tl := [_]) zz zy rfl (za (vs := [(.int .u64 (bits .xor .u64 (m) ((IntKind.u64.wrap (m * 2 ^ (min (13 : Int).toNat (IntKind.bits .u64)))))))]) (cs' := [(.int .u64 (bits .xor .u64 (m) ((IntKind.u64.wrap (m * 2 ^ (min (13 : Int).toNat (IntKind.bits .u64)))))))]) size244 (zA hN rfl) (zA hN rfl) rfl rfl rfl hs (zI rfl) rfl ?_)))))))))
 intro e hs d
 have := d.size
 have hb := grown_trans hb d
 refine zB (a _ _ (zF fun _ a => reg_from mixed ?_))
 intro e d
 have := d.size
 have hs := hs.keep0 d
 have hb := grow_step0 hb d
 refine from_still (m := 9) 9 (hd := [_, _, _, _, _, _, _, _, _]) zy rfl rfl (st_step rfl (fun _ c => zG (zC hN rfl b) c) (st_step rfl (fun _ c => op_nil (zA hN rfl) c) ?_))
 refine st_step rfl (fun _ c => zN one244 (zA hN rfl) (hs.cell rfl) c) (st_step rfl (fun _ c => zG (zC hN rfl b) c) (st_step rfl (fun _ c => op_nil (zA hN rfl) c) (st_step rfl (fun _ c => zN one244 (zA hN rfl) (hs.cell rfl) c) (st_step rfl (fun _ c => op_shr (r := (((bits .xor .u64 (m) ((IntKind.u64.wrap (m * 2 ^ (min (13 : Int).toNat (IntKind.bits .u64))))))).fdiv (2 ^ (min (7 : Int).toNat (IntKind.bits .u64))))) (zA hN rfl) rfl zz rfl c) (st_step rfl (fun _ c => op_xor (r := (bits .xor .u64 ((bits .xor .u64 (m) ((IntKind.u64.wrap (m * 2 ^ (min (13 : Int).toNat (IntKind.bits .u64))))))) ((((bits .xor .u64 (m) ((IntKind.u64.wrap (m * 2 ^ (min (13 : Int).toNat (IntKind.bits .u64))))))).fdiv (2 ^ (min (7 : Int).toNat (IntKind.bits .u64))))))) (zA hN rfl) (zA hN rfl) rfl c) (st_step rfl (fun _ c => op_nil (zA hN rfl) c) (st_nil (from_seq (tl := [_]) zz zy rfl (za (vs := [(.int .u64 (bits .xor .u64 ((bits .xor .u64 (m) ((IntKind.u64.wrap (m * 2 ^ (min (13 : Int).toNat (IntKind.bits .u64))))))) ((((bits .xor .u64 (m) ((IntKind.u64.wrap (m * 2 ^ (min (13 : Int).toNat (IntKind.bits .u64))))))).fdiv (2 ^ (min (7 : Int).toNat (IntKind.bits .u64)))))))]) (cs' := [(.int .u64 (bits .xor .u64 ((bits .xor .u64 (m) ((IntKind.u64.wrap (m * 2 ^ (min (13 : Int).toNat (IntKind.bits .u64))))))) ((((bits .xor .u64 (m) ((IntKind.u64.wrap (m * 2 ^ (min (13 : Int).toNat (IntKind.bits .u64))))))).fdiv (2 ^ (min (7 : Int).toNat (IntKind.bits .u64)))))))]) size244 (zA hN rfl) (zA hN rfl) rfl rfl rfl hs (zI rfl) rfl ?_)))))))))
 intro e hs d
 have := d.size
 have hb := grown_trans hb d
 refine zB (a _ _ (zF fun _ a => reg_from mixed ?_))
 intro e d
 have := d.size
 have hs := hs.keep0 d
 have hb := grow_step0 hb d
 refine from_still (m := 9) 9 (hd := [_, _, _, _, _, _, _, _, _]) zy rfl rfl (st_step rfl (fun _ c => zG (zC hN rfl b) c) (st_step rfl (fun _ c => op_nil (zA hN rfl) c) (st_step rfl (fun _ c => zN one244 (zA hN rfl) (hs.cell rfl) c) (st_step rfl (fun _ c => zG (zC hN rfl b) c) (st_step rfl (fun _ c => op_nil (zA hN rfl) c) (st_step rfl (fun _ c => zN one244 (zA hN rfl) (hs.cell rfl) c) (st_step rfl (fun _ c => op_shl (r := (IntKind.u64.wrap ((bits .xor .u64 ((bits .xor .u64 (m) ((IntKind.u64.wrap (m * 2 ^ (min (13 : Int).toNat (IntKind.bits .u64))))))) ((((bits .xor .u64 (m) ((IntKind.u64.wrap (m * 2 ^ (min (13 : Int).toNat (IntKind.bits .u64))))))).fdiv (2 ^ (min (7 : Int).toNat (IntKind.bits .u64)))))) * 2 ^ (min (17 : Int).toNat (IntKind.bits .u64))))) (zA hN rfl) rfl zz rfl c) ?_)))))))
 refine st_step rfl (fun _ c => op_xor (r := (bits .xor .u64 ((bits .xor .u64 ((bits .xor .u64 (m) ((IntKind.u64.wrap (m * 2 ^ (min (13 : Int).toNat (IntKind.bits .u64))))))) ((((bits .xor .u64 (m) ((IntKind.u64.wrap (m * 2 ^ (min (13 : Int).toNat (IntKind.bits .u64))))))).fdiv (2 ^ (min (7 : Int).toNat (IntKind.bits .u64))))))) ((IntKind.u64.wrap ((bits .xor .u64 ((bits .xor .u64 (m) ((IntKind.u64.wrap (m * 2 ^ (min (13 : Int).toNat (IntKind.bits .u64))))))) ((((bits .xor .u64 (m) ((IntKind.u64.wrap (m * 2 ^ (min (13 : Int).toNat (IntKind.bits .u64))))))).fdiv (2 ^ (min (7 : Int).toNat (IntKind.bits .u64)))))) * 2 ^ (min (17 : Int).toNat (IntKind.bits .u64))))))) (zA hN rfl) (zA hN rfl) rfl c) (st_step rfl (fun _ c => op_nil (zA hN rfl) c) (st_nil (from_seq (tl := [_]) zz zy rfl (za (vs := [(.int .u64 (bits .xor .u64 ((bits .xor .u64 ((bits .xor .u64 (m) ((IntKind.u64.wrap (m * 2 ^ (min (13 : Int).toNat (IntKind.bits .u64))))))) ((((bits .xor .u64 (m) ((IntKind.u64.wrap (m * 2 ^ (min (13 : Int).toNat (IntKind.bits .u64))))))).fdiv (2 ^ (min (7 : Int).toNat (IntKind.bits .u64))))))) ((IntKind.u64.wrap ((bits .xor .u64 ((bits .xor .u64 (m) ((IntKind.u64.wrap (m * 2 ^ (min (13 : Int).toNat (IntKind.bits .u64))))))) ((((bits .xor .u64 (m) ((IntKind.u64.wrap (m * 2 ^ (min (13 : Int).toNat (IntKind.bits .u64))))))).fdiv (2 ^ (min (7 : Int).toNat (IntKind.bits .u64)))))) * 2 ^ (min (17 : Int).toNat (IntKind.bits .u64)))))))]) (cs' := [(.int .u64 (bits .xor .u64 ((bits .xor .u64 ((bits .xor .u64 (m) ((IntKind.u64.wrap (m * 2 ^ (min (13 : Int).toNat (IntKind.bits .u64))))))) ((((bits .xor .u64 (m) ((IntKind.u64.wrap (m * 2 ^ (min (13 : Int).toNat (IntKind.bits .u64))))))).fdiv (2 ^ (min (7 : Int).toNat (IntKind.bits .u64))))))) ((IntKind.u64.wrap ((bits .xor .u64 ((bits .xor .u64 (m) ((IntKind.u64.wrap (m * 2 ^ (min (13 : Int).toNat (IntKind.bits .u64))))))) ((((bits .xor .u64 (m) ((IntKind.u64.wrap (m * 2 ^ (min (13 : Int).toNat (IntKind.bits .u64))))))).fdiv (2 ^ (min (7 : Int).toNat (IntKind.bits .u64)))))) * 2 ^ (min (17 : Int).toNat (IntKind.bits .u64)))))))]) size244 (zA hN rfl) (zA hN rfl) rfl rfl rfl hs (zI rfl) rfl ?_))))
 intro d hs c
 have := c.size
 have hb := grown_trans hb c
 refine zB (a _ _ (zF fun _ a => zH (zG (zC hN rfl b) (op_nil (zA hN rfl) (zN one244 (zA hN rfl) (hs.cell rfl) (zD (zA hN rfl) (zB (a _ _ (wp_ret (ret1 rfl hd (zA hN rfl) ⟨_, rfl, ?_⟩))))))))))
 have hrr := xor_rng (((bits .xor .u64 ((bits .xor .u64 (m) ((IntKind.u64.wrap (m * 2 ^ (min (13 : Int).toNat (IntKind.bits .u64))))))) ((((bits .xor .u64 (m) ((IntKind.u64.wrap (m * 2 ^ (min (13 : Int).toNat (IntKind.bits .u64))))))).fdiv (2 ^ (min (7 : Int).toNat (IntKind.bits .u64)))))))) (((IntKind.u64.wrap ((bits .xor .u64 ((bits .xor .u64 (m) ((IntKind.u64.wrap (m * 2 ^ (min (13 : Int).toNat (IntKind.bits .u64))))))) ((((bits .xor .u64 (m) ((IntKind.u64.wrap (m * 2 ^ (min (13 : Int).toNat (IntKind.bits .u64))))))).fdiv (2 ^ (min (7 : Int).toNat (IntKind.bits .u64)))))) * 2 ^ (min (17 : Int).toNat (IntKind.bits .u64))))))
 obtain ⟨rr, a⟩ : ∃ r : Nat, (bits .xor .u64 ((bits .xor .u64 ((bits .xor .u64 (m) ((IntKind.u64.wrap (m * 2 ^ (min (13 : Int).toNat (IntKind.bits .u64))))))) ((((bits .xor .u64 (m) ((IntKind.u64.wrap (m * 2 ^ (min (13 : Int).toNat (IntKind.bits .u64))))))).fdiv (2 ^ (min (7 : Int).toNat (IntKind.bits .u64))))))) ((IntKind.u64.wrap ((bits .xor .u64 ((bits .xor .u64 (m) ((IntKind.u64.wrap (m * 2 ^ (min (13 : Int).toNat (IntKind.bits .u64))))))) ((((bits .xor .u64 (m) ((IntKind.u64.wrap (m * 2 ^ (min (13 : Int).toNat (IntKind.bits .u64))))))).fdiv (2 ^ (min (7 : Int).toNat (IntKind.bits .u64)))))) * 2 ^ (min (17 : Int).toNat (IntKind.bits .u64)))))) = (r : Int) := ⟨((bits .xor .u64 ((bits .xor .u64 ((bits .xor .u64 (m) ((IntKind.u64.wrap (m * 2 ^ (min (13 : Int).toNat (IntKind.bits .u64))))))) ((((bits .xor .u64 (m) ((IntKind.u64.wrap (m * 2 ^ (min (13 : Int).toNat (IntKind.bits .u64))))))).fdiv (2 ^ (min (7 : Int).toNat (IntKind.bits .u64))))))) ((IntKind.u64.wrap ((bits .xor .u64 ((bits .xor .u64 (m) ((IntKind.u64.wrap (m * 2 ^ (min (13 : Int).toNat (IntKind.bits .u64))))))) ((((bits .xor .u64 (m) ((IntKind.u64.wrap (m * 2 ^ (min (13 : Int).toNat (IntKind.bits .u64))))))).fdiv (2 ^ (min (7 : Int).toNat (IntKind.bits .u64)))))) * 2 ^ (min (17 : Int).toNat (IntKind.bits .u64))))))).toNat, by omega⟩
 rw [a] at hrr
 exact ⟨hb, rr, congrArg (Value.int .u64) a, by omega, by have hz := hs; rw [a] at hz; exact hz⟩
open Go.Sort (insertionSort insOuter insInner swp siftDown heapSort heapBuild heapPop scanUp scanDown partition partLoop partitionEqual partEqLoop scanSorted partialIns bitsLen partialInsertionSort shiftDown shiftUp SortedIn reverseRange reverseLoop fixDown fixUp)
theorem order2W_ret (d : Ar) (v : Value) (n B s m : Nat) (a b : Nat) (w : World) (hd : d.size = n) (hn : n ≤ 4000000000000000000) (hv : RdC w 0 B 1 v n (d.toList.map u16v)) (hBs : B ≤ s) (hs : Bx w s 3 [.int .i64 (m : Int)]) (hm : m ≤ 100000) (ha : a < n) (hb2 : b < n) : Ret Try.prog 181 #[v, (.int .i64 ((a : Nat) : Int)), (.int .i64 ((b : Nat) : Int)), (ptr s 0)] w (fun v' w' => w.grownBy w' (some s) ∧ ∃ x y m' : Nat, v' = .tuple #[.int .i64 (x : Int), .int .i64 (y : Int)] ∧ ((x = a ∧ y = b) ∨ (x = b ∧ y = a)) ∧ m' ≤ m + 1 ∧ Bx w' s 3 [.int .i64 (m' : Int)]) := by
 have hs_lt := hs.lt
 have hb := grown_refl w (some s)
 refine enter (N := 28) Try.func181 rfl rfl (by simp) fun c hN hd hA => ?_
 have e : c.tmps.getD 0 undef = v := hA 0 (by simp)
 have f : c.tmps.getD 1 undef = (.int .i64 ((a : Nat) : Int)) := hA 1 (by simp)
 have g : c.tmps.getD 2 undef = (.int .i64 ((b : Nat) : Int)) := hA 2 (by simp)
 have h : c.tmps.getD 3 undef = (ptr s 0) := hA 3 (by simp)
 clear hA
 refine zF fun _ c => zH (zD rfl (zD rfl (zB (c _ _ (zF fun _ c => zF fun _ j => reg_still mixed zy ?_)))))
 intro l k
 have := k.size
 have hv := hv.keep0 k
 have hs := hs.keep0 k
 have hb := grow_step0 hb k
 refine st_step rfl (fun _ k => zG (zC hN rfl e) k) (st_step rfl (fun _ k => zG (zC hN rfl g) k) (st_index_rd slt45 (zA hN rfl) hv (zA hN rfl) zx zx ?_))
 intro t q o p l
 refine st_step rfl (fun _ k => zN (v := (Value.int .u16 (d[b]!.toNat : Int))) one46 (zA hN rfl) (by have := l 0 (.int .u16 (d[b]!.toNat : Int)) zz (el_arr (i := b) zx (by first | omega | (simp only [Array.size_setIfInBounds, swp_sz, siftDown_size]; omega))); simpa using this) k) (st_step rfl (fun _ k => zG (zC hN rfl e) k) (st_step rfl (fun _ k => zG (zC hN rfl f) k) (st_index_rd slt45 (zA hN rfl) hv (zA hN rfl) zx zx ?_)))
 intro p q o l e
 refine st_step rfl (fun _ k => zN (v := (Value.int .u16 (d[a]!.toNat : Int))) one46 (zA hN rfl) (by have := e 0 (.int .u16 (d[a]!.toNat : Int)) zz (el_arr (i := a) zx (by first | omega | (simp only [Array.size_setIfInBounds, swp_sz, siftDown_size]; omega))); simpa using this) k) (st_fn (vs := [(.int .u16 (d[b]!.toNat : Int)), (.int .u16 (d[a]!.toNat : Int))]) ok159 (⟨(zA hN rfl), ⟨(zA hN rfl), trivial⟩⟩) (Less16_ret d[b]! d[a]! _) (st_nil (j _ _ (wp_cond_split (zA hN rfl) (fun l => ?_) (fun l => ?_)))))
 ·
  refine zF fun _ j => zH (zG (zC hN rfl h) (op_nil (zA hN rfl) (zN one3 (zA hN rfl) (hs.cell rfl) (op_add (r := ((m + 1 : Nat) : Int)) (zA hN rfl) rfl (by rw [IntKind.wrap_i64]; omega) (op_nil (zA hN rfl) (za (vs := [(.int .i64 ((m + 1 : Nat) : Int))]) (cs' := [(.int .i64 ((m + 1 : Nat) : Int))]) size3 (zA hN rfl) (zA hN rfl) rfl rfl rfl hs (zI rfl) rfl ?_))))))
  intro h hs e
  have := e.size
  have hb := grown_trans hb e
  refine zB (j _ _ (zF fun _ j => zH (zG (zC hN rfl g) (zG (zC hN rfl f) (zD (zA hN rfl) (zD (zA hN rfl) (zB (j _ _ (wp_ret (zO ( (ret2 rfl hd (zA hN rfl) (zA hN rfl) ⟨_, rfl, ?_⟩))))))))))))
  exact ⟨hb, _, _, _, rfl, .inr ⟨rfl, rfl⟩, by omega, hs⟩
 refine wp_skip (c _ _ (zF fun _ c => zH (zG (zC hN rfl f) (zG (zC hN rfl g) (zD (zA hN rfl) (zD (zA hN rfl) (zB (c _ _ (wp_ret (ret2 rfl hd (zA hN rfl) (zA hN rfl) ⟨_, rfl, ?_⟩))))))))))
 exact ⟨hb, _, _, _, rfl, .inl ⟨rfl, rfl⟩, by omega, hs⟩

theorem medianW_ret (d : Ar) (v : Value) (n B s m : Nat) (a b c : Nat) (w : World) (hd : d.size = n) (hn : n ≤ 4000000000000000000) (hv : RdC w 0 B 1 v n (d.toList.map u16v)) (hBs : B ≤ s) (hs : Bx w s 3 [.int .i64 (m : Int)]) (hm : m ≤ 90000) (ha : a < n) (hb2 : b < n) (hc2 : c < n) : Ret Try.prog 177 #[v, (.int .i64 ((a : Nat) : Int)), (.int .i64 ((b : Nat) : Int)), (.int .i64 ((c : Nat) : Int)), (ptr s 0)] w (fun v' w' => w.grownBy w' (some s) ∧ ∃ x m' : Nat, v' = .int .i64 (x : Int) ∧ (x = a ∨ x = b ∨ x = c) ∧ m' ≤ m + 3 ∧ Bx w' s 3 [.int .i64 (m' : Int)]) := by
 have hs_lt := hs.lt
 have hb := grown_refl w (some s)
 refine enter (N := 36) Try.func177 rfl rfl (by simp) fun e hN hd hA => ?_
 have f : e.tmps.getD 0 undef = v := hA 0 (by simp)
 have g : e.tmps.getD 1 undef = (.int .i64 ((a : Nat) : Int)) := hA 1 (by simp)
 have h : e.tmps.getD 2 undef = (.int .i64 ((b : Nat) : Int)) := hA 2 (by simp)
 have j : e.tmps.getD 3 undef = (.int .i64 ((c : Nat) : Int)) := hA 3 (by simp)
 have k : e.tmps.getD 4 undef = (ptr s 0) := hA 4 (by simp)
 clear hA
 refine zF fun _ e => zH (zD rfl (zB (e _ _ (zF fun _ e => ?_))))
 refine zH (zG (zC hN rfl f) (zG (zC hN rfl g) (zG (zC hN rfl h) (zG (zC hN rfl k) (zj ok181 (order2W_ret d v _ B s m a b _ (by first | assumption | (simp only [Array.size_setIfInBounds, swp_sz, siftDown_size]; assumption)) zx hv zx hs zx zx zx) ⟨(zA hN rfl), ⟨(zA hN rfl), ⟨(zA hN rfl), ⟨(zA hN rfl), trivial⟩⟩⟩⟩ ?_)))))
 rintro _ t ⟨g, h, p, l, rfl, q, u, o⟩
 have := g.size
 have hv := hv.keep g sR
 have hb := grown_trans hb g
 refine zG (zA hN rfl) (zW (zA hN rfl) rfl (zW (zA hN rfl) rfl (zD (zA hN rfl) (zD (zA hN rfl) (zB (e _ _ (zF fun _ e => ?_)))))))
 refine zH (zG (zC hN rfl f) (zG (zA hN rfl) (zG (zC hN rfl j) (zG (zC hN rfl k) (zj ok181 (order2W_ret d v _ B s l p c _ (by first | assumption | (simp only [Array.size_setIfInBounds, swp_sz, siftDown_size]; assumption)) zx hv zx o zx zx zx) ⟨(zA hN rfl), ⟨(zA hN rfl), ⟨(zA hN rfl), ⟨(zA hN rfl), trivial⟩⟩⟩⟩ ?_)))))
 rintro _ p ⟨g, l, t, j, rfl, u, q, o⟩
 have := g.size
 have hv := hv.keep g sR
 have hb := grown_trans hb g
 refine zG (zA hN rfl) (zW (zA hN rfl) rfl (zW (zA hN rfl) rfl (zD (zA hN rfl) (zD (zA hN rfl) (zB (e _ _ (zF fun _ e => ?_)))))))
 refine zH (zG (zC hN rfl f) (zG (zA hN rfl) (zG (zA hN rfl) (zG (zC hN rfl k) (zj ok181 (order2W_ret d v _ B s j h l _ (by first | assumption | (simp only [Array.size_setIfInBounds, swp_sz, siftDown_size]; assumption)) zx hv zx o zx zx zx) ⟨(zA hN rfl), ⟨(zA hN rfl), ⟨(zA hN rfl), ⟨(zA hN rfl), trivial⟩⟩⟩⟩ ?_)))))
 rintro _ p ⟨f, l, j, o, rfl, h, k, g⟩
 have := f.size
 have hb := grown_trans hb f
 refine zG (zA hN rfl) (zW (zA hN rfl) rfl (zW (zA hN rfl) rfl ?_))
 refine zD (zA hN rfl) (zD (zA hN rfl) (zB (e _ _ (zF fun _ e => zH (zG (zA hN rfl) (zD (zA hN rfl) (zB (e _ _ (wp_ret (ret1 rfl hd (zA hN rfl) ⟨_, rfl, ?_⟩))))))))))
 exact ⟨hb, _, _, rfl, by omega, by omega, g⟩

theorem medAdjW_ret (d : Ar) (v : Value) (n B s m : Nat) (a : Nat) (w : World) (hd : d.size = n) (hn : n ≤ 4000000000000000000) (hv : RdC w 0 B 1 v n (d.toList.map u16v)) (hBs : B ≤ s) (hs : Bx w s 3 [.int .i64 (m : Int)]) (hm : m ≤ 80000) (h1 : 1 ≤ a) (ha : a + 1 < n) : Ret Try.prog 176 #[v, (.int .i64 ((a : Nat) : Int)), (ptr s 0)] w (fun v' w' => w.grownBy w' (some s) ∧ ∃ x m' : Nat, v' = .int .i64 (x : Int) ∧ (x = a - 1 ∨ x = a ∨ x = a + 1) ∧ m' ≤ m + 3 ∧ Bx w' s 3 [.int .i64 (m' : Int)]) := by
 have hs_lt := hs.lt
 have hb := grown_refl w (some s)
 refine enter (N := 15) Try.func176 rfl rfl (by simp) fun b hN hd hA => ?_
 have c : b.tmps.getD 0 undef = v := hA 0 (by simp)
 have e : b.tmps.getD 1 undef = (.int .i64 ((a : Nat) : Int)) := hA 1 (by simp)
 have f : b.tmps.getD 2 undef = (ptr s 0) := hA 2 (by simp)
 clear hA
 refine zF fun _ b => zH (zD rfl (zB (b _ _ (zF fun _ b => zH (zG (zC hN rfl c) (zG (zC hN rfl e) ?_))))))
 refine op_sub (r := ((a - 1 : Nat) : Int)) (zA hN rfl) rfl (by rw [IntKind.wrap_i64]; omega) (zG (zC hN rfl e) (zG (zC hN rfl e) (op_add (zA hN rfl) rfl (add64 zx) (zG (zC hN rfl f) (zj ok177 (medianW_ret d v _ B s m (a - 1) a (a + 1) _ (by first | assumption | (simp only [Array.size_setIfInBounds, swp_sz, siftDown_size]; assumption)) zx hv zx hs zx zx zx zx) ⟨(zA hN rfl), ⟨(zA hN rfl), ⟨(zA hN rfl), ⟨(zA hN rfl), ⟨(zA hN rfl), trivial⟩⟩⟩⟩⟩ ?_)))))
 rintro _ f ⟨c, h, g, rfl, k, j, e⟩
 have := c.size
 have hb := grown_trans hb c
 refine zD (zA hN rfl) (zB (b _ _ (wp_ret (ret1 rfl hd (zA hN rfl) ⟨_, rfl, ?_⟩))))
 exact ⟨hb, _, _, rfl, by omega, by omega, e⟩

set_option maxHeartbeats 2000000 in
theorem choosePW_ret (d : Ar) (v : Value) (n a b : Nat) (w : World) (hd : d.size = n) (hn : n ≤ 4000000000000000000) (hv : RdC w 0 w.heap.size 1 v n (d.toList.map u16v)) (hab : a < b) (hbn : b ≤ n) : Ret Try.prog 156 #[v, (.int .i64 ((a : Nat) : Int)), (.int .i64 ((b : Nat) : Int))] w (fun v' w' => Below w.heap.size w w' ∧ ∃ (x : Nat) (h : Int), v' = .tuple #[.int .i64 (x : Int), .int .i64 h] ∧ a ≤ x ∧ x < b) := by
 have hb := Below.refl w.heap.size w
 refine enter (N := 57) Try.func156 rfl rfl (by simp) fun c hN hd hA => ?_
 have e : c.tmps.getD 0 undef = v := hA 0 (by simp)
 have f : c.tmps.getD 1 undef = (.int .i64 ((a : Nat) : Int)) := hA 1 (by simp)
 have g : c.tmps.getD 2 undef = (.int .i64 ((b : Nat) : Int)) := hA 2 (by simp)
 clear hA
 refine zF fun _ c => zH (zD rfl (zD rfl (zB ?_)))
 refine c _ _ (zF fun _ c => zH (zG (zC hN rfl g) (zG (zC hN rfl f) (op_sub (r := ((b - a : Nat) : Int)) (zA hN rfl) (zA hN rfl) (by rw [IntKind.wrap_i64]; omega) (zD (zA hN rfl) (zB (c _ _ (zF fun _ c => zH (op_alloc (cs := [(.int .i64 0)]) zero3 rfl ?_)))))))))
 intro m g l o j k
 obtain ⟨hb, _⟩ := yE hb k
 have hv := hv.keep0 k
 refine zB (c _ _ (zF fun _ c => zH ?_))
 refine zG (zC hN rfl f) (zG (zA hN rfl) (op_quo (r := ((((b - a) / 4) : Nat) : Int)) (zA hN rfl) rfl zz (by rw [IntKind.wrap_i64, Int.tdiv_eq_ediv_of_nonneg zx]; omega) (op_mul (zA hN rfl) rfl (mul64 zx) (op_add (zA hN rfl) (zA hN rfl) (add64 zx) (zD (zA hN rfl) (zB (c _ _ (zF fun _ c => zH (zG (zC hN rfl f) ?_)))))))))
 refine zG (zA hN rfl) (op_quo (r := ((((b - a) / 4) : Nat) : Int)) (zA hN rfl) rfl zz (by rw [IntKind.wrap_i64, Int.tdiv_eq_ediv_of_nonneg zx]; omega) (op_mul (zA hN rfl) rfl (mul64 zx) (op_add (zA hN rfl) (zA hN rfl) (add64 zx) (zD (zA hN rfl) (zB (c _ _ (zF fun _ c => zH (zG (zC hN rfl f) (zG (zA hN rfl) ?_)))))))))
 refine op_quo (r := ((((b - a) / 4) : Nat) : Int)) (zA hN rfl) rfl zz (by rw [IntKind.wrap_i64, Int.tdiv_eq_ediv_of_nonneg zx]; omega) (op_mul (zA hN rfl) rfl (mul64 zx) (op_add (zA hN rfl) (zA hN rfl) (add64 zx) (zD (zA hN rfl) (zB (c _ _ (zF fun _ c => zF fun _ f => zH (zG (zA hN rfl) (op_geq (zA hN rfl) rfl (fun k => ?_) (fun k => ?_)))))))))
 ·
  refine zB (f _ _ (wp_cond_true (zA hN rfl) (zF fun _ f => zF fun _ k => zH (zG (zA hN rfl) (op_geq (zA hN rfl) rfl (fun l => ?_) (fun l => ?_))))))
  ·
   refine zB (k _ _ (wp_cond_true (zA hN rfl) (zF fun _ k => zH (zG (zC hN rfl e) (zG (zA hN rfl) (zj ok176 (medAdjW_ret d v _ w.heap.size g 0 (a + (((b - a) / 4) * 1)) _ (by first | assumption | (simp only [Array.size_setIfInBounds, swp_sz, siftDown_size]; assumption)) zx hv zx j zx zx zx) ⟨(zA hN rfl), ⟨(zA hN rfl), ⟨(zA hN rfl), trivial⟩⟩⟩ ?_))))))
   rintro _ u ⟨l, m, o, rfl, s, t, p⟩
   have := l.size
   have hv := hv.keep l sR
   have hb := below_step1 hb l hb.size zx
   refine zD (zA hN rfl) ?_
   refine zB (k _ _ (zF fun _ k => zH (zG (zC hN rfl e) (zG (zA hN rfl) (zj ok176 (medAdjW_ret d v _ w.heap.size g o (a + (((b - a) / 4) * 2)) _ (by first | assumption | (simp only [Array.size_setIfInBounds, swp_sz, siftDown_size]; assumption)) zx hv zx p zx zx zx) ⟨(zA hN rfl), ⟨(zA hN rfl), ⟨(zA hN rfl), trivial⟩⟩⟩ ?_)))))
   rintro _ u ⟨l, p, o, rfl, y, t, s⟩
   have := l.size
   have hv := hv.keep l sR
   have hb := below_step1 hb l hb.size zx
   refine zD (zA hN rfl) (zB (k _ _ (zH (zG (zC hN rfl e) (zG (zA hN rfl) (zj ok176 (medAdjW_ret d v _ w.heap.size g o (a + (((b - a) / 4) * 3)) _ (by first | assumption | (simp only [Array.size_setIfInBounds, swp_sz, siftDown_size]; assumption)) zx hv zx s zx zx zx) ⟨(zA hN rfl), ⟨(zA hN rfl), ⟨(zA hN rfl), trivial⟩⟩⟩ ?_))))))
   rintro _ z ⟨l, s, o, rfl, y, u, t⟩
   have := l.size
   have hv := hv.keep l sR
   have hb := below_step1 hb l hb.size zx
   refine zD (zA hN rfl) (zB ?_)
   refine f _ _ (zH (zG (zC hN rfl e) (zG (zA hN rfl) (zG (zA hN rfl) (zG (zA hN rfl) (zj ok177 (medianW_ret d v _ w.heap.size g o m p s _ (by first | assumption | (simp only [Array.size_setIfInBounds, swp_sz, siftDown_size]; assumption)) zx hv zx t zx zx zx zx) ⟨(zA hN rfl), ⟨(zA hN rfl), ⟨(zA hN rfl), ⟨(zA hN rfl), ⟨(zA hN rfl), trivial⟩⟩⟩⟩⟩ ?_))))))
   rintro _ p ⟨m, l, u, rfl, s, t, o⟩
   have := m.size
   have hb := below_step1 hb m hb.size zx
   refine zD (zA hN rfl) (zB (c _ _ (zF fun _ c => zH (zN one3 (zA hN rfl) (o.cell rfl) (zB (c _ _ (wp_block (zF fun _ c => zH (op_eql (zA hN rfl) rfl (fun m => ?_) (fun m => ?_))))))))))
   ·
    refine zD (zA hN rfl) (zB (c _ _ (wp_cond_true (zA hN rfl) (zF fun _ c => zH (zG (zA hN rfl) (zD (zA hN rfl) (zD rfl (zB (c _ _ (wp_ret (zb ( (ret2 rfl hd (zA hN rfl) (zA hN rfl) ⟨_, rfl, ?_⟩)))))))))))))
    exact ⟨hb, l, _, congrArg (fun q : Int => Value.tuple #[.int .i64 q, _]) zx, by omega, by omega⟩
   refine zD (zA hN rfl) (zB (c _ _ (wp_cond_false (zA hN rfl) (zF fun _ c => zH (op_eql (zA hN rfl) rfl (fun o => ?_) (fun o => ?_))))))
   ·
    refine zD (zA hN rfl) (zB (c _ _ (wp_cond_true (zA hN rfl) (zF fun _ c => zH (zG (zA hN rfl) (zD (zA hN rfl) (zD rfl (zB (c _ _ (wp_ret (zb ( (ret2 rfl hd (zA hN rfl) (zA hN rfl) ⟨_, rfl, ?_⟩)))))))))))))
    exact ⟨hb, l, _, congrArg (fun q : Int => Value.tuple #[.int .i64 q, _]) zx, by omega, by omega⟩
   refine zD (zA hN rfl) (zB (c _ _ (wp_cond_false (zA hN rfl) (zF fun _ c => zH (zG (zA hN rfl) (zD (zA hN rfl) (zD rfl (zB (c _ _ (wp_ret (zb ( (ret2 rfl hd (zA hN rfl) (zA hN rfl) ⟨_, rfl, ?_⟩)))))))))))))
   exact ⟨hb, l, _, congrArg (fun q : Int => Value.tuple #[.int .i64 q, _]) zx, by omega, by omega⟩
  refine zB ?_
  refine k _ _ (wp_cond_false (zA hN rfl) (wp_skip (f _ _ (zH (zG (zC hN rfl e) (zG (zA hN rfl) (zG (zA hN rfl) (zG (zA hN rfl) (zj ok177 (medianW_ret d v _ w.heap.size g 0 (a + (((b - a) / 4) * 1)) (a + (((b - a) / 4) * 2)) (a + (((b - a) / 4) * 3)) _ (by first | assumption | (simp only [Array.size_setIfInBounds, swp_sz, siftDown_size]; assumption)) zx hv zx j zx zx zx zx) ⟨(zA hN rfl), ⟨(zA hN rfl), ⟨(zA hN rfl), ⟨(zA hN rfl), ⟨(zA hN rfl), trivial⟩⟩⟩⟩⟩ ?_)))))))))
  rintro _ s ⟨g, e, l, rfl, t, p, k⟩
  have := g.size
  have hb := below_step1 hb g hb.size zx
  refine zD (zA hN rfl) (zB (c _ _ (zF fun _ c => zH (zN one3 (zA hN rfl) (k.cell rfl) (zB (c _ _ (wp_block (zF fun _ c => zH (op_eql (zA hN rfl) rfl (fun m => ?_) (fun m => ?_))))))))))
  ·
   refine zD (zA hN rfl) (zB (c _ _ (wp_cond_true (zA hN rfl) (zF fun _ c => zH (zG (zA hN rfl) (zD (zA hN rfl) (zD rfl (zB (c _ _ (wp_ret (zb ( (ret2 rfl hd (zA hN rfl) (zA hN rfl) ⟨_, rfl, ?_⟩)))))))))))))
   exact ⟨hb, e, _, congrArg (fun q : Int => Value.tuple #[.int .i64 q, _]) zx, by omega, by omega⟩
  refine zD (zA hN rfl) (zB (c _ _ (wp_cond_false (zA hN rfl) (zF fun _ c => zH (op_eql (zA hN rfl) rfl (fun o => ?_) (fun o => ?_))))))
  ·
   refine zD (zA hN rfl) (zB (c _ _ (wp_cond_true (zA hN rfl) (zF fun _ c => zH (zG (zA hN rfl) (zD (zA hN rfl) (zD rfl (zB (c _ _ (wp_ret (zb ( (ret2 rfl hd (zA hN rfl) (zA hN rfl) ⟨_, rfl, ?_⟩)))))))))))))
   exact ⟨hb, e, _, congrArg (fun q : Int => Value.tuple #[.int .i64 q, _]) zx, by omega, by omega⟩
  refine zD (zA hN rfl) (zB (c _ _ (wp_cond_false (zA hN rfl) (zF fun _ c => zH (zG (zA hN rfl) (zD (zA hN rfl) (zD rfl (zB (c _ _ (wp_ret (zb ( (ret2 rfl hd (zA hN rfl) (zA hN rfl) ⟨_, rfl, ?_⟩)))))))))))))
  exact ⟨hb, e, _, congrArg (fun q : Int => Value.tuple #[.int .i64 q, _]) zx, by omega, by omega⟩
 refine zB (f _ _ (wp_cond_false (zA hN rfl) (wp_skip (c _ _ (zF fun _ c => zH (zN one3 (zA hN rfl) (j.cell rfl) (zB (c _ _ (wp_block (zF fun _ c => zH ?_))))))))))
 refine op_bin (v := .bool true) (zA hN rfl) rfl (by rw [binOp_eql]; rfl) (zD (zA hN rfl) (zB (c _ _ (wp_cond_true (zA hN rfl) (zF fun _ c => zH (zG (zA hN rfl) (zD (zA hN rfl) (zD rfl (zB (c _ _ (wp_ret (zb ( (ret2 rfl hd (zA hN rfl) (zA hN rfl) ⟨_, rfl, ?_⟩))))))))))))))
 exact ⟨hb, (a + (((b - a) / 4) * 2)), _, congrArg (fun q : Int => Value.tuple #[.int .i64 q, _]) zx, by omega, by omega⟩
open Go.Sort (insertionSort insOuter insInner swp siftDown heapSort heapBuild heapPop scanUp scanDown partition partLoop partitionEqual partEqLoop scanSorted partialIns bitsLen partialInsertionSort shiftDown shiftUp SortedIn reverseRange reverseLoop fixDown fixUp)
set_option maxHeartbeats 2000000 in
theorem partEqW_ret (d : Ar) (v : Value) (n base : Nat) (a b pv : Nat) (w : World) (hd : d.size = n) (hn : n ≤ 4000000000000000000) (O : Own w base 46 1 v n (d.toList.map u16v)) (hap : a ≤ pv) (hpb : pv < b) (hbn : b ≤ n) : Ret Try.prog 160 #[v, (.int .i64 ((a : Nat) : Int)), (.int .i64 ((b : Nat) : Int)), (.int .i64 ((pv : Nat) : Int))] w (fun v' w' => w.grownBy w' v.ownBlock ∧ v' = .int .i64 ((partitionEqual ltT d a b pv).1 : Int) ∧ Own w' base 46 1 v n ((partitionEqual ltT d a b pv).2.toList.map u16v)) := by
 have hb := grown_refl w v.ownBlock
 refine enter (N := 84) Try.func160 rfl rfl (by simp) fun c hN hd hA => ?_
 have f : c.tmps.getD 0 undef = v := hA 0 (by simp)
 have g : c.tmps.getD 1 undef = (.int .i64 ((a : Nat) : Int)) := hA 1 (by simp)
 have k : c.tmps.getD 2 undef = (.int .i64 ((b : Nat) : Int)) := hA 2 (by simp)
 have l : c.tmps.getD 3 undef = (.int .i64 ((pv : Nat) : Int)) := hA 3 (by simp)
 clear hA
 refine zF fun _ m => zH (zD rfl (zB (m _ _ (zF fun _ m => reg_mid (e := 46) (sz := 1) (base := base) (n := n) (v := v) (Φ := phiL [(fun uz _ => uz = v), (fun uz _ => uz = (.int .i64 ((a : Nat) : Int))), (fun uz _ => uz = v), (fun uz _ => uz = (.int .i64 ((pv : Nat) : Int))), (fun uz _ => uz = v), (fun uz _ => uz = (.int .i64 ((pv : Nat) : Int))), (fun uz _ => ∃ bz oz, uz = ptr bz oz ∧ AtV v pv bz oz), (fun uz _ => uz = (.int .u16 (d[pv]!.toNat : Int))), (fun uz _ => uz = v), (fun uz _ => uz = (.int .i64 ((a : Nat) : Int))), (fun uz _ => ∃ bz oz, uz = ptr bz oz ∧ AtV v a bz oz), (fun uz _ => uz = (.int .u16 (d[a]!.toNat : Int))), (fun uz _ => ∃ bz oz, uz = ptr bz oz ∧ AtV v a bz oz), (fun _ _ => True), (fun uz _ => ∃ bz oz, uz = ptr bz oz ∧ AtV v pv bz oz), (fun _ _ => True)]) [13, 15] [(d.toList.map u16v), ((d.setIfInBounds a d[pv]!).toList.map u16v), (((d.setIfInBounds a d[pv]!).setIfInBounds pv d[a]!).toList.map u16v)] mixed zy zy zy zy hN O (StL.get (StL.eq (StL.eq (StL.eq (StL.eq (StL.eq (StL.eq (StL.at (StL.eq (StL.eq (StL.eq (StL.at (StL.eq (StL.at (StL.cons (fun _ _ _ _ h => h) (StL.at (StL.cons (fun _ _ _ _ h => h) (StL.nil _)))))))))))))))))) (ObRs.get (ObRs.cons ?_ (ObRs.cons ?_ (ObRs.cons ?_ (ObRs.cons ?_ (ObRs.cons ?_ (ObRs.cons ?_ (ObRs.cons ?_ (ObRs.cons ?_ (ObRs.cons ?_ (ObRs.cons ?_ (ObRs.cons ?_ (ObRs.cons ?_ (ObRs.cons ?_ (ObRs.pass rfl (ObRs.cons ?_ (ObRs.pass rfl (ObRs.nil)))))))))))))))))) (ObWs.get (ObWs.cons ?_ (ObWs.cons ?_ (ObWs.nil)))) ?_))))
 ·
  intro aA wA cA hNA hRA hckA hOA hbsA hdpA
  have o := (hbsA 0 rfl).trans (zL hN rfl f)
  clear hbsA hdpA
  refine zG (zC hNA rfl o) ?_
  exact obR_end rfl rfl (grown_refl _ _)
 ·
  intro aA wA cA hNA hRA hckA hOA hbsA hdpA
  have p := (hbsA 1 rfl).trans (zL hN rfl g)
  clear hbsA hdpA
  refine zG (zC hNA rfl p) ?_
  exact obR_end rfl rfl (grown_refl _ _)
 ·
  intro aA wA cA hNA hRA hckA hOA hbsA hdpA
  have o := (hbsA 0 rfl).trans (zL hN rfl f)
  clear hbsA hdpA
  refine zG (zC hNA rfl o) ?_
  exact obR_end rfl rfl (grown_refl _ _)
 ·
  intro aA wA cA hNA hRA hckA hOA hbsA hdpA
  have q := (hbsA 3 rfl).trans (zL hN rfl l)
  clear hbsA hdpA
  refine zG (zC hNA rfl q) ?_
  exact obR_end rfl rfl (grown_refl _ _)
 ·
  intro aA wA cA hNA hRA hckA hOA hbsA hdpA
  have o := (hbsA 0 rfl).trans (zL hN rfl f)
  clear hbsA hdpA
  refine zG (zC hNA rfl o) ?_
  exact obR_end rfl rfl (grown_refl _ _)
 ·
  intro aA wA cA hNA hRA hckA hOA hbsA hdpA
  have q := (hbsA 3 rfl).trans (zL hN rfl l)
  clear hbsA hdpA
  refine zG (zC hNA rfl q) ?_
  exact obR_end rfl rfl (grown_refl _ _)
 ·
  intro aA wA cA hNA hRA hckA hOA hbsA hdpA
  have q : Sl aA 15 v := hdpA 4 _ 15 zy rfl rfl
  have s : Sl aA 16 (.int .i64 ((pv : Nat) : Int)) := hdpA 5 _ 16 zy rfl rfl
  clear hbsA hdpA
  refine op_index_own (i := pv) slt45 (zC hNA rfl q) hOA (zC hNA rfl s) zx zx ?_
  intro b_ o_ _ hA_
  exact obR_end rfl ⟨b_, o_, rfl, by simpa using hA_⟩ (grown_refl _ _)
 ·
  intro aA wA cA hNA hRA hckA hOA hbsA hdpA
  obtain ⟨u, t, q, s⟩ := hdpA 6 _ 17 zy rfl rfl
  clear hbsA hdpA
  obtain rfl : cA = 0 := Nat.le_zero.1 (hckA 0 13 rfl zy)
  have hOA : Own wA base 46 1 v n (d.toList.map u16v) := hOA
  refine zN (v := (Value.int .u16 (d[pv]!.toNat : Int))) one46 (zC hNA rfl q) (by have := hOA.cellAt s 0 _ (el_at (i := pv) (by first | omega | (simp only [Array.size_setIfInBounds, swp_sz, siftDown_size]; omega))); simpa using this) ?_
  exact obR_end rfl rfl (grown_refl _ _)
 ·
  intro aA wA cA hNA hRA hckA hOA hbsA hdpA
  have o := (hbsA 0 rfl).trans (zL hN rfl f)
  clear hbsA hdpA
  refine zG (zC hNA rfl o) ?_
  exact obR_end rfl rfl (grown_refl _ _)
 ·
  intro aA wA cA hNA hRA hckA hOA hbsA hdpA
  have p := (hbsA 1 rfl).trans (zL hN rfl g)
  clear hbsA hdpA
  refine zG (zC hNA rfl p) ?_
  exact obR_end rfl rfl (grown_refl _ _)
 ·
  intro aA wA cA hNA hRA hckA hOA hbsA hdpA
  have p : Sl aA 19 v := hdpA 8 _ 19 zy rfl rfl
  have q : Sl aA 20 (.int .i64 ((a : Nat) : Int)) := hdpA 9 _ 20 zy rfl rfl
  clear hbsA hdpA
  refine op_index_own (i := a) slt45 (zC hNA rfl p) hOA (zC hNA rfl q) zx zx ?_
  intro b_ o_ _ hA_
  exact obR_end rfl ⟨b_, o_, rfl, by simpa using hA_⟩ (grown_refl _ _)
 ·
  intro aA wA cA hNA hRA hckA hOA hbsA hdpA
  obtain ⟨s, t, q, p⟩ := hdpA 10 _ 21 zy rfl rfl
  clear hbsA hdpA
  obtain rfl : cA = 0 := Nat.le_zero.1 (hckA 0 13 rfl zy)
  have hOA : Own wA base 46 1 v n (d.toList.map u16v) := hOA
  refine zN (v := (Value.int .u16 (d[a]!.toNat : Int))) one46 (zC hNA rfl q) (by have := hOA.cellAt p 0 _ (el_at (i := a) (by first | omega | (simp only [Array.size_setIfInBounds, swp_sz, siftDown_size]; omega))); simpa using this) ?_
  exact obR_end rfl rfl (grown_refl _ _)
 ·
  intro aA wA cA hNA hRA hckA hOA hbsA hdpA
  have p : Sl aA 11 v := hdpA 0 _ 11 zy rfl rfl
  have q : Sl aA 12 (.int .i64 ((a : Nat) : Int)) := hdpA 1 _ 12 zy rfl rfl
  clear hbsA hdpA
  refine op_index_own (i := a) slt45 (zC hNA rfl p) hOA (zC hNA rfl q) zx zx ?_
  intro b_ o_ _ hA_
  exact obR_end rfl ⟨b_, o_, rfl, by simpa using hA_⟩ (grown_refl _ _)
 ·
  intro aA wA cA hNA hRA hckA hOA hbsA hdpA
  have p : Sl aA 13 v := hdpA 2 _ 13 zy rfl rfl
  have q : Sl aA 14 (.int .i64 ((pv : Nat) : Int)) := hdpA 3 _ 14 zy rfl rfl
  clear hbsA hdpA
  refine op_index_own (i := pv) slt45 (zC hNA rfl p) hOA (zC hNA rfl q) zx zx ?_
  intro b_ o_ _ hA_
  exact obR_end rfl ⟨b_, o_, rfl, by simpa using hA_⟩ (grown_refl _ _)
 ·
  intro o_ ho_; obtain rfl := zE ho_; intro aA wA hNA hRA hbsA hdpA hOA
  obtain ⟨s, t, q, p⟩ := hdpA 12 _ 23 zy rfl rfl
  have s : Sl aA 18 (.int .u16 (d[pv]!.toNat : Int)) := hdpA 7 _ 18 zy rfl rfl
  clear hbsA hdpA
  have hOA : Own wA base 46 1 v n (d.toList.map u16v) := hOA
  refine op_store_own (vs := [(.int .u16 (d[pv]!.toNat : Int))]) size46 (zC hNA rfl q) (zC hNA rfl s) rfl rfl rfl hOA p (by have := hOA.1; simp at this ⊢; omega) ?_
  intro w_ hO_ E_
  exact obW_end rfl (hO_.cast rfl (set_arr (by first | omega | (simp only [Array.size_setIfInBounds, swp_sz, siftDown_size]; omega)))) E_
 ·
  intro o_ ho_; obtain rfl := zE ho_; intro aA wA hNA hRA hbsA hdpA hOA
  obtain ⟨t, s, q, p⟩ := hdpA 14 _ 24 zy rfl rfl
  have s : Sl aA 22 (.int .u16 (d[a]!.toNat : Int)) := hdpA 11 _ 22 zy rfl rfl
  clear hbsA hdpA
  have hOA : Own wA base 46 1 v n ((d.setIfInBounds a d[pv]!).toList.map u16v) := hOA
  refine op_store_own (vs := [(.int .u16 (d[a]!.toNat : Int))]) size46 (zC hNA rfl q) (zC hNA rfl s) rfl rfl rfl hOA p (by have := hOA.1; simp at this ⊢; omega) ?_
  intro w_ hO_ E_
  exact obW_end rfl (hO_.cast rfl (set_arr (by first | omega | (simp only [Array.size_setIfInBounds, swp_sz, siftDown_size]; omega)))) E_
 intro A y p t q z s u
 have t := t.trans hd
 have B := (q 0 rfl).trans (zL hN rfl f)
 have C := (q 1 rfl).trans (zL hN rfl g)
 have D := (q 2 rfl).trans (zL hN rfl k)
 have E := (q 8 rfl).trans (zU hN rfl)
 clear q z
 have s : Own y base 46 1 v n (((d.setIfInBounds a d[pv]!).setIfInBounds pv d[a]!).toList.map u16v) := s
 have := u.size
 have hb := grow_stepX hb u rfl
 refine m _ _ (zF fun _ m => zH ?_)
 refine zG (zC p rfl C) (op_add (zA p rfl) rfl (add64 zx) (zG (zC p rfl D) (op_sub (r := ((b - 1 : Nat) : Int)) (zA p rfl) rfl (by rw [IntKind.wrap_i64]; omega) (zD (zA p rfl) (zD (zA p rfl) (zB (m _ _ (zF fun _ m => wp_block (loop_m (fun mz_ az_ w' => ∃ (ii jj : Nat) (dk : Ar), mz_ = (jj + 2 - ii) ∧ (Sl az_ 0 v) ∧ (Sl az_ 1 (.int .i64 ((a : Nat) : Int))) ∧ (Sl az_ 8 (.int .i64 0)) ∧ (Sl az_ 9 (.int .i64 ((ii : Nat) : Int))) ∧ (Sl az_ 10 (.int .i64 ((jj : Nat) : Int))) ∧ (dk.size = n) ∧ (a < ii ∧ ii ≤ jj + 1 ∧ jj < b) ∧ (partEqLoop ltT a (a + 1) (b - 1) (swp d a pv) = partEqLoop ltT a ii jj dk) ∧ (w.grownBy w' v.ownBlock) ∧ (y.heap.size ≤ w'.heap.size) ∧ (Own w' base 46 1 v n (dk.toList.map u16v))) _ p t ⟨(a + 1), (b - 1), _, rfl, (zL p rfl B), (zL p rfl C), (zL p rfl E), (zU p rfl).trans (congrArg (Value.int .i64) zx), (zU p rfl).trans (congrArg (Value.int .i64) zx), (by first | assumption | (simp only [Array.size_setIfInBounds, swp_sz, siftDown_size]; assumption)), zx, rfl, hb, (Nat.le_refl _), s⟩ ?_)))))))))
 rintro _ S P G L ⟨ii, jj, dk, rfl, I, J, H, K, M, hdk, R, hs, hb, Q, F⟩
 have := hb.size
 refine wp_block (zF fun _ U => wp_block (loop_m (fun mz_ az_ w' => ∃ (T : Nat), mz_ = (jj + 1 - T) ∧ (Sl az_ 0 v) ∧ (Sl az_ 1 (.int .i64 ((a : Nat) : Int))) ∧ (Sl az_ 8 (.int .i64 0)) ∧ (Sl az_ 10 (.int .i64 ((jj : Nat) : Int))) ∧ (Sl az_ 9 (.int .i64 ((T : Nat) : Int))) ∧ (ii ≤ T ∧ T ≤ jj + 1) ∧ (scanUp (fun x => !ltT dk[a]! x) dk jj ii = scanUp (fun x => !ltT dk[a]! x) dk jj T) ∧ (w.grownBy w' v.ownBlock) ∧ (P.heap.size ≤ w'.heap.size) ∧ (Own w' base 46 1 v n (dk.toList.map u16v))) _ G L ⟨ii, rfl, (zL G rfl I), (zL G rfl J), (zL G rfl H), (zL G rfl M), (zL G rfl K).trans (congrArg (Value.int .i64) zx), zx, rfl, hb, (Nat.le_refl _), F⟩ ?_))
 rintro _ a4 w4 V ac ⟨T, rfl, W, Z, ab, Y, X, ae, aa, hb, ad, F⟩
 have := hb.size
 refine zF fun _ J2 => zF fun _ J3 => reg_still mixed zy ?_
 intro w6 E5
 have := E5.size
 have F := F.keep0 E5
 have hb := grow_step0 hb E5
 refine st_step rfl (fun _ h9 => zG (zC V rfl X) h9) (st_step rfl (fun _ h9 => zG (zC V rfl Y) h9) ?_)
 by_cases af : ((T : Nat) : Int) ≤ ((jj : Nat) : Int)
 ·
  refine st_step rfl (fun _ h9 => op_cmp (b := true) (zA V rfl) (zA V rfl) (b_leq (decide_eq_true af)) h9) (st_step rfl (fun _ h9 => zG (zA V rfl) h9) (st_g_true (j := 3) (dj := 32) (b := true) rfl rfl rfl (zA V rfl) (st_step rfl (fun _ h9 => zG (zC V rfl W) h9) (st_g_true (j := 3) (dj := 32) (b := true) rfl rfl rfl (zA V rfl) (st_step rfl (fun _ h9 => zG (zC V rfl Z) h9) (st_g_true (j := 3) (dj := 32) (b := true) rfl rfl rfl (zA V rfl) (st_index_rd slt45 (zA V rfl) F.rdw (zA V rfl) zx zx ?_)))))))
  intro b7 o8 ah ai ag
  refine st_g_true (j := 3) (dj := 32) (b := true) rfl rfl rfl (zA V rfl) (st_step rfl (fun _ h9 => zN (v := (Value.int .u16 (dk[a]!.toNat : Int))) one46 (zA V rfl) (by have := ag 0 (.int .u16 (dk[a]!.toNat : Int)) zz (el_arr (i := a) zx (by first | omega | (simp only [Array.size_setIfInBounds, swp_sz, siftDown_size]; omega))); simpa using this) h9) (st_g_true (j := 3) (dj := 32) (b := true) rfl rfl rfl (zA V rfl) (st_step rfl (fun _ h9 => zG (zC V rfl W) h9) (st_g_true (j := 3) (dj := 32) (b := true) rfl rfl rfl (zA V rfl) (st_step rfl (fun _ h9 => zG (zC V rfl X) h9) (st_g_true (j := 3) (dj := 32) (b := true) rfl rfl rfl (zA V rfl) (st_index_rd slt45 (zA V rfl) F.rdw (zA V rfl) zx zx ?_)))))))
  intro ak an am al aj
  refine st_g_true (j := 3) (dj := 32) (b := true) rfl rfl rfl (zA V rfl) (st_step rfl (fun _ h9 => zN (v := (Value.int .u16 (dk[T]!.toNat : Int))) one46 (zA V rfl) (by have := aj 0 (.int .u16 (dk[T]!.toNat : Int)) zz (el_arr (i := T) zx (by first | omega | (simp only [Array.size_setIfInBounds, swp_sz, siftDown_size]; omega))); simpa using this) h9) (st_g_true (j := 3) (dj := 32) (b := true) rfl rfl rfl (zA V rfl) (st_fn (vs := [(.int .u16 (dk[a]!.toNat : Int)), (.int .u16 (dk[T]!.toNat : Int))]) ok159 (⟨(zA V rfl), ⟨(zA V rfl), trivial⟩⟩) (Less16_ret dk[a]! dk[T]! _) (st_g_true (j := 3) (dj := 32) (b := true) rfl rfl rfl (zA V rfl) (st_step rfl (fun _ h9 => op_not (zA V rfl) h9) (st_step rfl (fun _ h9 => zc (zA V rfl) (zA V rfl) h9) (st_nil (J3 _ _ (wp_cond_split (zA V rfl) (fun ao => ?_) (fun ao => ?_))))))))))
  ·
   refine wp_skip (J2 _ _ (wp_block (zH (zG (zC V rfl X) (op_add (zA V rfl) rfl (add64 zx) (zD (zA V rfl) (zB (blk_normal ?_))))))))
   -- round 31T 43T
   exact zg _ V ac ⟨(T + 1), rfl, (zL V rfl W), (zL V rfl Z), (zL V rfl ab), (zL V rfl Y), (zU V rfl).trans (congrArg (Value.int .i64) zx), zx, (aa.trans (scanUp_go zx ao)), hb, zx, F⟩ zx
  refine wp_exit (then_exit (then_exit (blk_hit (U _ _ (zF fun _ U => wp_block ?_)))))
  have ap : scanUp (fun x => !ltT dk[a]! x) dk jj ii = T := aa.trans (scanUp_stop (.inr ao))
  refine loop_m (fun mz_ az_ w' => ∃ (j2 : Nat), mz_ = (j2 + 1) ∧ (Sl az_ 0 v) ∧ (Sl az_ 1 (.int .i64 ((a : Nat) : Int))) ∧ (Sl az_ 8 (.int .i64 0)) ∧ (Sl az_ 9 (.int .i64 ((T : Nat) : Int))) ∧ (Sl az_ 10 (.int .i64 ((j2 : Nat) : Int))) ∧ (j2 ≤ jj ∧ T ≤ j2 + 1) ∧ (scanDown (fun x => ltT dk[a]! x) dk T jj = scanDown (fun x => ltT dk[a]! x) dk T j2) ∧ (w.grownBy w' v.ownBlock) ∧ (w6.heap.size ≤ w'.heap.size) ∧ (Own w' base 46 1 v n (dk.toList.map u16v))) _ V ac ⟨jj, rfl, (zL V rfl W), (zL V rfl Z), (zL V rfl ab), (zL V rfl X), (zL V rfl Y).trans (congrArg (Value.int .i64) zx), zx, rfl, hb, (Nat.le_refl _), F⟩ ?_
  rintro _ aD aE aq ax ⟨j2, rfl, ar, ay, az, au, aw, aB, av, hb, aC, F⟩
  have := hb.size
  refine zF fun _ J2 => zF fun _ J3 => reg_still mixed zy ?_
  intro aG aF
  have := aF.size
  have F := F.keep0 aF
  have hb := grow_step0 hb aF
  refine st_step rfl (fun _ h9 => zG (zC aq rfl au) h9) (st_step rfl (fun _ h9 => zG (zC aq rfl aw) h9) ?_)
  by_cases aH : ((T : Nat) : Int) ≤ ((j2 : Nat) : Int)
  ·
   refine st_step rfl (fun _ h9 => op_cmp (b := true) (zA aq rfl) (zA aq rfl) (b_leq (decide_eq_true aH)) h9) (st_step rfl (fun _ h9 => zG (zA aq rfl) h9) (st_g_true (j := 3) (dj := 49) (b := true) rfl rfl rfl (zA aq rfl) (st_step rfl (fun _ h9 => zG (zC aq rfl ar) h9) (st_g_true (j := 3) (dj := 49) (b := true) rfl rfl rfl (zA aq rfl) (st_step rfl (fun _ h9 => zG (zC aq rfl ay) h9) (st_g_true (j := 3) (dj := 49) (b := true) rfl rfl rfl (zA aq rfl) (st_index_rd slt45 (zA aq rfl) F.rdw (zA aq rfl) zx zx ?_)))))))
   intro aK aM aL aJ aI
   refine st_g_true (j := 3) (dj := 49) (b := true) rfl rfl rfl (zA aq rfl) (st_step rfl (fun _ h9 => zN (v := (Value.int .u16 (dk[a]!.toNat : Int))) one46 (zA aq rfl) (by have := aI 0 (.int .u16 (dk[a]!.toNat : Int)) zz (el_arr (i := a) zx (by first | omega | (simp only [Array.size_setIfInBounds, swp_sz, siftDown_size]; omega))); simpa using this) h9) (st_g_true (j := 3) (dj := 49) (b := true) rfl rfl rfl (zA aq rfl) (st_step rfl (fun _ h9 => zG (zC aq rfl ar) h9) (st_g_true (j := 3) (dj := 49) (b := true) rfl rfl rfl (zA aq rfl) (st_step rfl (fun _ h9 => zG (zC aq rfl aw) h9) (st_g_true (j := 3) (dj := 49) (b := true) rfl rfl rfl (zA aq rfl) (st_index_rd slt45 (zA aq rfl) F.rdw (zA aq rfl) zx zx ?_)))))))
   intro aO aQ aP aR aN
   refine st_g_true (j := 3) (dj := 49) (b := true) rfl rfl rfl (zA aq rfl) (st_step rfl (fun _ h9 => zN (v := (Value.int .u16 (dk[j2]!.toNat : Int))) one46 (zA aq rfl) (by have := aN 0 (.int .u16 (dk[j2]!.toNat : Int)) zz (el_arr (i := j2) zx (by first | omega | (simp only [Array.size_setIfInBounds, swp_sz, siftDown_size]; omega))); simpa using this) h9) (st_g_true (j := 3) (dj := 49) (b := true) rfl rfl rfl (zA aq rfl) (st_fn (vs := [(.int .u16 (dk[a]!.toNat : Int)), (.int .u16 (dk[j2]!.toNat : Int))]) ok159 (⟨(zA aq rfl), ⟨(zA aq rfl), trivial⟩⟩) (Less16_ret dk[a]! dk[j2]! _) (st_step rfl (fun _ h9 => zc (zA aq rfl) (zA aq rfl) h9) (st_nil (J3 _ _ (wp_cond_split (zA aq rfl) (fun aS => ?_) (fun aS => ?_))))))))
   ·
    refine wp_skip (J2 _ _ (wp_block (zH (zG (zC aq rfl aw) (op_sub (zA aq rfl) rfl (sub64 zx) (zD (zA aq rfl) (zB (blk_normal ?_))))))))
    -- round 31T 43F 48T 59T
    exact zg _ aq ax ⟨(j2 - 1), rfl, (zL aq rfl ar), (zL aq rfl ay), (zL aq rfl az), (zL aq rfl au), (zU aq rfl).trans (congrArg (Value.int .i64) zx), zx, (av.trans (scanDown_go zx zx aS)), hb, zx, F⟩ zx
   refine wp_exit (then_exit (then_exit (blk_hit (U _ _ (zF fun _ U => zF fun _ J2 => zH (zG (zC aq rfl au) (zG (zC aq rfl aw) (op_gtr (zA aq rfl) (zA aq rfl) (fun aT => ?_) (fun aT => ?_)))))))))
   ·
    refine zB (J2 _ _ (wp_cond_true (zA aq rfl) (wp_exit (then_exit (blk_miss zz (then_exit (blk_hit (m _ _ (zF fun _ m => zH (zG (zC aq rfl au) (zD (zA aq rfl) (zB (m _ _ (wp_ret (ret1 rfl ax (zA aq rfl) ⟨_, rfl, ?_⟩)))))))))))))))
    have aU : scanDown (fun x => ltT dk[a]! x) dk T jj = j2 := av.trans (scanDown_stop (.inr aS))
    have hq : partitionEqual ltT d a b pv = (T, dk) := hs.trans (pe_stop ap aU zx)
    exact ⟨hb, by first | (rw [hq]; done) | (rw [hq]; rfl), F.cast rfl (by rw [hq])⟩
   refine zB (J2 _ _ (wp_cond_false (zA aq rfl) (wp_skip (U _ _ (zF fun _ U => reg_mid (e := 46) (sz := 1) (base := base) (n := n) (v := v) (Φ := phiL [(fun uz _ => uz = v), (fun uz _ => uz = (.int .i64 ((T : Nat) : Int))), (fun uz _ => uz = v), (fun uz _ => uz = (.int .i64 ((j2 : Nat) : Int))), (fun uz _ => uz = v), (fun uz _ => uz = (.int .i64 ((j2 : Nat) : Int))), (fun uz _ => ∃ bz oz, uz = ptr bz oz ∧ AtV v j2 bz oz), (fun uz _ => uz = (.int .u16 (dk[j2]!.toNat : Int))), (fun uz _ => uz = v), (fun uz _ => uz = (.int .i64 ((T : Nat) : Int))), (fun uz _ => ∃ bz oz, uz = ptr bz oz ∧ AtV v T bz oz), (fun uz _ => uz = (.int .u16 (dk[T]!.toNat : Int))), (fun uz _ => ∃ bz oz, uz = ptr bz oz ∧ AtV v T bz oz), (fun _ _ => True), (fun uz _ => ∃ bz oz, uz = ptr bz oz ∧ AtV v j2 bz oz), (fun _ _ => True)]) [13, 15] [(dk.toList.map u16v), ((dk.setIfInBounds T dk[j2]!).toList.map u16v), (((dk.setIfInBounds T dk[j2]!).setIfInBounds j2 dk[T]!).toList.map u16v)] mixed zy zy zy zy aq F (StL.get (StL.eq (StL.eq (StL.eq (StL.eq (StL.eq (StL.eq (StL.at (StL.eq (StL.eq (StL.eq (StL.at (StL.eq (StL.at (StL.cons (fun _ _ _ _ h => h) (StL.at (StL.cons (fun _ _ _ _ h => h) (StL.nil _)))))))))))))))))) (ObRs.get (ObRs.cons ?_ (ObRs.cons ?_ (ObRs.cons ?_ (ObRs.cons ?_ (ObRs.cons ?_ (ObRs.cons ?_ (ObRs.cons ?_ (ObRs.cons ?_ (ObRs.cons ?_ (ObRs.cons ?_ (ObRs.cons ?_ (ObRs.cons ?_ (ObRs.cons ?_ (ObRs.pass rfl (ObRs.cons ?_ (ObRs.pass rfl (ObRs.nil)))))))))))))))))) (ObWs.get (ObWs.cons ?_ (ObWs.cons ?_ (ObWs.nil)))) ?_)))))
   ·
    intro aA wA cA hNA hRA hckA hOA hbsA hdpA
    have o := (hbsA 0 rfl).trans (zL aq rfl ar)
    clear hbsA hdpA
    refine zG (zC hNA rfl o) ?_
    exact obR_end rfl rfl (grown_refl _ _)
   ·
    intro aA wA cA hNA hRA hckA hOA hbsA hdpA
    have aV := (hbsA 9 rfl).trans (zL aq rfl au)
    clear hbsA hdpA
    refine zG (zC hNA rfl aV) ?_
    exact obR_end rfl rfl (grown_refl _ _)
   ·
    intro aA wA cA hNA hRA hckA hOA hbsA hdpA
    have o := (hbsA 0 rfl).trans (zL aq rfl ar)
    clear hbsA hdpA
    refine zG (zC hNA rfl o) ?_
    exact obR_end rfl rfl (grown_refl _ _)
   ·
    intro aA wA cA hNA hRA hckA hOA hbsA hdpA
    have aW := (hbsA 10 rfl).trans (zL aq rfl aw)
    clear hbsA hdpA
    refine zG (zC hNA rfl aW) ?_
    exact obR_end rfl rfl (grown_refl _ _)
   ·
    intro aA wA cA hNA hRA hckA hOA hbsA hdpA
    have o := (hbsA 0 rfl).trans (zL aq rfl ar)
    clear hbsA hdpA
    refine zG (zC hNA rfl o) ?_
    exact obR_end rfl rfl (grown_refl _ _)
   ·
    intro aA wA cA hNA hRA hckA hOA hbsA hdpA
    have aW := (hbsA 10 rfl).trans (zL aq rfl aw)
    clear hbsA hdpA
    refine zG (zC hNA rfl aW) ?_
    exact obR_end rfl rfl (grown_refl _ _)
   ·
    intro aA wA cA hNA hRA hckA hOA hbsA hdpA
    have aX : Sl aA 69 v := hdpA 4 _ 69 zy rfl rfl
    have aY : Sl aA 70 (.int .i64 ((j2 : Nat) : Int)) := hdpA 5 _ 70 zy rfl rfl
    clear hbsA hdpA
    refine op_index_own (i := j2) slt45 (zC hNA rfl aX) hOA (zC hNA rfl aY) zx zx ?_
    intro b_ o_ _ hA_
    exact obR_end rfl ⟨b_, o_, rfl, by simpa using hA_⟩ (grown_refl _ _)
   ·
    intro aA wA cA hNA hRA hckA hOA hbsA hdpA
    obtain ⟨a2, a1, aZ, a0⟩ := hdpA 6 _ 71 zy rfl rfl
    clear hbsA hdpA
    obtain rfl : cA = 0 := Nat.le_zero.1 (hckA 0 13 rfl zy)
    have hOA : Own wA base 46 1 v n (dk.toList.map u16v) := hOA
    refine zN (v := (Value.int .u16 (dk[j2]!.toNat : Int))) one46 (zC hNA rfl aZ) (by have := hOA.cellAt a0 0 _ (el_at (i := j2) (by first | omega | (simp only [Array.size_setIfInBounds, swp_sz, siftDown_size]; omega))); simpa using this) ?_
    exact obR_end rfl rfl (grown_refl _ _)
   ·
    intro aA wA cA hNA hRA hckA hOA hbsA hdpA
    have o := (hbsA 0 rfl).trans (zL aq rfl ar)
    clear hbsA hdpA
    refine zG (zC hNA rfl o) ?_
    exact obR_end rfl rfl (grown_refl _ _)
   ·
    intro aA wA cA hNA hRA hckA hOA hbsA hdpA
    have aV := (hbsA 9 rfl).trans (zL aq rfl au)
    clear hbsA hdpA
    refine zG (zC hNA rfl aV) ?_
    exact obR_end rfl rfl (grown_refl _ _)
   ·
    intro aA wA cA hNA hRA hckA hOA hbsA hdpA
    have a3 : Sl aA 73 v := hdpA 8 _ 73 zy rfl rfl
    have a4 : Sl aA 74 (.int .i64 ((T : Nat) : Int)) := hdpA 9 _ 74 zy rfl rfl
    clear hbsA hdpA
    refine op_index_own (i := T) slt45 (zC hNA rfl a3) hOA (zC hNA rfl a4) zx zx ?_
    intro b_ o_ _ hA_
    exact obR_end rfl ⟨b_, o_, rfl, by simpa using hA_⟩ (grown_refl _ _)
   ·
    intro aA wA cA hNA hRA hckA hOA hbsA hdpA
    obtain ⟨a7, a8, a5, a6⟩ := hdpA 10 _ 75 zy rfl rfl
    clear hbsA hdpA
    obtain rfl : cA = 0 := Nat.le_zero.1 (hckA 0 13 rfl zy)
    have hOA : Own wA base 46 1 v n (dk.toList.map u16v) := hOA
    refine zN (v := (Value.int .u16 (dk[T]!.toNat : Int))) one46 (zC hNA rfl a5) (by have := hOA.cellAt a6 0 _ (el_at (i := T) (by first | omega | (simp only [Array.size_setIfInBounds, swp_sz, siftDown_size]; omega))); simpa using this) ?_
    exact obR_end rfl rfl (grown_refl _ _)
   ·
    intro aA wA cA hNA hRA hckA hOA hbsA hdpA
    have a9 : Sl aA 65 v := hdpA 0 _ 65 zy rfl rfl
    have ba : Sl aA 66 (.int .i64 ((T : Nat) : Int)) := hdpA 1 _ 66 zy rfl rfl
    clear hbsA hdpA
    refine op_index_own (i := T) slt45 (zC hNA rfl a9) hOA (zC hNA rfl ba) zx zx ?_
    intro b_ o_ _ hA_
    exact obR_end rfl ⟨b_, o_, rfl, by simpa using hA_⟩ (grown_refl _ _)
   ·
    intro aA wA cA hNA hRA hckA hOA hbsA hdpA
    have bb : Sl aA 67 v := hdpA 2 _ 67 zy rfl rfl
    have bc : Sl aA 68 (.int .i64 ((j2 : Nat) : Int)) := hdpA 3 _ 68 zy rfl rfl
    clear hbsA hdpA
    refine op_index_own (i := j2) slt45 (zC hNA rfl bb) hOA (zC hNA rfl bc) zx zx ?_
    intro b_ o_ _ hA_
    exact obR_end rfl ⟨b_, o_, rfl, by simpa using hA_⟩ (grown_refl _ _)
   ·
    intro o_ ho_; obtain rfl := zE ho_; intro aA wA hNA hRA hbsA hdpA hOA
    obtain ⟨bg, bf, be, bd⟩ := hdpA 12 _ 77 zy rfl rfl
    have bh : Sl aA 72 (.int .u16 (dk[j2]!.toNat : Int)) := hdpA 7 _ 72 zy rfl rfl
    clear hbsA hdpA
    have hOA : Own wA base 46 1 v n (dk.toList.map u16v) := hOA
    refine op_store_own (vs := [(.int .u16 (dk[j2]!.toNat : Int))]) size46 (zC hNA rfl be) (zC hNA rfl bh) rfl rfl rfl hOA bd (by have := hOA.1; simp at this ⊢; omega) ?_
    intro w_ hO_ E_
    exact obW_end rfl (hO_.cast rfl (set_arr (by first | omega | (simp only [Array.size_setIfInBounds, swp_sz, siftDown_size]; omega)))) E_
   ·
    intro o_ ho_; obtain rfl := zE ho_; intro aA wA hNA hRA hbsA hdpA hOA
    obtain ⟨bk, bl, bj, bi⟩ := hdpA 14 _ 78 zy rfl rfl
    have bm : Sl aA 76 (.int .u16 (dk[T]!.toNat : Int)) := hdpA 11 _ 76 zy rfl rfl
    clear hbsA hdpA
    have hOA : Own wA base 46 1 v n ((dk.setIfInBounds T dk[j2]!).toList.map u16v) := hOA
    refine op_store_own (vs := [(.int .u16 (dk[T]!.toNat : Int))]) size46 (zC hNA rfl bj) (zC hNA rfl bm) rfl rfl rfl hOA bi (by have := hOA.1; simp at this ⊢; omega) ?_
    intro w_ hO_ E_
    exact obW_end rfl (hO_.cast rfl (set_arr (by first | omega | (simp only [Array.size_setIfInBounds, swp_sz, siftDown_size]; omega)))) E_
   intro bv bt bn bp bo bu bq br
   have bp := bp.trans ax
   have bw := (bo 0 rfl).trans (zL aq rfl ar)
   have bA := (bo 1 rfl).trans (zL aq rfl ay)
   have bB := (bo 8 rfl).trans (zL aq rfl az)
   have bC := (bo 9 rfl).trans (zL aq rfl au)
   have bD := (bo 10 rfl).trans (zL aq rfl aw)
   clear bo bu
   have bq : Own bt base 46 1 v n (((dk.setIfInBounds T dk[j2]!).setIfInBounds j2 dk[T]!).toList.map u16v) := bq
   have := br.size
   have hb := grow_stepX hb br rfl
   refine U _ _ (zF fun _ U => zH ?_)
   refine zG (zC bn rfl bC) (op_add (zA bn rfl) rfl (add64 zx) (zD (zA bn rfl) (zB (U _ _ (zH (zG (zC bn rfl bD) (op_sub (zA bn rfl) rfl (sub64 zx) (zD (zA bn rfl) (zB (blk_normal ?_))))))))))
   -- round 31T 43F 48T 59F 64F
   have aU : scanDown (fun x => ltT dk[a]! x) dk T jj = j2 := av.trans (scanDown_stop (.inr aS))
   have hne : T ≠ j2 := by first | omega | (intro hh; subst hh; rw [aS] at ao; simp at ao)
   exact zg _ bn bp ⟨(T + 1), (j2 - 1), _, rfl, (zL bn rfl bw), (zL bn rfl bA), (zL bn rfl bB), (zU bn rfl).trans (congrArg (Value.int .i64) zx), (zU bn rfl).trans (congrArg (Value.int .i64) zx), (by first | assumption | (simp only [Array.size_setIfInBounds, swp_sz, siftDown_size]; assumption)), zx, (hs.trans (pe_go ap aU zx)), hb, zx, bq⟩ zx
  refine st_step rfl (fun _ h9 => op_cmp (b := false) (zA aq rfl) (zA aq rfl) (b_leq (decide_eq_false aH)) h9) (st_step rfl (fun _ h9 => zG (zA aq rfl) h9) (st_g_false (j := 3) (dj := 49) (b := true) rfl rfl rfl (zA aq rfl) rfl rfl (st_g_false (j := 3) (dj := 49) (b := true) rfl rfl rfl (zA aq rfl) rfl rfl (st_g_false (j := 3) (dj := 49) (b := true) rfl rfl rfl (zA aq rfl) rfl rfl (st_g_false (j := 3) (dj := 49) (b := true) rfl rfl rfl (zA aq rfl) rfl rfl (st_g_false (j := 3) (dj := 49) (b := true) rfl rfl rfl (zA aq rfl) rfl rfl (st_g_false (j := 3) (dj := 49) (b := true) rfl rfl rfl (zA aq rfl) rfl rfl (st_g_false (j := 3) (dj := 49) (b := true) rfl rfl rfl (zA aq rfl) rfl rfl (st_g_false (j := 3) (dj := 49) (b := true) rfl rfl rfl (zA aq rfl) rfl rfl ?_)))))))))
  refine st_g_false (j := 3) (dj := 49) (b := true) rfl rfl rfl (zA aq rfl) rfl rfl (st_step rfl (fun _ h9 => zd (zA aq rfl) rfl h9) (st_nil (J3 _ _ (wp_cond_false (zA aq rfl) (wp_exit (then_exit (then_exit (blk_hit (U _ _ (zF fun _ U => zF fun _ J2 => zH (zG (zC aq rfl au) (zG (zC aq rfl aw) (op_gtr (zA aq rfl) (zA aq rfl) (fun aT => ?_) (fun aT => ?_))))))))))))))
  ·
   refine zB (J2 _ _ (wp_cond_true (zA aq rfl) (wp_exit (then_exit (blk_miss zz (then_exit (blk_hit (m _ _ (zF fun _ m => zH (zG (zC aq rfl au) (zD (zA aq rfl) (zB (m _ _ (wp_ret (ret1 rfl ax (zA aq rfl) ⟨_, rfl, ?_⟩)))))))))))))))
   have aU : scanDown (fun x => ltT dk[a]! x) dk T jj = j2 := av.trans (scanDown_stop (.inl zx))
   have hq : partitionEqual ltT d a b pv = (T, dk) := hs.trans (pe_stop ap aU zx)
   exact ⟨hb, by first | (rw [hq]; done) | (rw [hq]; rfl), F.cast rfl (by rw [hq])⟩
  refine zB (J2 _ _ (wp_cond_false (zA aq rfl) (wp_skip (U _ _ (zF fun _ U => reg_mid (e := 46) (sz := 1) (base := base) (n := n) (v := v) (Φ := phiL [(fun uz _ => uz = v), (fun uz _ => uz = (.int .i64 ((T : Nat) : Int))), (fun uz _ => uz = v), (fun uz _ => uz = (.int .i64 ((j2 : Nat) : Int))), (fun uz _ => uz = v), (fun uz _ => uz = (.int .i64 ((j2 : Nat) : Int))), (fun uz _ => ∃ bz oz, uz = ptr bz oz ∧ AtV v j2 bz oz), (fun uz _ => uz = (.int .u16 (dk[j2]!.toNat : Int))), (fun uz _ => uz = v), (fun uz _ => uz = (.int .i64 ((T : Nat) : Int))), (fun uz _ => ∃ bz oz, uz = ptr bz oz ∧ AtV v T bz oz), (fun uz _ => uz = (.int .u16 (dk[T]!.toNat : Int))), (fun uz _ => ∃ bz oz, uz = ptr bz oz ∧ AtV v T bz oz), (fun _ _ => True), (fun uz _ => ∃ bz oz, uz = ptr bz oz ∧ AtV v j2 bz oz), (fun _ _ => True)]) [13, 15] [(dk.toList.map u16v), ((dk.setIfInBounds T dk[j2]!).toList.map u16v), (((dk.setIfInBounds T dk[j2]!).setIfInBounds j2 dk[T]!).toList.map u16v)] mixed zy zy zy zy aq F (StL.get (StL.eq (StL.eq (StL.eq (StL.eq (StL.eq (StL.eq (StL.at (StL.eq (StL.eq (StL.eq (StL.at (StL.eq (StL.at (StL.cons (fun _ _ _ _ h => h) (StL.at (StL.cons (fun _ _ _ _ h => h) (StL.nil _)))))))))))))))))) (ObRs.get (ObRs.cons ?_ (ObRs.cons ?_ (ObRs.cons ?_ (ObRs.cons ?_ (ObRs.cons ?_ (ObRs.cons ?_ (ObRs.cons ?_ (ObRs.cons ?_ (ObRs.cons ?_ (ObRs.cons ?_ (ObRs.cons ?_ (ObRs.cons ?_ (ObRs.cons ?_ (ObRs.pass rfl (ObRs.cons ?_ (ObRs.pass rfl (ObRs.nil)))))))))))))))))) (ObWs.get (ObWs.cons ?_ (ObWs.cons ?_ (ObWs.nil)))) ?_)))))
  ·
   intro aA wA cA hNA hRA hckA hOA hbsA hdpA
   have o := (hbsA 0 rfl).trans (zL aq rfl ar)
   clear hbsA hdpA
   refine zG (zC hNA rfl o) ?_
   exact obR_end rfl rfl (grown_refl _ _)
  ·
   intro aA wA cA hNA hRA hckA hOA hbsA hdpA
   have aV := (hbsA 9 rfl).trans (zL aq rfl au)
   clear hbsA hdpA
   refine zG (zC hNA rfl aV) ?_
   exact obR_end rfl rfl (grown_refl _ _)
  ·
   intro aA wA cA hNA hRA hckA hOA hbsA hdpA
   have o := (hbsA 0 rfl).trans (zL aq rfl ar)
   clear hbsA hdpA
   refine zG (zC hNA rfl o) ?_
   exact obR_end rfl rfl (grown_refl _ _)
  ·
   intro aA wA cA hNA hRA hckA hOA hbsA hdpA
   have aW := (hbsA 10 rfl).trans (zL aq rfl aw)
   clear hbsA hdpA
   refine zG (zC hNA rfl aW) ?_
   exact obR_end rfl rfl (grown_refl _ _)
  ·
   intro aA wA cA hNA hRA hckA hOA hbsA hdpA
   have o := (hbsA 0 rfl).trans (zL aq rfl ar)
   clear hbsA hdpA
   refine zG (zC hNA rfl o) ?_
   exact obR_end rfl rfl (grown_refl _ _)
  ·
   intro aA wA cA hNA hRA hckA hOA hbsA hdpA
   have aW := (hbsA 10 rfl).trans (zL aq rfl aw)
   clear hbsA hdpA
   refine zG (zC hNA rfl aW) ?_
   exact obR_end rfl rfl (grown_refl _ _)
  ·
   intro aA wA cA hNA hRA hckA hOA hbsA hdpA
   have aX : Sl aA 69 v := hdpA 4 _ 69 zy rfl rfl
   have aY : Sl aA 70 (.int .i64 ((j2 : Nat) : Int)) := hdpA 5 _ 70 zy rfl rfl
   clear hbsA hdpA
   refine op_index_own (i := j2) slt45 (zC hNA rfl aX) hOA (zC hNA rfl aY) zx zx ?_
   intro b_ o_ _ hA_
   exact obR_end rfl ⟨b_, o_, rfl, by simpa using hA_⟩ (grown_refl _ _)
  ·
   intro aA wA cA hNA hRA hckA hOA hbsA hdpA
   obtain ⟨a2, a1, aZ, a0⟩ := hdpA 6 _ 71 zy rfl rfl
   clear hbsA hdpA
   obtain rfl : cA = 0 := Nat.le_zero.1 (hckA 0 13 rfl zy)
   have hOA : Own wA base 46 1 v n (dk.toList.map u16v) := hOA
   refine zN (v := (Value.int .u16 (dk[j2]!.toNat : Int))) one46 (zC hNA rfl aZ) (by have := hOA.cellAt a0 0 _ (el_at (i := j2) (by first | omega | (simp only [Array.size_setIfInBounds, swp_sz, siftDown_size]; omega))); simpa using this) ?_
   exact obR_end rfl rfl (grown_refl _ _)
  ·
   intro aA wA cA hNA hRA hckA hOA hbsA hdpA
   have o := (hbsA 0 rfl).trans (zL aq rfl ar)
   clear hbsA hdpA
   refine zG (zC hNA rfl o) ?_
   exact obR_end rfl rfl (grown_refl _ _)
  ·
   intro aA wA cA hNA hRA hckA hOA hbsA hdpA
   have aV := (hbsA 9 rfl).trans (zL aq rfl au)
   clear hbsA hdpA
   refine zG (zC hNA rfl aV) ?_
   exact obR_end rfl rfl (grown_refl _ _)
  ·
   intro aA wA cA hNA hRA hckA hOA hbsA hdpA
   have a3 : Sl aA 73 v := hdpA 8 _ 73 zy rfl rfl
   have a4 : Sl aA 74 (.int .i64 ((T : Nat) : Int)) := hdpA 9 _ 74 zy rfl rfl
   clear hbsA hdpA
   refine op_index_own (i := T) slt45 (zC hNA rfl a3) hOA (zC hNA rfl a4) zx zx ?_
   intro b_ o_ _ hA_
   exact obR_end rfl ⟨b_, o_, rfl, by simpa using hA_⟩ (grown_refl _ _)
  ·
   intro aA wA cA hNA hRA hckA hOA hbsA hdpA
   obtain ⟨a7, a8, a5, a6⟩ := hdpA 10 _ 75 zy rfl rfl
   clear hbsA hdpA
   obtain rfl : cA = 0 := Nat.le_zero.1 (hckA 0 13 rfl zy)
   have hOA : Own wA base 46 1 v n (dk.toList.map u16v) := hOA
   refine zN (v := (Value.int .u16 (dk[T]!.toNat : Int))) one46 (zC hNA rfl a5) (by have := hOA.cellAt a6 0 _ (el_at (i := T) (by first | omega | (simp only [Array.size_setIfInBounds, swp_sz, siftDown_size]; omega))); simpa using this) ?_
   exact obR_end rfl rfl (grown_refl _ _)
  ·
   intro aA wA cA hNA hRA hckA hOA hbsA hdpA
   have a9 : Sl aA 65 v := hdpA 0 _ 65 zy rfl rfl
   have ba : Sl aA 66 (.int .i64 ((T : Nat) : Int)) := hdpA 1 _ 66 zy rfl rfl
   clear hbsA hdpA
   refine op_index_own (i := T) slt45 (zC hNA rfl a9) hOA (zC hNA rfl ba) zx zx ?_
   intro b_ o_ _ hA_
   exact obR_end rfl ⟨b_, o_, rfl, by simpa using hA_⟩ (grown_refl _ _)
  ·
   intro aA wA cA hNA hRA hckA hOA hbsA hdpA
   have bb : Sl aA 67 v := hdpA 2 _ 67 zy rfl rfl
   have bc : Sl aA 68 (.int .i64 ((j2 : Nat) : Int)) := hdpA 3 _ 68 zy rfl rfl
   clear hbsA hdpA
   refine op_index_own (i := j2) slt45 (zC hNA rfl bb) hOA (zC hNA rfl bc) zx zx ?_
   intro b_ o_ _ hA_
   exact obR_end rfl ⟨b_, o_, rfl, by simpa using hA_⟩ (grown_refl _ _)
  ·
   intro o_ ho_; obtain rfl := zE ho_; intro aA wA hNA hRA hbsA hdpA hOA
   obtain ⟨bg, bf, be, bd⟩ := hdpA 12 _ 77 zy rfl rfl
   have bh : Sl aA 72 (.int .u16 (dk[j2]!.toNat : Int)) := hdpA 7 _ 72 zy rfl rfl
   clear hbsA hdpA
   have hOA : Own wA base 46 1 v n (dk.toList.map u16v) := hOA
   refine op_store_own (vs := [(.int .u16 (dk[j2]!.toNat : Int))]) size46 (zC hNA rfl be) (zC hNA rfl bh) rfl rfl rfl hOA bd (by have := hOA.1; simp at this ⊢; omega) ?_
   intro w_ hO_ E_
   exact obW_end rfl (hO_.cast rfl (set_arr (by first | omega | (simp only [Array.size_setIfInBounds, swp_sz, siftDown_size]; omega)))) E_
  ·
   intro o_ ho_; obtain rfl := zE ho_; intro aA wA hNA hRA hbsA hdpA hOA
   obtain ⟨bk, bl, bj, bi⟩ := hdpA 14 _ 78 zy rfl rfl
   have bm : Sl aA 76 (.int .u16 (dk[T]!.toNat : Int)) := hdpA 11 _ 76 zy rfl rfl
   clear hbsA hdpA
   have hOA : Own wA base 46 1 v n ((dk.setIfInBounds T dk[j2]!).toList.map u16v) := hOA
   refine op_store_own (vs := [(.int .u16 (dk[T]!.toNat : Int))]) size46 (zC hNA rfl bj) (zC hNA rfl bm) rfl rfl rfl hOA bi (by have := hOA.1; simp at this ⊢; omega) ?_
   intro w_ hO_ E_
   exact obW_end rfl (hO_.cast rfl (set_arr (by first | omega | (simp only [Array.size_setIfInBounds, swp_sz, siftDown_size]; omega)))) E_
  intro aP aN aI aL aJ aO aK aM
  have aL := aL.trans ax
  have aQ := (aJ 0 rfl).trans (zL aq rfl ar)
  have aR := (aJ 1 rfl).trans (zL aq rfl ay)
  have bn := (aJ 8 rfl).trans (zL aq rfl az)
  have bo := (aJ 9 rfl).trans (zL aq rfl au)
  have bp := (aJ 10 rfl).trans (zL aq rfl aw)
  clear aJ aO
  have aK : Own aN base 46 1 v n (((dk.setIfInBounds T dk[j2]!).setIfInBounds j2 dk[T]!).toList.map u16v) := aK
  have := aM.size
  have hb := grow_stepX hb aM rfl
  refine U _ _ (zF fun _ U => zH ?_)
  refine zG (zC aI rfl bo) (op_add (zA aI rfl) rfl (add64 zx) (zD (zA aI rfl) (zB (U _ _ (zH (zG (zC aI rfl bp) (op_sub (zA aI rfl) rfl (sub64 zx) (zD (zA aI rfl) (zB (blk_normal ?_))))))))))
  -- round 31T 43F 48F 64F
  have aU : scanDown (fun x => ltT dk[a]! x) dk T jj = j2 := av.trans (scanDown_stop (.inl zx))
  have hne : T ≠ j2 := by first | omega | (intro hh; subst hh; rw [aS] at ao; simp at ao)
  exact zg _ aI aL ⟨(T + 1), (j2 - 1), _, rfl, (zL aI rfl aQ), (zL aI rfl aR), (zL aI rfl bn), (zU aI rfl).trans (congrArg (Value.int .i64) zx), (zU aI rfl).trans (congrArg (Value.int .i64) zx), (by first | assumption | (simp only [Array.size_setIfInBounds, swp_sz, siftDown_size]; assumption)), zx, (hs.trans (pe_go ap aU zx)), hb, zx, aK⟩ zx
 refine st_step rfl (fun _ h9 => op_cmp (b := false) (zA V rfl) (zA V rfl) (b_leq (decide_eq_false af)) h9) (st_step rfl (fun _ h9 => zG (zA V rfl) h9) (st_g_false (j := 3) (dj := 32) (b := true) rfl rfl rfl (zA V rfl) rfl rfl (st_g_false (j := 3) (dj := 32) (b := true) rfl rfl rfl (zA V rfl) rfl rfl (st_g_false (j := 3) (dj := 32) (b := true) rfl rfl rfl (zA V rfl) rfl rfl (st_g_false (j := 3) (dj := 32) (b := true) rfl rfl rfl (zA V rfl) rfl rfl (st_g_false (j := 3) (dj := 32) (b := true) rfl rfl rfl (zA V rfl) rfl rfl ?_))))))
 refine st_g_false (j := 3) (dj := 32) (b := true) rfl rfl rfl (zA V rfl) rfl rfl (st_g_false (j := 3) (dj := 32) (b := true) rfl rfl rfl (zA V rfl) rfl rfl (st_g_false (j := 3) (dj := 32) (b := true) rfl rfl rfl (zA V rfl) rfl rfl (st_g_false (j := 3) (dj := 32) (b := true) rfl rfl rfl (zA V rfl) rfl rfl (st_g_false (j := 3) (dj := 32) (b := true) rfl rfl rfl (zA V rfl) rfl rfl (st_step rfl (fun _ h9 => zd (zA V rfl) rfl h9) (st_nil (J3 _ _ (wp_cond_false (zA V rfl) (wp_exit (then_exit (then_exit (blk_hit (U _ _ (zF fun _ U => wp_block ?_))))))))))))))
 have ap : scanUp (fun x => !ltT dk[a]! x) dk jj ii = T := aa.trans (scanUp_stop (.inl zx))
 refine loop_m (fun mz_ az_ w' => ∃ (j2 : Nat), mz_ = (j2 + 1) ∧ (Sl az_ 0 v) ∧ (Sl az_ 1 (.int .i64 ((a : Nat) : Int))) ∧ (Sl az_ 8 (.int .i64 0)) ∧ (Sl az_ 9 (.int .i64 ((T : Nat) : Int))) ∧ (Sl az_ 10 (.int .i64 ((j2 : Nat) : Int))) ∧ (j2 ≤ jj ∧ T ≤ j2 + 1) ∧ (scanDown (fun x => ltT dk[a]! x) dk T jj = scanDown (fun x => ltT dk[a]! x) dk T j2) ∧ (w.grownBy w' v.ownBlock) ∧ (w6.heap.size ≤ w'.heap.size) ∧ (Own w' base 46 1 v n (dk.toList.map u16v))) _ V ac ⟨jj, rfl, (zL V rfl W), (zL V rfl Z), (zL V rfl ab), (zL V rfl X), (zL V rfl Y).trans (congrArg (Value.int .i64) zx), zx, rfl, hb, (Nat.le_refl _), F⟩ ?_
 rintro _ aq an ag ak ⟨j2, rfl, ah, al, am, ai, aj, aB, av, hb, ar, F⟩
 have := hb.size
 refine zF fun _ J2 => zF fun _ J3 => reg_still mixed zy ?_
 intro aw au
 have := au.size
 have F := F.keep0 au
 have hb := grow_step0 hb au
 refine st_step rfl (fun _ h9 => zG (zC ag rfl ai) h9) (st_step rfl (fun _ h9 => zG (zC ag rfl aj) h9) ?_)
 by_cases aH : ((T : Nat) : Int) ≤ ((j2 : Nat) : Int)
 ·
  refine st_step rfl (fun _ h9 => op_cmp (b := true) (zA ag rfl) (zA ag rfl) (b_leq (decide_eq_true aH)) h9) (st_step rfl (fun _ h9 => zG (zA ag rfl) h9) (st_g_true (j := 3) (dj := 49) (b := true) rfl rfl rfl (zA ag rfl) (st_step rfl (fun _ h9 => zG (zC ag rfl ah) h9) (st_g_true (j := 3) (dj := 49) (b := true) rfl rfl rfl (zA ag rfl) (st_step rfl (fun _ h9 => zG (zC ag rfl al) h9) (st_g_true (j := 3) (dj := 49) (b := true) rfl rfl rfl (zA ag rfl) (st_index_rd slt45 (zA ag rfl) F.rdw (zA ag rfl) zx zx ?_)))))))
  intro aB az aC ay ax
  refine st_g_true (j := 3) (dj := 49) (b := true) rfl rfl rfl (zA ag rfl) (st_step rfl (fun _ h9 => zN (v := (Value.int .u16 (dk[a]!.toNat : Int))) one46 (zA ag rfl) (by have := ax 0 (.int .u16 (dk[a]!.toNat : Int)) zz (el_arr (i := a) zx (by first | omega | (simp only [Array.size_setIfInBounds, swp_sz, siftDown_size]; omega))); simpa using this) h9) (st_g_true (j := 3) (dj := 49) (b := true) rfl rfl rfl (zA ag rfl) (st_step rfl (fun _ h9 => zG (zC ag rfl ah) h9) (st_g_true (j := 3) (dj := 49) (b := true) rfl rfl rfl (zA ag rfl) (st_step rfl (fun _ h9 => zG (zC ag rfl aj) h9) (st_g_true (j := 3) (dj := 49) (b := true) rfl rfl rfl (zA ag rfl) (st_index_rd slt45 (zA ag rfl) F.rdw (zA ag rfl) zx zx ?_)))))))
  intro aG aE aF aI aD
  refine st_g_true (j := 3) (dj := 49) (b := true) rfl rfl rfl (zA ag rfl) (st_step rfl (fun _ h9 => zN (v := (Value.int .u16 (dk[j2]!.toNat : Int))) one46 (zA ag rfl) (by have := aD 0 (.int .u16 (dk[j2]!.toNat : Int)) zz (el_arr (i := j2) zx (by first | omega | (simp only [Array.size_setIfInBounds, swp_sz, siftDown_size]; omega))); simpa using this) h9) (st_g_true (j := 3) (dj := 49) (b := true) rfl rfl rfl (zA ag rfl) (st_fn (vs := [(.int .u16 (dk[a]!.toNat : Int)), (.int .u16 (dk[j2]!.toNat : Int))]) ok159 (⟨(zA ag rfl), ⟨(zA ag rfl), trivial⟩⟩) (Less16_ret dk[a]! dk[j2]! _) (st_step rfl (fun _ h9 => zc (zA ag rfl) (zA ag rfl) h9) (st_nil (J3 _ _ (wp_cond_split (zA ag rfl) (fun aS => ?_) (fun aS => ?_))))))))
  ·
   refine wp_skip (J2 _ _ (wp_block (zH (zG (zC ag rfl aj) (op_sub (zA ag rfl) rfl (sub64 zx) (zD (zA ag rfl) (zB (blk_normal ?_))))))))
   -- round 31F 48T 59T
   exact zg _ ag ak ⟨(j2 - 1), rfl, (zL ag rfl ah), (zL ag rfl al), (zL ag rfl am), (zL ag rfl ai), (zU ag rfl).trans (congrArg (Value.int .i64) zx), zx, (av.trans (scanDown_go zx zx aS)), hb, zx, F⟩ zx
  refine wp_exit (then_exit (then_exit (blk_hit (U _ _ (zF fun _ U => zF fun _ J2 => zH (zG (zC ag rfl ai) (zG (zC ag rfl aj) (op_gtr (zA ag rfl) (zA ag rfl) (fun aT => ?_) (fun aT => ?_)))))))))
  ·
   refine zB (J2 _ _ (wp_cond_true (zA ag rfl) (wp_exit (then_exit (blk_miss zz (then_exit (blk_hit (m _ _ (zF fun _ m => zH (zG (zC ag rfl ai) (zD (zA ag rfl) (zB (m _ _ (wp_ret (ret1 rfl ak (zA ag rfl) ⟨_, rfl, ?_⟩)))))))))))))))
   have aU : scanDown (fun x => ltT dk[a]! x) dk T jj = j2 := av.trans (scanDown_stop (.inr aS))
   have hq : partitionEqual ltT d a b pv = (T, dk) := hs.trans (pe_stop ap aU zx)
   exact ⟨hb, by first | (rw [hq]; done) | (rw [hq]; rfl), F.cast rfl (by rw [hq])⟩
  refine zB (J2 _ _ (wp_cond_false (zA ag rfl) (wp_skip (U _ _ (zF fun _ U => reg_mid (e := 46) (sz := 1) (base := base) (n := n) (v := v) (Φ := phiL [(fun uz _ => uz = v), (fun uz _ => uz = (.int .i64 ((T : Nat) : Int))), (fun uz _ => uz = v), (fun uz _ => uz = (.int .i64 ((j2 : Nat) : Int))), (fun uz _ => uz = v), (fun uz _ => uz = (.int .i64 ((j2 : Nat) : Int))), (fun uz _ => ∃ bz oz, uz = ptr bz oz ∧ AtV v j2 bz oz), (fun uz _ => uz = (.int .u16 (dk[j2]!.toNat : Int))), (fun uz _ => uz = v), (fun uz _ => uz = (.int .i64 ((T : Nat) : Int))), (fun uz _ => ∃ bz oz, uz = ptr bz oz ∧ AtV v T bz oz), (fun uz _ => uz = (.int .u16 (dk[T]!.toNat : Int))), (fun uz _ => ∃ bz oz, uz = ptr bz oz ∧ AtV v T bz oz), (fun _ _ => True), (fun uz _ => ∃ bz oz, uz = ptr bz oz ∧ AtV v j2 bz oz), (fun _ _ => True)]) [13, 15] [(dk.toList.map u16v), ((dk.setIfInBounds T dk[j2]!).toList.map u16v), (((dk.setIfInBounds T dk[j2]!).setIfInBounds j2 dk[T]!).toList.map u16v)] mixed zy zy zy zy ag F (StL.get (StL.eq (StL.eq (StL.eq (StL.eq (StL.eq (StL.eq (StL.at (StL.eq (StL.eq (StL.eq (StL.at (StL.eq (StL.at (StL.cons (fun _ _ _ _ h => h) (StL.at (StL.cons (fun _ _ _ _ h => h) (StL.nil _)))))))))))))))))) (ObRs.get (ObRs.cons ?_ (ObRs.cons ?_ (ObRs.cons ?_ (ObRs.cons ?_ (ObRs.cons ?_ (ObRs.cons ?_ (ObRs.cons ?_ (ObRs.cons ?_ (ObRs.cons ?_ (ObRs.cons ?_ (ObRs.cons ?_ (ObRs.cons ?_ (ObRs.cons ?_ (ObRs.pass rfl (ObRs.cons ?_ (ObRs.pass rfl (ObRs.nil)))))))))))))))))) (ObWs.get (ObWs.cons ?_ (ObWs.cons ?_ (ObWs.nil)))) ?_)))))
  ·
   intro aA wA cA hNA hRA hckA hOA hbsA hdpA
   have o := (hbsA 0 rfl).trans (zL ag rfl ah)
   clear hbsA hdpA
   refine zG (zC hNA rfl o) ?_
   exact obR_end rfl rfl (grown_refl _ _)
  ·
   intro aA wA cA hNA hRA hckA hOA hbsA hdpA
   have aV := (hbsA 9 rfl).trans (zL ag rfl ai)
   clear hbsA hdpA
   refine zG (zC hNA rfl aV) ?_
   exact obR_end rfl rfl (grown_refl _ _)
  ·
   intro aA wA cA hNA hRA hckA hOA hbsA hdpA
   have o := (hbsA 0 rfl).trans (zL ag rfl ah)
   clear hbsA hdpA
   refine zG (zC hNA rfl o) ?_
   exact obR_end rfl rfl (grown_refl _ _)
  ·
   intro aA wA cA hNA hRA hckA hOA hbsA hdpA
   have aW := (hbsA 10 rfl).trans (zL ag rfl aj)
   clear hbsA hdpA
   refine zG (zC hNA rfl aW) ?_
   exact obR_end rfl rfl (grown_refl _ _)
  ·
   intro aA wA cA hNA hRA hckA hOA hbsA hdpA
   have o := (hbsA 0 rfl).trans (zL ag rfl ah)
   clear hbsA hdpA
   refine zG (zC hNA rfl o) ?_
   exact obR_end rfl rfl (grown_refl _ _)
  ·
   intro aA wA cA hNA hRA hckA hOA hbsA hdpA
   have aW := (hbsA 10 rfl).trans (zL ag rfl aj)
   clear hbsA hdpA
   refine zG (zC hNA rfl aW) ?_
   exact obR_end rfl rfl (grown_refl _ _)
  ·
   intro aA wA cA hNA hRA hckA hOA hbsA hdpA
   have aX : Sl aA 69 v := hdpA 4 _ 69 zy rfl rfl
   have aY : Sl aA 70 (.int .i64 ((j2 : Nat) : Int)) := hdpA 5 _ 70 zy rfl rfl
   clear hbsA hdpA
   refine op_index_own (i := j2) slt45 (zC hNA rfl aX) hOA (zC hNA rfl aY) zx zx ?_
   intro b_ o_ _ hA_
   exact obR_end rfl ⟨b_, o_, rfl, by simpa using hA_⟩ (grown_refl _ _)
  ·
   intro aA wA cA hNA hRA hckA hOA hbsA hdpA
   obtain ⟨a2, a1, aZ, a0⟩ := hdpA 6 _ 71 zy rfl rfl
   clear hbsA hdpA
   obtain rfl : cA = 0 := Nat.le_zero.1 (hckA 0 13 rfl zy)
   have hOA : Own wA base 46 1 v n (dk.toList.map u16v) := hOA
   refine zN (v := (Value.int .u16 (dk[j2]!.toNat : Int))) one46 (zC hNA rfl aZ) (by have := hOA.cellAt a0 0 _ (el_at (i := j2) (by first | omega | (simp only [Array.size_setIfInBounds, swp_sz, siftDown_size]; omega))); simpa using this) ?_
   exact obR_end rfl rfl (grown_refl _ _)
  ·
   intro aA wA cA hNA hRA hckA hOA hbsA hdpA
   have o := (hbsA 0 rfl).trans (zL ag rfl ah)
   clear hbsA hdpA
   refine zG (zC hNA rfl o) ?_
   exact obR_end rfl rfl (grown_refl _ _)
  ·
   intro aA wA cA hNA hRA hckA hOA hbsA hdpA
   have aV := (hbsA 9 rfl).trans (zL ag rfl ai)
   clear hbsA hdpA
   refine zG (zC hNA rfl aV) ?_
   exact obR_end rfl rfl (grown_refl _ _)
  ·
   intro aA wA cA hNA hRA hckA hOA hbsA hdpA
   have a3 : Sl aA 73 v := hdpA 8 _ 73 zy rfl rfl
   have a4 : Sl aA 74 (.int .i64 ((T : Nat) : Int)) := hdpA 9 _ 74 zy rfl rfl
   clear hbsA hdpA
   refine op_index_own (i := T) slt45 (zC hNA rfl a3) hOA (zC hNA rfl a4) zx zx ?_
   intro b_ o_ _ hA_
   exact obR_end rfl ⟨b_, o_, rfl, by simpa using hA_⟩ (grown_refl _ _)
  ·
   intro aA wA cA hNA hRA hckA hOA hbsA hdpA
   obtain ⟨a7, a8, a5, a6⟩ := hdpA 10 _ 75 zy rfl rfl
   clear hbsA hdpA
   obtain rfl : cA = 0 := Nat.le_zero.1 (hckA 0 13 rfl zy)
   have hOA : Own wA base 46 1 v n (dk.toList.map u16v) := hOA
   refine zN (v := (Value.int .u16 (dk[T]!.toNat : Int))) one46 (zC hNA rfl a5) (by have := hOA.cellAt a6 0 _ (el_at (i := T) (by first | omega | (simp only [Array.size_setIfInBounds, swp_sz, siftDown_size]; omega))); simpa using this) ?_
   exact obR_end rfl rfl (grown_refl _ _)
  ·
   intro aA wA cA hNA hRA hckA hOA hbsA hdpA
   have a9 : Sl aA 65 v := hdpA 0 _ 65 zy rfl rfl
   have ba : Sl aA 66 (.int .i64 ((T : Nat) : Int)) := hdpA 1 _ 66 zy rfl rfl
   clear hbsA hdpA
   refine op_index_own (i := T) slt45 (zC hNA rfl a9) hOA (zC hNA rfl ba) zx zx ?_
   intro b_ o_ _ hA_
   exact obR_end rfl ⟨b_, o_, rfl, by simpa using hA_⟩ (grown_refl _ _)
  ·
   intro aA wA cA hNA hRA hckA hOA hbsA hdpA
   have bb : Sl aA 67 v := hdpA 2 _ 67 zy rfl rfl
   have bc : Sl aA 68 (.int .i64 ((j2 : Nat) : Int)) := hdpA 3 _ 68 zy rfl rfl
   clear hbsA hdpA
   refine op_index_own (i := j2) slt45 (zC hNA rfl bb) hOA (zC hNA rfl bc) zx zx ?_
   intro b_ o_ _ hA_
   exact obR_end rfl ⟨b_, o_, rfl, by simpa using hA_⟩ (grown_refl _ _)
  ·
   intro o_ ho_; obtain rfl := zE ho_; intro aA wA hNA hRA hbsA hdpA hOA
   obtain ⟨bg, bf, be, bd⟩ := hdpA 12 _ 77 zy rfl rfl
   have bh : Sl aA 72 (.int .u16 (dk[j2]!.toNat : Int)) := hdpA 7 _ 72 zy rfl rfl
   clear hbsA hdpA
   have hOA : Own wA base 46 1 v n (dk.toList.map u16v) := hOA
   refine op_store_own (vs := [(.int .u16 (dk[j2]!.toNat : Int))]) size46 (zC hNA rfl be) (zC hNA rfl bh) rfl rfl rfl hOA bd (by have := hOA.1; simp at this ⊢; omega) ?_
   intro w_ hO_ E_
   exact obW_end rfl (hO_.cast rfl (set_arr (by first | omega | (simp only [Array.size_setIfInBounds, swp_sz, siftDown_size]; omega)))) E_
  ·
   intro o_ ho_; obtain rfl := zE ho_; intro aA wA hNA hRA hbsA hdpA hOA
   obtain ⟨bk, bl, bj, bi⟩ := hdpA 14 _ 78 zy rfl rfl
   have bm : Sl aA 76 (.int .u16 (dk[T]!.toNat : Int)) := hdpA 11 _ 76 zy rfl rfl
   clear hbsA hdpA
   have hOA : Own wA base 46 1 v n ((dk.setIfInBounds T dk[j2]!).toList.map u16v) := hOA
   refine op_store_own (vs := [(.int .u16 (dk[T]!.toNat : Int))]) size46 (zC hNA rfl bj) (zC hNA rfl bm) rfl rfl rfl hOA bi (by have := hOA.1; simp at this ⊢; omega) ?_
   intro w_ hO_ E_
   exact obW_end rfl (hO_.cast rfl (set_arr (by first | omega | (simp only [Array.size_setIfInBounds, swp_sz, siftDown_size]; omega)))) E_
  intro aQ aO aJ aL aK aP aM aN
  have aL := aL.trans ak
  have aR := (aK 0 rfl).trans (zL ag rfl ah)
  have bn := (aK 1 rfl).trans (zL ag rfl al)
  have bo := (aK 8 rfl).trans (zL ag rfl am)
  have bp := (aK 9 rfl).trans (zL ag rfl ai)
  have bq := (aK 10 rfl).trans (zL ag rfl aj)
  clear aK aP
  have aM : Own aO base 46 1 v n (((dk.setIfInBounds T dk[j2]!).setIfInBounds j2 dk[T]!).toList.map u16v) := aM
  have := aN.size
  have hb := grow_stepX hb aN rfl
  refine U _ _ (zF fun _ U => zH ?_)
  refine zG (zC aJ rfl bp) (op_add (zA aJ rfl) rfl (add64 zx) (zD (zA aJ rfl) (zB (U _ _ (zH (zG (zC aJ rfl bq) (op_sub (zA aJ rfl) rfl (sub64 zx) (zD (zA aJ rfl) (zB (blk_normal ?_))))))))))
  -- round 31F 48T 59F 64F
  have aU : scanDown (fun x => ltT dk[a]! x) dk T jj = j2 := av.trans (scanDown_stop (.inr aS))
  have hne : T ≠ j2 := by first | omega | (intro hh; subst hh; rw [aS] at ao; simp at ao)
  exact zg _ aJ aL ⟨(T + 1), (j2 - 1), _, rfl, (zL aJ rfl aR), (zL aJ rfl bn), (zL aJ rfl bo), (zU aJ rfl).trans (congrArg (Value.int .i64) zx), (zU aJ rfl).trans (congrArg (Value.int .i64) zx), (by first | assumption | (simp only [Array.size_setIfInBounds, swp_sz, siftDown_size]; assumption)), zx, (hs.trans (pe_go ap aU zx)), hb, zx, aM⟩ zx
 refine st_step rfl (fun _ h9 => op_cmp (b := false) (zA ag rfl) (zA ag rfl) (b_leq (decide_eq_false aH)) h9) (st_step rfl (fun _ h9 => zG (zA ag rfl) h9) (st_g_false (j := 3) (dj := 49) (b := true) rfl rfl rfl (zA ag rfl) rfl rfl (st_g_false (j := 3) (dj := 49) (b := true) rfl rfl rfl (zA ag rfl) rfl rfl (st_g_false (j := 3) (dj := 49) (b := true) rfl rfl rfl (zA ag rfl) rfl rfl (st_g_false (j := 3) (dj := 49) (b := true) rfl rfl rfl (zA ag rfl) rfl rfl (st_g_false (j := 3) (dj := 49) (b := true) rfl rfl rfl (zA ag rfl) rfl rfl (st_g_false (j := 3) (dj := 49) (b := true) rfl rfl rfl (zA ag rfl) rfl rfl (st_g_false (j := 3) (dj := 49) (b := true) rfl rfl rfl (zA ag rfl) rfl rfl (st_g_false (j := 3) (dj := 49) (b := true) rfl rfl rfl (zA ag rfl) rfl rfl ?_)))))))))
 refine st_g_false (j := 3) (dj := 49) (b := true) rfl rfl rfl (zA ag rfl) rfl rfl (st_step rfl (fun _ h9 => zd (zA ag rfl) rfl h9) (st_nil (J3 _ _ (wp_cond_false (zA ag rfl) (wp_exit (then_exit (then_exit (blk_hit (U _ _ (zF fun _ U => zF fun _ J2 => zH (zG (zC ag rfl ai) (zG (zC ag rfl aj) (op_gtr (zA ag rfl) (zA ag rfl) (fun aT => ?_) (fun aT => ?_))))))))))))))
 ·
  refine zB (J2 _ _ (wp_cond_true (zA ag rfl) (wp_exit (then_exit (blk_miss zz (then_exit (blk_hit (m _ _ (zF fun _ m => zH (zG (zC ag rfl ai) (zD (zA ag rfl) (zB (m _ _ (wp_ret (ret1 rfl ak (zA ag rfl) ⟨_, rfl, ?_⟩)))))))))))))))
  have aU : scanDown (fun x => ltT dk[a]! x) dk T jj = j2 := av.trans (scanDown_stop (.inl zx))
  have hq : partitionEqual ltT d a b pv = (T, dk) := hs.trans (pe_stop ap aU zx)
  exact ⟨hb, by first | (rw [hq]; done) | (rw [hq]; rfl), F.cast rfl (by rw [hq])⟩
 refine zB (J2 _ _ (wp_cond_false (zA ag rfl) (wp_skip (U _ _ (zF fun _ U => reg_mid (e := 46) (sz := 1) (base := base) (n := n) (v := v) (Φ := phiL [(fun uz _ => uz = v), (fun uz _ => uz = (.int .i64 ((T : Nat) : Int))), (fun uz _ => uz = v), (fun uz _ => uz = (.int .i64 ((j2 : Nat) : Int))), (fun uz _ => uz = v), (fun uz _ => uz = (.int .i64 ((j2 : Nat) : Int))), (fun uz _ => ∃ bz oz, uz = ptr bz oz ∧ AtV v j2 bz oz), (fun uz _ => uz = (.int .u16 (dk[j2]!.toNat : Int))), (fun uz _ => uz = v), (fun uz _ => uz = (.int .i64 ((T : Nat) : Int))), (fun uz _ => ∃ bz oz, uz = ptr bz oz ∧ AtV v T bz oz), (fun uz _ => uz = (.int .u16 (dk[T]!.toNat : Int))), (fun uz _ => ∃ bz oz, uz = ptr bz oz ∧ AtV v T bz oz), (fun _ _ => True), (fun uz _ => ∃ bz oz, uz = ptr bz oz ∧ AtV v j2 bz oz), (fun _ _ => True)]) [13, 15] [(dk.toList.map u16v), ((dk.setIfInBounds T dk[j2]!).toList.map u16v), (((dk.setIfInBounds T dk[j2]!).setIfInBounds j2 dk[T]!).toList.map u16v)] mixed zy zy zy zy ag F (StL.get (StL.eq (StL.eq (StL.eq (StL.eq (StL.eq (StL.eq (StL.at (StL.eq (StL.eq (StL.eq (StL.at (StL.eq (StL.at (StL.cons (fun _ _ _ _ h => h) (StL.at (StL.cons (fun _ _ _ _ h => h) (StL.nil _)))))))))))))))))) (ObRs.get (ObRs.cons ?_ (ObRs.cons ?_ (ObRs.cons ?_ (ObRs.cons ?_ (ObRs.cons ?_ (ObRs.cons ?_ (ObRs.cons ?_ (ObRs.cons ?_ (ObRs.cons ?_ (ObRs.cons ?_ (ObRs.cons ?_ (ObRs.cons ?_ (ObRs.cons ?_ (ObRs.pass rfl (ObRs.cons ?_ (ObRs.pass rfl (ObRs.nil)))))))))))))))))) (ObWs.get (ObWs.cons ?_ (ObWs.cons ?_ (ObWs.nil)))) ?_)))))
 ·
  intro aA wA cA hNA hRA hckA hOA hbsA hdpA
  have o := (hbsA 0 rfl).trans (zL ag rfl ah)
  clear hbsA hdpA
  refine zG (zC hNA rfl o) ?_
  exact obR_end rfl rfl (grown_refl _ _)
 ·
  intro aA wA cA hNA hRA hckA hOA hbsA hdpA
  have aV := (hbsA 9 rfl).trans (zL ag rfl ai)
  clear hbsA hdpA
  refine zG (zC hNA rfl aV) ?_
  exact obR_end rfl rfl (grown_refl _ _)
 ·
  intro aA wA cA hNA hRA hckA hOA hbsA hdpA
  have o := (hbsA 0 rfl).trans (zL ag rfl ah)
  clear hbsA hdpA
  refine zG (zC hNA rfl o) ?_
  exact obR_end rfl rfl (grown_refl _ _)
 ·
  intro aA wA cA hNA hRA hckA hOA hbsA hdpA
  have aW := (hbsA 10 rfl).trans (zL ag rfl aj)
  clear hbsA hdpA
  refine zG (zC hNA rfl aW) ?_
  exact obR_end rfl rfl (grown_refl _ _)
 ·
  intro aA wA cA hNA hRA hckA hOA hbsA hdpA
  have o := (hbsA 0 rfl).trans (zL ag rfl ah)
  clear hbsA hdpA
  refine zG (zC hNA rfl o) ?_
  exact obR_end rfl rfl (grown_refl _ _)
 ·
  intro aA wA cA hNA hRA hckA hOA hbsA hdpA
  have aW := (hbsA 10 rfl).trans (zL ag rfl aj)
  clear hbsA hdpA
  refine zG (zC hNA rfl aW) ?_
  exact obR_end rfl rfl (grown_refl _ _)
 ·
  intro aA wA cA hNA hRA hckA hOA hbsA hdpA
  have aX : Sl aA 69 v := hdpA 4 _ 69 zy rfl rfl
  have aY : Sl aA 70 (.int .i64 ((j2 : Nat) : Int)) := hdpA 5 _ 70 zy rfl rfl
  clear hbsA hdpA
  refine op_index_own (i := j2) slt45 (zC hNA rfl aX) hOA (zC hNA rfl aY) zx zx ?_
  intro b_ o_ _ hA_
  exact obR_end rfl ⟨b_, o_, rfl, by simpa using hA_⟩ (grown_refl _ _)
 ·
  intro aA wA cA hNA hRA hckA hOA hbsA hdpA
  obtain ⟨a2, a1, aZ, a0⟩ := hdpA 6 _ 71 zy rfl rfl
  clear hbsA hdpA
  obtain rfl : cA = 0 := Nat.le_zero.1 (hckA 0 13 rfl zy)
  have hOA : Own wA base 46 1 v n (dk.toList.map u16v) := hOA
  refine zN (v := (Value.int .u16 (dk[j2]!.toNat : Int))) one46 (zC hNA rfl aZ) (by have := hOA.cellAt a0 0 _ (el_at (i := j2) (by first | omega | (simp only [Array.size_setIfInBounds, swp_sz, siftDown_size]; omega))); simpa using this) ?_
  exact obR_end rfl rfl (grown_refl _ _)
 ·
  intro aA wA cA hNA hRA hckA hOA hbsA hdpA
  have o := (hbsA 0 rfl).trans (zL ag rfl ah)
  clear hbsA hdpA
  refine zG (zC hNA rfl o) ?_
  exact obR_end rfl rfl (grown_refl _ _)
 ·
  intro aA wA cA hNA hRA hckA hOA hbsA hdpA
  have aV := (hbsA 9 rfl).trans (zL ag rfl ai)
  clear hbsA hdpA
  refine zG (zC hNA rfl aV) ?_
  exact obR_end rfl rfl (grown_refl _ _)
 ·
  intro aA wA cA hNA hRA hckA hOA hbsA hdpA
  have a3 : Sl aA 73 v := hdpA 8 _ 73 zy rfl rfl
  have a4 : Sl aA 74 (.int .i64 ((T : Nat) : Int)) := hdpA 9 _ 74 zy rfl rfl
  clear hbsA hdpA
  refine op_index_own (i := T) slt45 (zC hNA rfl a3) hOA (zC hNA rfl a4) zx zx ?_
  intro b_ o_ _ hA_
  exact obR_end rfl ⟨b_, o_, rfl, by simpa using hA_⟩ (grown_refl _ _)
 ·
  intro aA wA cA hNA hRA hckA hOA hbsA hdpA
  obtain ⟨a7, a8, a5, a6⟩ := hdpA 10 _ 75 zy rfl rfl
  clear hbsA hdpA
  obtain rfl : cA = 0 := Nat.le_zero.1 (hckA 0 13 rfl zy)
  have hOA : Own wA base 46 1 v n (dk.toList.map u16v) := hOA
  refine zN (v := (Value.int .u16 (dk[T]!.toNat : Int))) one46 (zC hNA rfl a5) (by have := hOA.cellAt a6 0 _ (el_at (i := T) (by first | omega | (simp only [Array.size_setIfInBounds, swp_sz, siftDown_size]; omega))); simpa using this) ?_
  exact obR_end rfl rfl (grown_refl _ _)
 ·
  intro aA wA cA hNA hRA hckA hOA hbsA hdpA
  have a9 : Sl aA 65 v := hdpA 0 _ 65 zy rfl rfl
  have ba : Sl aA 66 (.int .i64 ((T : Nat) : Int)) := hdpA 1 _ 66 zy rfl rfl
  clear hbsA hdpA
  refine op_index_own (i := T) slt45 (zC hNA rfl a9) hOA (zC hNA rfl ba) zx zx ?_
  intro b_ o_ _ hA_
  exact obR_end rfl ⟨b_, o_, rfl, by simpa using hA_⟩ (grown_refl _ _)
 ·
  intro aA wA cA hNA hRA hckA hOA hbsA hdpA
  have bb : Sl aA 67 v := hdpA 2 _ 67 zy rfl rfl
  have bc : Sl aA 68 (.int .i64 ((j2 : Nat) : Int)) := hdpA 3 _ 68 zy rfl rfl
  clear hbsA hdpA
  refine op_index_own (i := j2) slt45 (zC hNA rfl bb) hOA (zC hNA rfl bc) zx zx ?_
  intro b_ o_ _ hA_
  exact obR_end rfl ⟨b_, o_, rfl, by simpa using hA_⟩ (grown_refl _ _)
 ·
  intro o_ ho_; obtain rfl := zE ho_; intro aA wA hNA hRA hbsA hdpA hOA
  obtain ⟨bg, bf, be, bd⟩ := hdpA 12 _ 77 zy rfl rfl
  have bh : Sl aA 72 (.int .u16 (dk[j2]!.toNat : Int)) := hdpA 7 _ 72 zy rfl rfl
  clear hbsA hdpA
  have hOA : Own wA base 46 1 v n (dk.toList.map u16v) := hOA
  refine op_store_own (vs := [(.int .u16 (dk[j2]!.toNat : Int))]) size46 (zC hNA rfl be) (zC hNA rfl bh) rfl rfl rfl hOA bd (by have := hOA.1; simp at this ⊢; omega) ?_
  intro w_ hO_ E_
  exact obW_end rfl (hO_.cast rfl (set_arr (by first | omega | (simp only [Array.size_setIfInBounds, swp_sz, siftDown_size]; omega)))) E_
 ·
  intro o_ ho_; obtain rfl := zE ho_; intro aA wA hNA hRA hbsA hdpA hOA
  obtain ⟨bk, bl, bj, bi⟩ := hdpA 14 _ 78 zy rfl rfl
  have bm : Sl aA 76 (.int .u16 (dk[T]!.toNat : Int)) := hdpA 11 _ 76 zy rfl rfl
  clear hbsA hdpA
  have hOA : Own wA base 46 1 v n ((dk.setIfInBounds T dk[j2]!).toList.map u16v) := hOA
  refine op_store_own (vs := [(.int .u16 (dk[T]!.toNat : Int))]) size46 (zC hNA rfl bj) (zC hNA rfl bm) rfl rfl rfl hOA bi (by have := hOA.1; simp at this ⊢; omega) ?_
  intro w_ hO_ E_
  exact obW_end rfl (hO_.cast rfl (set_arr (by first | omega | (simp only [Array.size_setIfInBounds, swp_sz, siftDown_size]; omega)))) E_
 intro aE aD o ay ax aC az aB
 have ay := ay.trans ak
 have aF := (ax 0 rfl).trans (zL ag rfl ah)
 have aG := (ax 1 rfl).trans (zL ag rfl al)
 have aH := (ax 8 rfl).trans (zL ag rfl am)
 have aI := (ax 9 rfl).trans (zL ag rfl ai)
 have aJ := (ax 10 rfl).trans (zL ag rfl aj)
 clear ax aC
 have az : Own aD base 46 1 v n (((dk.setIfInBounds T dk[j2]!).setIfInBounds j2 dk[T]!).toList.map u16v) := az
 have := aB.size
 have hb := grow_stepX hb aB rfl
 refine U _ _ (zF fun _ U => zH ?_)
 refine zG (zC o rfl aI) (op_add (zA o rfl) rfl (add64 zx) (zD (zA o rfl) (zB (U _ _ (zH (zG (zC o rfl aJ) (op_sub (zA o rfl) rfl (sub64 zx) (zD (zA o rfl) (zB (blk_normal ?_))))))))))
 -- round 31F 48F 64F
 have aU : scanDown (fun x => ltT dk[a]! x) dk T jj = j2 := av.trans (scanDown_stop (.inl zx))
 have hne : T ≠ j2 := by first | omega | (intro hh; subst hh; rw [aS] at ao; simp at ao)
 exact zg _ o ay ⟨(T + 1), (j2 - 1), _, rfl, (zL o rfl aF), (zL o rfl aG), (zL o rfl aH), (zU o rfl).trans (congrArg (Value.int .i64) zx), (zU o rfl).trans (congrArg (Value.int .i64) zx), (by first | assumption | (simp only [Array.size_setIfInBounds, swp_sz, siftDown_size]; assumption)), zx, (hs.trans (pe_go ap aU zx)), hb, zx, az⟩ zx
open Go.Sort (insertionSort insOuter insInner swp siftDown heapSort heapBuild heapPop scanUp scanDown partition partLoop partitionEqual partEqLoop scanSorted partialIns bitsLen partialInsertionSort shiftDown shiftUp SortedIn reverseRange reverseLoop fixDown fixUp)
set_option maxHeartbeats 2000000 in
theorem partW_ret (d : Ar) (v : Value) (n base : Nat) (a b pv : Nat) (w : World) (hd : d.size = n) (hn : n ≤ 4000000000000000000) (O : Own w base 46 1 v n (d.toList.map u16v)) (hap : a ≤ pv) (hpb : pv < b) (hbn : b ≤ n) : Ret Try.prog 161 #[v, (.int .i64 ((a : Nat) : Int)), (.int .i64 ((b : Nat) : Int)), (.int .i64 ((pv : Nat) : Int))] w (fun v' w' => w.grownBy w' v.ownBlock ∧ v' = .tuple #[.int .i64 ((partition ltT d a b pv).1 : Int), .bool (partition ltT d a b pv).2.1] ∧ Own w' base 46 1 v n ((partition ltT d a b pv).2.2.toList.map u16v)) := by
 have hb := grown_refl w v.ownBlock
 refine enter (N := 168) Try.func161 rfl rfl (by simp) fun c hN hd hA => ?_
 have f : c.tmps.getD 0 undef = v := hA 0 (by simp)
 have g : c.tmps.getD 1 undef = (.int .i64 ((a : Nat) : Int)) := hA 1 (by simp)
 have k : c.tmps.getD 2 undef = (.int .i64 ((b : Nat) : Int)) := hA 2 (by simp)
 have l : c.tmps.getD 3 undef = (.int .i64 ((pv : Nat) : Int)) := hA 3 (by simp)
 clear hA
 refine zF fun _ m => zH (zD rfl (zD rfl (zB (m _ _ (zF fun _ m => reg_mid (e := 46) (sz := 1) (base := base) (n := n) (v := v) (Φ := phiL [(fun uz _ => uz = v), (fun uz _ => uz = (.int .i64 ((a : Nat) : Int))), (fun uz _ => uz = v), (fun uz _ => uz = (.int .i64 ((pv : Nat) : Int))), (fun uz _ => uz = v), (fun uz _ => uz = (.int .i64 ((pv : Nat) : Int))), (fun uz _ => ∃ bz oz, uz = ptr bz oz ∧ AtV v pv bz oz), (fun uz _ => uz = (.int .u16 (d[pv]!.toNat : Int))), (fun uz _ => uz = v), (fun uz _ => uz = (.int .i64 ((a : Nat) : Int))), (fun uz _ => ∃ bz oz, uz = ptr bz oz ∧ AtV v a bz oz), (fun uz _ => uz = (.int .u16 (d[a]!.toNat : Int))), (fun uz _ => ∃ bz oz, uz = ptr bz oz ∧ AtV v a bz oz), (fun _ _ => True), (fun uz _ => ∃ bz oz, uz = ptr bz oz ∧ AtV v pv bz oz), (fun _ _ => True)]) [13, 15] [(d.toList.map u16v), ((d.setIfInBounds a d[pv]!).toList.map u16v), (((d.setIfInBounds a d[pv]!).setIfInBounds pv d[a]!).toList.map u16v)] mixed zy zy zy zy hN O (StL.get (StL.eq (StL.eq (StL.eq (StL.eq (StL.eq (StL.eq (StL.at (StL.eq (StL.eq (StL.eq (StL.at (StL.eq (StL.at (StL.cons (fun _ _ _ _ h => h) (StL.at (StL.cons (fun _ _ _ _ h => h) (StL.nil _)))))))))))))))))) (ObRs.get (ObRs.cons ?_ (ObRs.cons ?_ (ObRs.cons ?_ (ObRs.cons ?_ (ObRs.cons ?_ (ObRs.cons ?_ (ObRs.cons ?_ (ObRs.cons ?_ (ObRs.cons ?_ (ObRs.cons ?_ (ObRs.cons ?_ (ObRs.cons ?_ (ObRs.cons ?_ (ObRs.pass rfl (ObRs.cons ?_ (ObRs.pass rfl (ObRs.nil)))))))))))))))))) (ObWs.get (ObWs.cons ?_ (ObWs.cons ?_ (ObWs.nil)))) ?_)))))
 ·
  intro aA wA cA hNA hRA hckA hOA hbsA hdpA
  have o := (hbsA 0 rfl).trans (zL hN rfl f)
  clear hbsA hdpA
  refine zG (zC hNA rfl o) ?_
  exact obR_end rfl rfl (grown_refl _ _)
 ·
  intro aA wA cA hNA hRA hckA hOA hbsA hdpA
  have p := (hbsA 1 rfl).trans (zL hN rfl g)
  clear hbsA hdpA
  refine zG (zC hNA rfl p) ?_
  exact obR_end rfl rfl (grown_refl _ _)
 ·
  intro aA wA cA hNA hRA hckA hOA hbsA hdpA
  have o := (hbsA 0 rfl).trans (zL hN rfl f)
  clear hbsA hdpA
  refine zG (zC hNA rfl o) ?_
  exact obR_end rfl rfl (grown_refl _ _)
 ·
  intro aA wA cA hNA hRA hckA hOA hbsA hdpA
  have q := (hbsA 3 rfl).trans (zL hN rfl l)
  clear hbsA hdpA
  refine zG (zC hNA rfl q) ?_
  exact obR_end rfl rfl (grown_refl _ _)
 ·
  intro aA wA cA hNA hRA hckA hOA hbsA hdpA
  have o := (hbsA 0 rfl).trans (zL hN rfl f)
  clear hbsA hdpA
  refine zG (zC hNA rfl o) ?_
  exact obR_end rfl rfl (grown_refl _ _)
 ·
  intro aA wA cA hNA hRA hckA hOA hbsA hdpA
  have q := (hbsA 3 rfl).trans (zL hN rfl l)
  clear hbsA hdpA
  refine zG (zC hNA rfl q) ?_
  exact obR_end rfl rfl (grown_refl _ _)
 ·
  intro aA wA cA hNA hRA hckA hOA hbsA hdpA
  have q : Sl aA 16 v := hdpA 4 _ 16 zy rfl rfl
  have s : Sl aA 17 (.int .i64 ((pv : Nat) : Int)) := hdpA 5 _ 17 zy rfl rfl
  clear hbsA hdpA
  refine op_index_own (i := pv) slt45 (zC hNA rfl q) hOA (zC hNA rfl s) zx zx ?_
  intro b_ o_ _ hA_
  exact obR_end rfl ⟨b_, o_, rfl, by simpa using hA_⟩ (grown_refl _ _)
 ·
  intro aA wA cA hNA hRA hckA hOA hbsA hdpA
  obtain ⟨u, t, q, s⟩ := hdpA 6 _ 18 zy rfl rfl
  clear hbsA hdpA
  obtain rfl : cA = 0 := Nat.le_zero.1 (hckA 0 13 rfl zy)
  have hOA : Own wA base 46 1 v n (d.toList.map u16v) := hOA
  refine zN (v := (Value.int .u16 (d[pv]!.toNat : Int))) one46 (zC hNA rfl q) (by have := hOA.cellAt s 0 _ (el_at (i := pv) (by first | omega | (simp only [Array.size_setIfInBounds, swp_sz, siftDown_size]; omega))); simpa using this) ?_
  exact obR_end rfl rfl (grown_refl _ _)
 ·
  intro aA wA cA hNA hRA hckA hOA hbsA hdpA
  have o := (hbsA 0 rfl).trans (zL hN rfl f)
  clear hbsA hdpA
  refine zG (zC hNA rfl o) ?_
  exact obR_end rfl rfl (grown_refl _ _)
 ·
  intro aA wA cA hNA hRA hckA hOA hbsA hdpA
  have p := (hbsA 1 rfl).trans (zL hN rfl g)
  clear hbsA hdpA
  refine zG (zC hNA rfl p) ?_
  exact obR_end rfl rfl (grown_refl _ _)
 ·
  intro aA wA cA hNA hRA hckA hOA hbsA hdpA
  have q : Sl aA 20 v := hdpA 8 _ 20 zy rfl rfl
  have s : Sl aA 21 (.int .i64 ((a : Nat) : Int)) := hdpA 9 _ 21 zy rfl rfl
  clear hbsA hdpA
  refine op_index_own (i := a) slt45 (zC hNA rfl q) hOA (zC hNA rfl s) zx zx ?_
  intro b_ o_ _ hA_
  exact obR_end rfl ⟨b_, o_, rfl, by simpa using hA_⟩ (grown_refl _ _)
 ·
  intro aA wA cA hNA hRA hckA hOA hbsA hdpA
  obtain ⟨u, t, q, s⟩ := hdpA 10 _ 22 zy rfl rfl
  clear hbsA hdpA
  obtain rfl : cA = 0 := Nat.le_zero.1 (hckA 0 13 rfl zy)
  have hOA : Own wA base 46 1 v n (d.toList.map u16v) := hOA
  refine zN (v := (Value.int .u16 (d[a]!.toNat : Int))) one46 (zC hNA rfl q) (by have := hOA.cellAt s 0 _ (el_at (i := a) (by first | omega | (simp only [Array.size_setIfInBounds, swp_sz, siftDown_size]; omega))); simpa using this) ?_
  exact obR_end rfl rfl (grown_refl _ _)
 ·
  intro aA wA cA hNA hRA hckA hOA hbsA hdpA
  have q : Sl aA 12 v := hdpA 0 _ 12 zy rfl rfl
  have s : Sl aA 13 (.int .i64 ((a : Nat) : Int)) := hdpA 1 _ 13 zy rfl rfl
  clear hbsA hdpA
  refine op_index_own (i := a) slt45 (zC hNA rfl q) hOA (zC hNA rfl s) zx zx ?_
  intro b_ o_ _ hA_
  exact obR_end rfl ⟨b_, o_, rfl, by simpa using hA_⟩ (grown_refl _ _)
 ·
  intro aA wA cA hNA hRA hckA hOA hbsA hdpA
  have q : Sl aA 14 v := hdpA 2 _ 14 zy rfl rfl
  have s : Sl aA 15 (.int .i64 ((pv : Nat) : Int)) := hdpA 3 _ 15 zy rfl rfl
  clear hbsA hdpA
  refine op_index_own (i := pv) slt45 (zC hNA rfl q) hOA (zC hNA rfl s) zx zx ?_
  intro b_ o_ _ hA_
  exact obR_end rfl ⟨b_, o_, rfl, by simpa using hA_⟩ (grown_refl _ _)
 ·
  intro o_ ho_; obtain rfl := zE ho_; intro aA wA hNA hRA hbsA hdpA hOA
  obtain ⟨u, t, q, s⟩ := hdpA 12 _ 24 zy rfl rfl
  have t : Sl aA 19 (.int .u16 (d[pv]!.toNat : Int)) := hdpA 7 _ 19 zy rfl rfl
  clear hbsA hdpA
  have hOA : Own wA base 46 1 v n (d.toList.map u16v) := hOA
  refine op_store_own (vs := [(.int .u16 (d[pv]!.toNat : Int))]) size46 (zC hNA rfl q) (zC hNA rfl t) rfl rfl rfl hOA s (by have := hOA.1; simp at this ⊢; omega) ?_
  intro w_ hO_ E_
  exact obW_end rfl (hO_.cast rfl (set_arr (by first | omega | (simp only [Array.size_setIfInBounds, swp_sz, siftDown_size]; omega)))) E_
 ·
  intro o_ ho_; obtain rfl := zE ho_; intro aA wA hNA hRA hbsA hdpA hOA
  obtain ⟨u, t, s, q⟩ := hdpA 14 _ 25 zy rfl rfl
  have t : Sl aA 23 (.int .u16 (d[a]!.toNat : Int)) := hdpA 11 _ 23 zy rfl rfl
  clear hbsA hdpA
  have hOA : Own wA base 46 1 v n ((d.setIfInBounds a d[pv]!).toList.map u16v) := hOA
  refine op_store_own (vs := [(.int .u16 (d[a]!.toNat : Int))]) size46 (zC hNA rfl s) (zC hNA rfl t) rfl rfl rfl hOA q (by have := hOA.1; simp at this ⊢; omega) ?_
  intro w_ hO_ E_
  exact obW_end rfl (hO_.cast rfl (set_arr (by first | omega | (simp only [Array.size_setIfInBounds, swp_sz, siftDown_size]; omega)))) E_
 intro B z q s t A u y
 have s := s.trans hd
 have C := (t 0 rfl).trans (zL hN rfl f)
 have D := (t 1 rfl).trans (zL hN rfl g)
 have E := (t 2 rfl).trans (zL hN rfl k)
 have F := (t 8 rfl).trans (zU hN rfl)
 have G := (t 9 rfl).trans (zU hN rfl)
 clear t A
 have u : Own z base 46 1 v n (((d.setIfInBounds a d[pv]!).setIfInBounds pv d[a]!).toList.map u16v) := u
 have := y.size
 have hb := grow_stepX hb y rfl
 refine m _ _ (seq_join1 (N := 168) (fun az_ w' => ∃ (H : Ar), (Sl az_ 0 v) ∧ (Sl az_ 1 (.int .i64 ((a : Nat) : Int))) ∧ (Sl az_ 8 (.int .i64 0)) ∧ (Sl az_ 9 (.bool false)) ∧ (Sl az_ 10 (.int .i64 (((a : Nat) : Int) + 1))) ∧ (Sl az_ 11 (.int .i64 (((b - 1) : Nat) : Int))) ∧ (H = swp d a pv) ∧ (H.size = n) ∧ (w.grownBy w' v.ownBlock) ∧ (z.heap.size ≤ w'.heap.size) ∧ (Own w' base 46 1 v n (H.toList.map u16v))) (fun I => ?_) ?_)
 ·
  refine zF fun _ m => zH (zG (zC q rfl D) (op_add (zA q rfl) rfl (add64 zx) (zG (zC q rfl E) (op_sub (r := ((b - 1 : Nat) : Int)) (zA q rfl) rfl (by rw [IntKind.wrap_i64]; omega) (zD (zA q rfl) (zD (zA q rfl) (zB (m _ _ ?_))))))))
  exact I _ _ _ q s ⟨_, (zL q rfl C), (zL q rfl D), (zL q rfl F), (zL q rfl G), (zU q rfl), (zU q rfl), rfl, (by first | assumption | (simp only [Array.size_setIfInBounds, swp_sz, siftDown_size]; assumption)), hb, zx, u⟩
 rintro W L K S ⟨H, T, M, Q, R, P, U, s, X, hb, V, J⟩
 have := hb.size
 refine seq_join1 (N := 168) (fun az_ w' => ∃ (Y : Nat), (Sl az_ 0 v) ∧ (Sl az_ 1 (.int .i64 ((a : Nat) : Int))) ∧ (Sl az_ 8 (.int .i64 0)) ∧ (Sl az_ 9 (.bool false)) ∧ (Sl az_ 11 (.int .i64 (((b - 1) : Nat) : Int))) ∧ (Sl az_ 10 (.int .i64 ((Y : Nat) : Int))) ∧ (a + 1 ≤ Y ∧ Y ≤ b) ∧ (scanUp (fun x => ltT x H[a]!) H (b - 1) (a + 1) = Y) ∧ (Y ≤ b - 1 → ltT H[Y]! H[a]! = false) ∧ (w.grownBy w' v.ownBlock) ∧ (L.heap.size ≤ w'.heap.size) ∧ (Own w' base 46 1 v n (H.toList.map u16v))) (fun Z => ?_) ?_
 ·
  refine zF fun _ m => wp_block (loop_m (fun mz_ az_ w' => ∃ (Y : Nat), mz_ = (b + 1 - Y) ∧ (Sl az_ 0 v) ∧ (Sl az_ 1 (.int .i64 ((a : Nat) : Int))) ∧ (Sl az_ 8 (.int .i64 0)) ∧ (Sl az_ 9 (.bool false)) ∧ (Sl az_ 11 (.int .i64 (((b - 1) : Nat) : Int))) ∧ (Sl az_ 10 (.int .i64 ((Y : Nat) : Int))) ∧ (a + 1 ≤ Y ∧ Y ≤ b) ∧ (scanUp (fun x => ltT x H[a]!) H (b - 1) (a + 1) = scanUp (fun x => ltT x H[a]!) H (b - 1) Y) ∧ (w.grownBy w' v.ownBlock) ∧ (L.heap.size ≤ w'.heap.size) ∧ (Own w' base 46 1 v n (H.toList.map u16v))) _ K S ⟨(a + 1), rfl, (zL K rfl T), (zL K rfl M), (zL K rfl Q), (zL K rfl R), (zL K rfl U), (zL K rfl P).trans (congrArg (Value.int .i64) zx), zx, rfl, hb, (Nat.le_refl _), J⟩ ?_)
  rintro _ a5 w5 aa ag ⟨Y, rfl, ac, ad, ai, af, ae, ab, aj, ah, hb, ak, J⟩
  have := hb.size
  refine zF fun _ J1 => zF fun _ J2 => reg_still mixed zy ?_
  intro w7 E6
  have := E6.size
  have J := J.keep0 E6
  have hb := grow_step0 hb E6
  refine st_step rfl (fun _ h9 => zG (zC aa rfl ab) h9) (st_step rfl (fun _ h9 => zG (zC aa rfl ae) h9) ?_)
  by_cases ak : ((Y : Nat) : Int) ≤ (((b - 1) : Nat) : Int)
  ·
   refine st_step rfl (fun _ h9 => op_cmp (b := true) (zA aa rfl) (zA aa rfl) (b_leq (decide_eq_true ak)) h9) (st_step rfl (fun _ h9 => zG (zA aa rfl) h9) (st_g_true (j := 3) (dj := 33) (b := true) rfl rfl rfl (zA aa rfl) (st_step rfl (fun _ h9 => zG (zC aa rfl ac) h9) (st_g_true (j := 3) (dj := 33) (b := true) rfl rfl rfl (zA aa rfl) (st_step rfl (fun _ h9 => zG (zC aa rfl ab) h9) (st_g_true (j := 3) (dj := 33) (b := true) rfl rfl rfl (zA aa rfl) (st_index_rd slt45 (zA aa rfl) J.rdw (zA aa rfl) zx zx ?_)))))))
   intro b8 o9 am an al
   refine st_g_true (j := 3) (dj := 33) (b := true) rfl rfl rfl (zA aa rfl) (st_step rfl (fun _ h9 => zN (v := (Value.int .u16 (H[Y]!.toNat : Int))) one46 (zA aa rfl) (by have := al 0 (.int .u16 (H[Y]!.toNat : Int)) zz (el_arr (i := Y) zx (by first | omega | (simp only [Array.size_setIfInBounds, swp_sz, siftDown_size]; omega))); simpa using this) h9) (st_g_true (j := 3) (dj := 33) (b := true) rfl rfl rfl (zA aa rfl) (st_step rfl (fun _ h9 => zG (zC aa rfl ac) h9) (st_g_true (j := 3) (dj := 33) (b := true) rfl rfl rfl (zA aa rfl) (st_step rfl (fun _ h9 => zG (zC aa rfl ad) h9) (st_g_true (j := 3) (dj := 33) (b := true) rfl rfl rfl (zA aa rfl) (st_index_rd slt45 (zA aa rfl) J.rdw (zA aa rfl) zx zx ?_)))))))
   intro ao ap an am al
   refine st_g_true (j := 3) (dj := 33) (b := true) rfl rfl rfl (zA aa rfl) (st_step rfl (fun _ h9 => zN (v := (Value.int .u16 (H[a]!.toNat : Int))) one46 (zA aa rfl) (by have := al 0 (.int .u16 (H[a]!.toNat : Int)) zz (el_arr (i := a) zx (by first | omega | (simp only [Array.size_setIfInBounds, swp_sz, siftDown_size]; omega))); simpa using this) h9) (st_g_true (j := 3) (dj := 33) (b := true) rfl rfl rfl (zA aa rfl) (st_fn (vs := [(.int .u16 (H[Y]!.toNat : Int)), (.int .u16 (H[a]!.toNat : Int))]) ok159 (⟨(zA aa rfl), ⟨(zA aa rfl), trivial⟩⟩) (Less16_ret H[Y]! H[a]! _) (st_step rfl (fun _ h9 => zc (zA aa rfl) (zA aa rfl) h9) (st_nil (J2 _ _ (wp_cond_split (zA aa rfl) (fun am => ?_) (fun am => ?_))))))))
   ·
    refine wp_skip (J1 _ _ (wp_block (zH (zG (zC aa rfl ab) (op_add (zA aa rfl) rfl (add64 zx) (zD (zA aa rfl) (zB (blk_normal ?_))))))))
    -- round 32T 43T
    exact zg _ aa ag ⟨(Y + 1), rfl, (zL aa rfl ac), (zL aa rfl ad), (zL aa rfl ai), (zL aa rfl af), (zL aa rfl ae), (zU aa rfl).trans (congrArg (Value.int .i64) zx), zx, (ah.trans (scanUp_go zx am)), hb, zx, J⟩ zx
   refine wp_exit (then_exit (then_exit (blk_hit (m _ _ ?_))))
   exact Z _ _ _ aa ag ⟨Y, (zL aa rfl ac), (zL aa rfl ad), (zL aa rfl ai), (zL aa rfl af), (zL aa rfl ae), (zL aa rfl ab), zx, (ah.trans (scanUp_stop (.inr am))), (fun _ => am), hb, zx, J⟩
  refine st_step rfl (fun _ h9 => op_cmp (b := false) (zA aa rfl) (zA aa rfl) (b_leq (decide_eq_false ak)) h9) (st_step rfl (fun _ h9 => zG (zA aa rfl) h9) (st_g_false (j := 3) (dj := 33) (b := true) rfl rfl rfl (zA aa rfl) rfl rfl (st_g_false (j := 3) (dj := 33) (b := true) rfl rfl rfl (zA aa rfl) rfl rfl (st_g_false (j := 3) (dj := 33) (b := true) rfl rfl rfl (zA aa rfl) rfl rfl ?_))))
  refine st_g_false (j := 3) (dj := 33) (b := true) rfl rfl rfl (zA aa rfl) rfl rfl (st_g_false (j := 3) (dj := 33) (b := true) rfl rfl rfl (zA aa rfl) rfl rfl (st_g_false (j := 3) (dj := 33) (b := true) rfl rfl rfl (zA aa rfl) rfl rfl (st_g_false (j := 3) (dj := 33) (b := true) rfl rfl rfl (zA aa rfl) rfl rfl (st_g_false (j := 3) (dj := 33) (b := true) rfl rfl rfl (zA aa rfl) rfl rfl (st_g_false (j := 3) (dj := 33) (b := true) rfl rfl rfl (zA aa rfl) rfl rfl (st_step rfl (fun _ h9 => zd (zA aa rfl) rfl h9) (st_nil (J2 _ _ (wp_cond_false (zA aa rfl) (wp_exit (then_exit (then_exit (blk_hit (m _ _ ?_))))))))))))))
  exact Z _ _ _ aa ag ⟨Y, (zL aa rfl ac), (zL aa rfl ad), (zL aa rfl ai), (zL aa rfl af), (zL aa rfl ae), (zL aa rfl ab), zx, (ah.trans (scanUp_stop (.inl zx))), (fun hq => absurd hq zx), hb, zx, J⟩
 rintro a4 w4 aa ah ⟨Y, ac, ak, ae, af, ag, ad, aj, ab, ai, hb, al, J⟩
 have := hb.size
 refine seq_join1 (N := 168) (fun az_ w' => ∃ (j2 : Nat), (Sl az_ 0 v) ∧ (Sl az_ 1 (.int .i64 ((a : Nat) : Int))) ∧ (Sl az_ 8 (.int .i64 0)) ∧ (Sl az_ 9 (.bool false)) ∧ (Sl az_ 10 (.int .i64 ((Y : Nat) : Int))) ∧ (Sl az_ 11 (.int .i64 ((j2 : Nat) : Int))) ∧ (j2 ≤ b - 1 ∧ Y ≤ j2 + 1) ∧ (scanDown (fun x => !ltT x H[a]!) H Y (b - 1) = j2) ∧ (Y ≠ j2) ∧ (w.grownBy w' v.ownBlock) ∧ (w4.heap.size ≤ w'.heap.size) ∧ (Own w' base 46 1 v n (H.toList.map u16v))) (fun aj => ?_) ?_
 ·
  refine zF fun _ m => wp_block (loop_m (fun mz_ az_ w' => ∃ (j2 : Nat), mz_ = (j2 + 1) ∧ (Sl az_ 0 v) ∧ (Sl az_ 1 (.int .i64 ((a : Nat) : Int))) ∧ (Sl az_ 8 (.int .i64 0)) ∧ (Sl az_ 9 (.bool false)) ∧ (Sl az_ 10 (.int .i64 ((Y : Nat) : Int))) ∧ (Sl az_ 11 (.int .i64 ((j2 : Nat) : Int))) ∧ (j2 ≤ b - 1 ∧ Y ≤ j2 + 1) ∧ (scanDown (fun x => !ltT x H[a]!) H Y (b - 1) = scanDown (fun x => !ltT x H[a]!) H Y j2) ∧ (w.grownBy w' v.ownBlock) ∧ (w4.heap.size ≤ w'.heap.size) ∧ (Own w' base 46 1 v n (H.toList.map u16v))) _ aa ah ⟨(b - 1), rfl, (zL aa rfl ac), (zL aa rfl ak), (zL aa rfl ae), (zL aa rfl af), (zL aa rfl ad), (zL aa rfl ag).trans (congrArg (Value.int .i64) zx), zx, rfl, hb, (Nat.le_refl _), J⟩ ?_)
  rintro _ ay az am ar ⟨j2, rfl, ao, aq, aw, av, ap, an, ax, au, hb, aB, J⟩
  have := hb.size
  refine zF fun _ J1 => zF fun _ J2 => reg_still mixed zy ?_
  intro az ay
  have := ay.size
  have J := J.keep0 ay
  have hb := grow_step0 hb ay
  refine st_step rfl (fun _ h9 => zG (zC am rfl ap) h9) (st_step rfl (fun _ h9 => zG (zC am rfl an) h9) ?_)
  by_cases ay : ((Y : Nat) : Int) ≤ ((j2 : Nat) : Int)
  ·
   refine st_step rfl (fun _ h9 => op_cmp (b := true) (zA am rfl) (zA am rfl) (b_leq (decide_eq_true ay)) h9) (st_step rfl (fun _ h9 => zG (zA am rfl) h9) (st_g_true (j := 3) (dj := 49) (b := true) rfl rfl rfl (zA am rfl) (st_step rfl (fun _ h9 => zG (zC am rfl ao) h9) (st_g_true (j := 3) (dj := 49) (b := true) rfl rfl rfl (zA am rfl) (st_step rfl (fun _ h9 => zG (zC am rfl an) h9) (st_g_true (j := 3) (dj := 49) (b := true) rfl rfl rfl (zA am rfl) (st_index_rd slt45 (zA am rfl) J.rdw (zA am rfl) zx zx ?_)))))))
   intro aB aE aC aD az
   refine st_g_true (j := 3) (dj := 49) (b := true) rfl rfl rfl (zA am rfl) (st_step rfl (fun _ h9 => zN (v := (Value.int .u16 (H[j2]!.toNat : Int))) one46 (zA am rfl) (by have := az 0 (.int .u16 (H[j2]!.toNat : Int)) zz (el_arr (i := j2) zx (by first | omega | (simp only [Array.size_setIfInBounds, swp_sz, siftDown_size]; omega))); simpa using this) h9) (st_g_true (j := 3) (dj := 49) (b := true) rfl rfl rfl (zA am rfl) (st_step rfl (fun _ h9 => zG (zC am rfl ao) h9) (st_g_true (j := 3) (dj := 49) (b := true) rfl rfl rfl (zA am rfl) (st_step rfl (fun _ h9 => zG (zC am rfl aq) h9) (st_g_true (j := 3) (dj := 49) (b := true) rfl rfl rfl (zA am rfl) (st_index_rd slt45 (zA am rfl) J.rdw (zA am rfl) zx zx ?_)))))))
   intro aC aB aD aE az
   refine st_g_true (j := 3) (dj := 49) (b := true) rfl rfl rfl (zA am rfl) (st_step rfl (fun _ h9 => zN (v := (Value.int .u16 (H[a]!.toNat : Int))) one46 (zA am rfl) (by have := az 0 (.int .u16 (H[a]!.toNat : Int)) zz (el_arr (i := a) zx (by first | omega | (simp only [Array.size_setIfInBounds, swp_sz, siftDown_size]; omega))); simpa using this) h9) (st_g_true (j := 3) (dj := 49) (b := true) rfl rfl rfl (zA am rfl) (st_fn (vs := [(.int .u16 (H[j2]!.toNat : Int)), (.int .u16 (H[a]!.toNat : Int))]) ok159 (⟨(zA am rfl), ⟨(zA am rfl), trivial⟩⟩) (Less16_ret H[j2]! H[a]! _) (st_g_true (j := 3) (dj := 49) (b := true) rfl rfl rfl (zA am rfl) (st_step rfl (fun _ h9 => op_not (zA am rfl) h9) (st_step rfl (fun _ h9 => zc (zA am rfl) (zA am rfl) h9) (st_nil (J2 _ _ (wp_cond_split (zA am rfl) (fun aB => ?_) (fun aB => ?_))))))))))
   ·
    refine wp_skip (J1 _ _ (wp_block (zH (zG (zC am rfl an) (op_sub (zA am rfl) rfl (sub64 zx) (zD (zA am rfl) (zB (blk_normal ?_))))))))
    -- round 48T 60T
    exact zg _ am ar ⟨(j2 - 1), rfl, (zL am rfl ao), (zL am rfl aq), (zL am rfl aw), (zL am rfl av), (zL am rfl ap), (zU am rfl).trans (congrArg (Value.int .i64) zx), zx, (au.trans (scanDown_go zx zx aB)), hb, zx, J⟩ zx
   refine wp_exit (then_exit (then_exit (blk_hit (m _ _ ?_))))
   exact aj _ _ _ am ar ⟨j2, (zL am rfl ao), (zL am rfl aq), (zL am rfl aw), (zL am rfl av), (zL am rfl ap), (zL am rfl an), zx, (au.trans (scanDown_stop (.inr aB))), (fun hh => by have h9 := ai zx; rw [hh] at h9; rw [h9] at aB; simp at aB), hb, zx, J⟩
  refine st_step rfl (fun _ h9 => op_cmp (b := false) (zA am rfl) (zA am rfl) (b_leq (decide_eq_false ay)) h9) (st_step rfl (fun _ h9 => zG (zA am rfl) h9) (st_g_false (j := 3) (dj := 49) (b := true) rfl rfl rfl (zA am rfl) rfl rfl (st_g_false (j := 3) (dj := 49) (b := true) rfl rfl rfl (zA am rfl) rfl rfl (st_g_false (j := 3) (dj := 49) (b := true) rfl rfl rfl (zA am rfl) rfl rfl (st_g_false (j := 3) (dj := 49) (b := true) rfl rfl rfl (zA am rfl) rfl rfl ?_)))))
  refine st_g_false (j := 3) (dj := 49) (b := true) rfl rfl rfl (zA am rfl) rfl rfl (st_g_false (j := 3) (dj := 49) (b := true) rfl rfl rfl (zA am rfl) rfl rfl (st_g_false (j := 3) (dj := 49) (b := true) rfl rfl rfl (zA am rfl) rfl rfl (st_g_false (j := 3) (dj := 49) (b := true) rfl rfl rfl (zA am rfl) rfl rfl (st_g_false (j := 3) (dj := 49) (b := true) rfl rfl rfl (zA am rfl) rfl rfl (st_g_false (j := 3) (dj := 49) (b := true) rfl rfl rfl (zA am rfl) rfl rfl (st_step rfl (fun _ h9 => zd (zA am rfl) rfl h9) (st_nil (J2 _ _ (wp_cond_false (zA am rfl) (wp_exit (then_exit (then_exit (blk_hit (m _ _ ?_))))))))))))))
  exact aj _ _ _ am ar ⟨j2, (zL am rfl ao), (zL am rfl aq), (zL am rfl aw), (zL am rfl av), (zL am rfl ap), (zL am rfl an), zx, (au.trans (scanDown_stop (.inl zx))), zx, hb, zx, J⟩
 rintro az ay am au ⟨j2, an, aq, av, aw, ap, ao, ax, ar, hne, hb, aB, J⟩
 have := hb.size
 refine zF fun _ m => zF fun _ J1 => zH (zG (zC am rfl ap) (zG (zC am rfl ao) (op_gtr (zA am rfl) (zA am rfl) (fun ax => ?_) (fun ax => ?_))))
 ·
  refine zB (J1 _ _ (wp_cond_true (zA am rfl) (zF fun _ J1 => reg_mid (e := 46) (sz := 1) (base := base) (n := n) (v := v) (Φ := phiL [(fun uz _ => uz = v), (fun uz _ => uz = (.int .i64 ((j2 : Nat) : Int))), (fun uz _ => uz = v), (fun uz _ => uz = (.int .i64 ((a : Nat) : Int))), (fun uz _ => uz = v), (fun uz _ => uz = (.int .i64 ((a : Nat) : Int))), (fun uz _ => ∃ bz oz, uz = ptr bz oz ∧ AtV v a bz oz), (fun uz _ => uz = (.int .u16 (H[a]!.toNat : Int))), (fun uz _ => uz = v), (fun uz _ => uz = (.int .i64 ((j2 : Nat) : Int))), (fun uz _ => ∃ bz oz, uz = ptr bz oz ∧ AtV v j2 bz oz), (fun uz _ => uz = (.int .u16 (H[j2]!.toNat : Int))), (fun uz _ => ∃ bz oz, uz = ptr bz oz ∧ AtV v j2 bz oz), (fun _ _ => True), (fun uz _ => ∃ bz oz, uz = ptr bz oz ∧ AtV v a bz oz), (fun _ _ => True)]) [13, 15] [(H.toList.map u16v), ((H.setIfInBounds j2 H[a]!).toList.map u16v), (((H.setIfInBounds j2 H[a]!).setIfInBounds a H[j2]!).toList.map u16v)] mixed zy zy zy zy am J (StL.get (StL.eq (StL.eq (StL.eq (StL.eq (StL.eq (StL.eq (StL.at (StL.eq (StL.eq (StL.eq (StL.at (StL.eq (StL.at (StL.cons (fun _ _ _ _ h => h) (StL.at (StL.cons (fun _ _ _ _ h => h) (StL.nil _)))))))))))))))))) (ObRs.get (ObRs.cons ?_ (ObRs.cons ?_ (ObRs.cons ?_ (ObRs.cons ?_ (ObRs.cons ?_ (ObRs.cons ?_ (ObRs.cons ?_ (ObRs.cons ?_ (ObRs.cons ?_ (ObRs.cons ?_ (ObRs.cons ?_ (ObRs.cons ?_ (ObRs.cons ?_ (ObRs.pass rfl (ObRs.cons ?_ (ObRs.pass rfl (ObRs.nil)))))))))))))))))) (ObWs.get (ObWs.cons ?_ (ObWs.cons ?_ (ObWs.nil)))) ?_)))
  ·
   intro aA wA cA hNA hRA hckA hOA hbsA hdpA
   have o := (hbsA 0 rfl).trans (zL am rfl an)
   clear hbsA hdpA
   refine zG (zC hNA rfl o) ?_
   exact obR_end rfl rfl (grown_refl _ _)
  ·
   intro aA wA cA hNA hRA hckA hOA hbsA hdpA
   have aC := (hbsA 11 rfl).trans (zL am rfl ao)
   clear hbsA hdpA
   refine zG (zC hNA rfl aC) ?_
   exact obR_end rfl rfl (grown_refl _ _)
  ·
   intro aA wA cA hNA hRA hckA hOA hbsA hdpA
   have o := (hbsA 0 rfl).trans (zL am rfl an)
   clear hbsA hdpA
   refine zG (zC hNA rfl o) ?_
   exact obR_end rfl rfl (grown_refl _ _)
  ·
   intro aA wA cA hNA hRA hckA hOA hbsA hdpA
   have p := (hbsA 1 rfl).trans (zL am rfl aq)
   clear hbsA hdpA
   refine zG (zC hNA rfl p) ?_
   exact obR_end rfl rfl (grown_refl _ _)
  ·
   intro aA wA cA hNA hRA hckA hOA hbsA hdpA
   have o := (hbsA 0 rfl).trans (zL am rfl an)
   clear hbsA hdpA
   refine zG (zC hNA rfl o) ?_
   exact obR_end rfl rfl (grown_refl _ _)
  ·
   intro aA wA cA hNA hRA hckA hOA hbsA hdpA
   have p := (hbsA 1 rfl).trans (zL am rfl aq)
   clear hbsA hdpA
   refine zG (zC hNA rfl p) ?_
   exact obR_end rfl rfl (grown_refl _ _)
  ·
   intro aA wA cA hNA hRA hckA hOA hbsA hdpA
   have aD : Sl aA 70 v := hdpA 4 _ 70 zy rfl rfl
   have aE : Sl aA 71 (.int .i64 ((a : Nat) : Int)) := hdpA 5 _ 71 zy rfl rfl
   clear hbsA hdpA
   refine op_index_own (i := a) slt45 (zC hNA rfl aD) hOA (zC hNA rfl aE) zx zx ?_
   intro b_ o_ _ hA_
   exact obR_end rfl ⟨b_, o_, rfl, by simpa using hA_⟩ (grown_refl _ _)
  ·
   intro aA wA cA hNA hRA hckA hOA hbsA hdpA
   obtain ⟨aF, aG, aD, aE⟩ := hdpA 6 _ 72 zy rfl rfl
   clear hbsA hdpA
   obtain rfl : cA = 0 := Nat.le_zero.1 (hckA 0 13 rfl zy)
   have hOA : Own wA base 46 1 v n (H.toList.map u16v) := hOA
   refine zN (v := (Value.int .u16 (H[a]!.toNat : Int))) one46 (zC hNA rfl aD) (by have := hOA.cellAt aE 0 _ (el_at (i := a) (by first | omega | (simp only [Array.size_setIfInBounds, swp_sz, siftDown_size]; omega))); simpa using this) ?_
   exact obR_end rfl rfl (grown_refl _ _)
  ·
   intro aA wA cA hNA hRA hckA hOA hbsA hdpA
   have o := (hbsA 0 rfl).trans (zL am rfl an)
   clear hbsA hdpA
   refine zG (zC hNA rfl o) ?_
   exact obR_end rfl rfl (grown_refl _ _)
  ·
   intro aA wA cA hNA hRA hckA hOA hbsA hdpA
   have aC := (hbsA 11 rfl).trans (zL am rfl ao)
   clear hbsA hdpA
   refine zG (zC hNA rfl aC) ?_
   exact obR_end rfl rfl (grown_refl _ _)
  ·
   intro aA wA cA hNA hRA hckA hOA hbsA hdpA
   have aD : Sl aA 74 v := hdpA 8 _ 74 zy rfl rfl
   have aE : Sl aA 75 (.int .i64 ((j2 : Nat) : Int)) := hdpA 9 _ 75 zy rfl rfl
   clear hbsA hdpA
   refine op_index_own (i := j2) slt45 (zC hNA rfl aD) hOA (zC hNA rfl aE) zx zx ?_
   intro b_ o_ _ hA_
   exact obR_end rfl ⟨b_, o_, rfl, by simpa using hA_⟩ (grown_refl _ _)
  ·
   intro aA wA cA hNA hRA hckA hOA hbsA hdpA
   obtain ⟨aG, aF, aD, aE⟩ := hdpA 10 _ 76 zy rfl rfl
   clear hbsA hdpA
   obtain rfl : cA = 0 := Nat.le_zero.1 (hckA 0 13 rfl zy)
   have hOA : Own wA base 46 1 v n (H.toList.map u16v) := hOA
   refine zN (v := (Value.int .u16 (H[j2]!.toNat : Int))) one46 (zC hNA rfl aD) (by have := hOA.cellAt aE 0 _ (el_at (i := j2) (by first | omega | (simp only [Array.size_setIfInBounds, swp_sz, siftDown_size]; omega))); simpa using this) ?_
   exact obR_end rfl rfl (grown_refl _ _)
  ·
   intro aA wA cA hNA hRA hckA hOA hbsA hdpA
   have aD : Sl aA 66 v := hdpA 0 _ 66 zy rfl rfl
   have aE : Sl aA 67 (.int .i64 ((j2 : Nat) : Int)) := hdpA 1 _ 67 zy rfl rfl
   clear hbsA hdpA
   refine op_index_own (i := j2) slt45 (zC hNA rfl aD) hOA (zC hNA rfl aE) zx zx ?_
   intro b_ o_ _ hA_
   exact obR_end rfl ⟨b_, o_, rfl, by simpa using hA_⟩ (grown_refl _ _)
  ·
   intro aA wA cA hNA hRA hckA hOA hbsA hdpA
   have aD : Sl aA 68 v := hdpA 2 _ 68 zy rfl rfl
   have aE : Sl aA 69 (.int .i64 ((a : Nat) : Int)) := hdpA 3 _ 69 zy rfl rfl
   clear hbsA hdpA
   refine op_index_own (i := a) slt45 (zC hNA rfl aD) hOA (zC hNA rfl aE) zx zx ?_
   intro b_ o_ _ hA_
   exact obR_end rfl ⟨b_, o_, rfl, by simpa using hA_⟩ (grown_refl _ _)
  ·
   intro o_ ho_; obtain rfl := zE ho_; intro aA wA hNA hRA hbsA hdpA hOA
   obtain ⟨aG, aF, aE, aD⟩ := hdpA 12 _ 78 zy rfl rfl
   have aF : Sl aA 73 (.int .u16 (H[a]!.toNat : Int)) := hdpA 7 _ 73 zy rfl rfl
   clear hbsA hdpA
   have hOA : Own wA base 46 1 v n (H.toList.map u16v) := hOA
   refine op_store_own (vs := [(.int .u16 (H[a]!.toNat : Int))]) size46 (zC hNA rfl aE) (zC hNA rfl aF) rfl rfl rfl hOA aD (by have := hOA.1; simp at this ⊢; omega) ?_
   intro w_ hO_ E_
   exact obW_end rfl (hO_.cast rfl (set_arr (by first | omega | (simp only [Array.size_setIfInBounds, swp_sz, siftDown_size]; omega)))) E_
  ·
   intro o_ ho_; obtain rfl := zE ho_; intro aA wA hNA hRA hbsA hdpA hOA
   obtain ⟨aF, aG, aE, aD⟩ := hdpA 14 _ 79 zy rfl rfl
   have aF : Sl aA 77 (.int .u16 (H[j2]!.toNat : Int)) := hdpA 11 _ 77 zy rfl rfl
   clear hbsA hdpA
   have hOA : Own wA base 46 1 v n ((H.setIfInBounds j2 H[a]!).toList.map u16v) := hOA
   refine op_store_own (vs := [(.int .u16 (H[j2]!.toNat : Int))]) size46 (zC hNA rfl aE) (zC hNA rfl aF) rfl rfl rfl hOA aD (by have := hOA.1; simp at this ⊢; omega) ?_
   intro w_ hO_ E_
   exact obW_end rfl (hO_.cast rfl (set_arr (by first | omega | (simp only [Array.size_setIfInBounds, swp_sz, siftDown_size]; omega)))) E_
  intro aK aI aD aE aH aJ aF aG
  have aE := aE.trans au
  have aK := (aH 11 rfl).trans (zL am rfl ao)
  clear aH aJ
  have aF : Own aI base 46 1 v n (((H.setIfInBounds j2 H[a]!).setIfInBounds a H[j2]!).toList.map u16v) := aF
  have := aG.size
  have hb := grow_stepX hb aG rfl
  refine J1 _ _ (zF fun _ J1 => zH (zG (zC aD rfl aK) (zD (zA aD rfl) (zD rfl (zB (J1 _ _ (wp_ret (zO ( (ret2 rfl aE (zA aD rfl) (zA aD rfl) ⟨_, rfl, ?_⟩))))))))))
  have hq := pt_stop s ab ar zx
  exact ⟨hb, by rw [hq]; rfl, aF.cast rfl (by rw [hq]; rfl)⟩
 refine zB (J1 _ _ (wp_cond_false (zA am rfl) (wp_skip (m _ _ (zF fun _ m => reg_mid (e := 46) (sz := 1) (base := base) (n := n) (v := v) (Φ := phiL [(fun uz _ => uz = v), (fun uz _ => uz = (.int .i64 ((Y : Nat) : Int))), (fun uz _ => uz = v), (fun uz _ => uz = (.int .i64 ((j2 : Nat) : Int))), (fun uz _ => uz = v), (fun uz _ => uz = (.int .i64 ((j2 : Nat) : Int))), (fun uz _ => ∃ bz oz, uz = ptr bz oz ∧ AtV v j2 bz oz), (fun uz _ => uz = (.int .u16 (H[j2]!.toNat : Int))), (fun uz _ => uz = v), (fun uz _ => uz = (.int .i64 ((Y : Nat) : Int))), (fun uz _ => ∃ bz oz, uz = ptr bz oz ∧ AtV v Y bz oz), (fun uz _ => uz = (.int .u16 (H[Y]!.toNat : Int))), (fun uz _ => ∃ bz oz, uz = ptr bz oz ∧ AtV v Y bz oz), (fun _ _ => True), (fun uz _ => ∃ bz oz, uz = ptr bz oz ∧ AtV v j2 bz oz), (fun _ _ => True)]) [13, 15] [(H.toList.map u16v), ((H.setIfInBounds Y H[j2]!).toList.map u16v), (((H.setIfInBounds Y H[j2]!).setIfInBounds j2 H[Y]!).toList.map u16v)] mixed zy zy zy zy am J (StL.get (StL.eq (StL.eq (StL.eq (StL.eq (StL.eq (StL.eq (StL.at (StL.eq (StL.eq (StL.eq (StL.at (StL.eq (StL.at (StL.cons (fun _ _ _ _ h => h) (StL.at (StL.cons (fun _ _ _ _ h => h) (StL.nil _)))))))))))))))))) (ObRs.get (ObRs.cons ?_ (ObRs.cons ?_ (ObRs.cons ?_ (ObRs.cons ?_ (ObRs.cons ?_ (ObRs.cons ?_ (ObRs.cons ?_ (ObRs.cons ?_ (ObRs.cons ?_ (ObRs.cons ?_ (ObRs.cons ?_ (ObRs.cons ?_ (ObRs.cons ?_ (ObRs.pass rfl (ObRs.cons ?_ (ObRs.pass rfl (ObRs.nil)))))))))))))))))) (ObWs.get (ObWs.cons ?_ (ObWs.cons ?_ (ObWs.nil)))) ?_)))))
 ·
  intro aA wA cA hNA hRA hckA hOA hbsA hdpA
  have o := (hbsA 0 rfl).trans (zL am rfl an)
  clear hbsA hdpA
  refine zG (zC hNA rfl o) ?_
  exact obR_end rfl rfl (grown_refl _ _)
 ·
  intro aA wA cA hNA hRA hckA hOA hbsA hdpA
  have aD := (hbsA 10 rfl).trans (zL am rfl ap)
  clear hbsA hdpA
  refine zG (zC hNA rfl aD) ?_
  exact obR_end rfl rfl (grown_refl _ _)
 ·
  intro aA wA cA hNA hRA hckA hOA hbsA hdpA
  have o := (hbsA 0 rfl).trans (zL am rfl an)
  clear hbsA hdpA
  refine zG (zC hNA rfl o) ?_
  exact obR_end rfl rfl (grown_refl _ _)
 ·
  intro aA wA cA hNA hRA hckA hOA hbsA hdpA
  have aC := (hbsA 11 rfl).trans (zL am rfl ao)
  clear hbsA hdpA
  refine zG (zC hNA rfl aC) ?_
  exact obR_end rfl rfl (grown_refl _ _)
 ·
  intro aA wA cA hNA hRA hckA hOA hbsA hdpA
  have o := (hbsA 0 rfl).trans (zL am rfl an)
  clear hbsA hdpA
  refine zG (zC hNA rfl o) ?_
  exact obR_end rfl rfl (grown_refl _ _)
 ·
  intro aA wA cA hNA hRA hckA hOA hbsA hdpA
  have aC := (hbsA 11 rfl).trans (zL am rfl ao)
  clear hbsA hdpA
  refine zG (zC hNA rfl aC) ?_
  exact obR_end rfl rfl (grown_refl _ _)
 ·
  intro aA wA cA hNA hRA hckA hOA hbsA hdpA
  have aE : Sl aA 85 v := hdpA 4 _ 85 zy rfl rfl
  have aF : Sl aA 86 (.int .i64 ((j2 : Nat) : Int)) := hdpA 5 _ 86 zy rfl rfl
  clear hbsA hdpA
  refine op_index_own (i := j2) slt45 (zC hNA rfl aE) hOA (zC hNA rfl aF) zx zx ?_
  intro b_ o_ _ hA_
  exact obR_end rfl ⟨b_, o_, rfl, by simpa using hA_⟩ (grown_refl _ _)
 ·
  intro aA wA cA hNA hRA hckA hOA hbsA hdpA
  obtain ⟨aG, aH, aE, aF⟩ := hdpA 6 _ 87 zy rfl rfl
  clear hbsA hdpA
  obtain rfl : cA = 0 := Nat.le_zero.1 (hckA 0 13 rfl zy)
  have hOA : Own wA base 46 1 v n (H.toList.map u16v) := hOA
  refine zN (v := (Value.int .u16 (H[j2]!.toNat : Int))) one46 (zC hNA rfl aE) (by have := hOA.cellAt aF 0 _ (el_at (i := j2) (by first | omega | (simp only [Array.size_setIfInBounds, swp_sz, siftDown_size]; omega))); simpa using this) ?_
  exact obR_end rfl rfl (grown_refl _ _)
 ·
  intro aA wA cA hNA hRA hckA hOA hbsA hdpA
  have o := (hbsA 0 rfl).trans (zL am rfl an)
  clear hbsA hdpA
  refine zG (zC hNA rfl o) ?_
  exact obR_end rfl rfl (grown_refl _ _)
 ·
  intro aA wA cA hNA hRA hckA hOA hbsA hdpA
  have aD := (hbsA 10 rfl).trans (zL am rfl ap)
  clear hbsA hdpA
  refine zG (zC hNA rfl aD) ?_
  exact obR_end rfl rfl (grown_refl _ _)
 ·
  intro aA wA cA hNA hRA hckA hOA hbsA hdpA
  have aE : Sl aA 89 v := hdpA 8 _ 89 zy rfl rfl
  have aF : Sl aA 90 (.int .i64 ((Y : Nat) : Int)) := hdpA 9 _ 90 zy rfl rfl
  clear hbsA hdpA
  refine op_index_own (i := Y) slt45 (zC hNA rfl aE) hOA (zC hNA rfl aF) zx zx ?_
  intro b_ o_ _ hA_
  exact obR_end rfl ⟨b_, o_, rfl, by simpa using hA_⟩ (grown_refl _ _)
 ·
  intro aA wA cA hNA hRA hckA hOA hbsA hdpA
  obtain ⟨aG, aH, aE, aF⟩ := hdpA 10 _ 91 zy rfl rfl
  clear hbsA hdpA
  obtain rfl : cA = 0 := Nat.le_zero.1 (hckA 0 13 rfl zy)
  have hOA : Own wA base 46 1 v n (H.toList.map u16v) := hOA
  refine zN (v := (Value.int .u16 (H[Y]!.toNat : Int))) one46 (zC hNA rfl aE) (by have := hOA.cellAt aF 0 _ (el_at (i := Y) (by first | omega | (simp only [Array.size_setIfInBounds, swp_sz, siftDown_size]; omega))); simpa using this) ?_
  exact obR_end rfl rfl (grown_refl _ _)
 ·
  intro aA wA cA hNA hRA hckA hOA hbsA hdpA
  have aE : Sl aA 81 v := hdpA 0 _ 81 zy rfl rfl
  have aF : Sl aA 82 (.int .i64 ((Y : Nat) : Int)) := hdpA 1 _ 82 zy rfl rfl
  clear hbsA hdpA
  refine op_index_own (i := Y) slt45 (zC hNA rfl aE) hOA (zC hNA rfl aF) zx zx ?_
  intro b_ o_ _ hA_
  exact obR_end rfl ⟨b_, o_, rfl, by simpa using hA_⟩ (grown_refl _ _)
 ·
  intro aA wA cA hNA hRA hckA hOA hbsA hdpA
  have aE : Sl aA 83 v := hdpA 2 _ 83 zy rfl rfl
  have aF : Sl aA 84 (.int .i64 ((j2 : Nat) : Int)) := hdpA 3 _ 84 zy rfl rfl
  clear hbsA hdpA
  refine op_index_own (i := j2) slt45 (zC hNA rfl aE) hOA (zC hNA rfl aF) zx zx ?_
  intro b_ o_ _ hA_
  exact obR_end rfl ⟨b_, o_, rfl, by simpa using hA_⟩ (grown_refl _ _)
 ·
  intro o_ ho_; obtain rfl := zE ho_; intro aA wA hNA hRA hbsA hdpA hOA
  obtain ⟨aG, aH, aF, aE⟩ := hdpA 12 _ 93 zy rfl rfl
  have aG : Sl aA 88 (.int .u16 (H[j2]!.toNat : Int)) := hdpA 7 _ 88 zy rfl rfl
  clear hbsA hdpA
  have hOA : Own wA base 46 1 v n (H.toList.map u16v) := hOA
  refine op_store_own (vs := [(.int .u16 (H[j2]!.toNat : Int))]) size46 (zC hNA rfl aF) (zC hNA rfl aG) rfl rfl rfl hOA aE (by have := hOA.1; simp at this ⊢; omega) ?_
  intro w_ hO_ E_
  exact obW_end rfl (hO_.cast rfl (set_arr (by first | omega | (simp only [Array.size_setIfInBounds, swp_sz, siftDown_size]; omega)))) E_
 ·
  intro o_ ho_; obtain rfl := zE ho_; intro aA wA hNA hRA hbsA hdpA hOA
  obtain ⟨aH, aG, aE, aF⟩ := hdpA 14 _ 94 zy rfl rfl
  have aG : Sl aA 92 (.int .u16 (H[Y]!.toNat : Int)) := hdpA 11 _ 92 zy rfl rfl
  clear hbsA hdpA
  have hOA : Own wA base 46 1 v n ((H.setIfInBounds Y H[j2]!).toList.map u16v) := hOA
  refine op_store_own (vs := [(.int .u16 (H[Y]!.toNat : Int))]) size46 (zC hNA rfl aE) (zC hNA rfl aG) rfl rfl rfl hOA aF (by have := hOA.1; simp at this ⊢; omega) ?_
  intro w_ hO_ E_
  exact obW_end rfl (hO_.cast rfl (set_arr (by first | omega | (simp only [Array.size_setIfInBounds, swp_sz, siftDown_size]; omega)))) E_
 intro aL aI aE aH aF aK aG aJ
 have aH := aH.trans au
 have aM := (aF 0 rfl).trans (zL am rfl an)
 have aN := (aF 1 rfl).trans (zL am rfl aq)
 have aO := (aF 8 rfl).trans (zL am rfl av)
 have aP := (aF 9 rfl).trans (zL am rfl aw)
 have aQ := (aF 10 rfl).trans (zL am rfl ap)
 have aR := (aF 11 rfl).trans (zL am rfl ao)
 clear aF aK
 have aG : Own aI base 46 1 v n (((H.setIfInBounds Y H[j2]!).setIfInBounds j2 H[Y]!).toList.map u16v) := aG
 have := aJ.size
 have hb := grow_stepX hb aJ rfl
 refine m _ _ (zF fun _ m => zH (zG (zC aE rfl aQ) (op_add (zA aE rfl) rfl (add64 zx) (zD (zA aE rfl) ?_))))
 refine zB (m _ _ (zF fun _ m => zH (zG (zC aE rfl aR) (op_sub (r := ((j2 - 1 : Nat) : Int)) (zA aE rfl) rfl (by rw [IntKind.wrap_i64]; omega) (zD (zA aE rfl) (zB (m _ _ (zF fun _ m => wp_block (loop_m (fun mz_ az_ w' => ∃ (ii jj : Nat) (dk : Ar), mz_ = (jj + 2 - ii) ∧ (Sl az_ 0 v) ∧ (Sl az_ 1 (.int .i64 ((a : Nat) : Int))) ∧ (Sl az_ 8 (.int .i64 0)) ∧ (Sl az_ 9 (.bool false)) ∧ (Sl az_ 10 (.int .i64 ((ii : Nat) : Int))) ∧ (Sl az_ 11 (.int .i64 ((jj : Nat) : Int))) ∧ (dk.size = n) ∧ (a < ii ∧ ii ≤ jj + 1 ∧ jj < b) ∧ (partLoop ltT a (Y + 1) (j2 - 1) (swp H Y j2) = partLoop ltT a ii jj dk) ∧ (w.grownBy w' v.ownBlock) ∧ (aI.heap.size ≤ w'.heap.size) ∧ (Own w' base 46 1 v n (dk.toList.map u16v))) _ aE aH ⟨(Y + 1), (j2 - 1), _, rfl, (zL aE rfl aM), (zL aE rfl aN), (zL aE rfl aO), (zL aE rfl aP), (zU aE rfl).trans (congrArg (Value.int .i64) zx), (zU aE rfl).trans (congrArg (Value.int .i64) zx), (by first | assumption | (simp only [Array.size_setIfInBounds, swp_sz, siftDown_size]; assumption)), zx, rfl, hb, (Nat.le_refl _), aG⟩ ?_)))))))))
 rintro _ a4 aU aT aX ⟨ii, jj, dk, rfl, aW, a0, aY, aV, a1, aZ, hdk, a3, hs, hb, a2, aS⟩
 have := hb.size
 refine wp_block (seq_join1 (N := 168) (fun az_ w' => ∃ (i3 : Nat), (Sl az_ 0 v) ∧ (Sl az_ 1 (.int .i64 ((a : Nat) : Int))) ∧ (Sl az_ 8 (.int .i64 0)) ∧ (Sl az_ 9 (.bool false)) ∧ (Sl az_ 11 (.int .i64 ((jj : Nat) : Int))) ∧ (Sl az_ 10 (.int .i64 ((i3 : Nat) : Int))) ∧ (ii ≤ i3 ∧ i3 ≤ jj + 1) ∧ (scanUp (fun x => ltT x dk[a]!) dk jj ii = i3) ∧ (i3 ≤ jj → ltT dk[i3]! dk[a]! = false) ∧ (w.grownBy w' v.ownBlock) ∧ (aU.heap.size ≤ w'.heap.size) ∧ (Own w' base 46 1 v n (dk.toList.map u16v))) (fun a5 => ?_) ?_)
 ·
  refine zF fun _ J1 => wp_block (loop_m (fun mz_ az_ w' => ∃ (i3 : Nat), mz_ = (jj + 1 - i3) ∧ (Sl az_ 0 v) ∧ (Sl az_ 1 (.int .i64 ((a : Nat) : Int))) ∧ (Sl az_ 8 (.int .i64 0)) ∧ (Sl az_ 9 (.bool false)) ∧ (Sl az_ 11 (.int .i64 ((jj : Nat) : Int))) ∧ (Sl az_ 10 (.int .i64 ((i3 : Nat) : Int))) ∧ (ii ≤ i3 ∧ i3 ≤ jj + 1) ∧ (scanUp (fun x => ltT x dk[a]!) dk jj ii = scanUp (fun x => ltT x dk[a]!) dk jj i3) ∧ (w.grownBy w' v.ownBlock) ∧ (aU.heap.size ≤ w'.heap.size) ∧ (Own w' base 46 1 v n (dk.toList.map u16v))) _ aT aX ⟨ii, rfl, (zL aT rfl aW), (zL aT rfl a0), (zL aT rfl aY), (zL aT rfl aV), (zL aT rfl aZ), (zL aT rfl a1).trans (congrArg (Value.int .i64) zx), zx, rfl, hb, (Nat.le_refl _), aS⟩ ?_)
  rintro _ bi bg a6 be ⟨i3, rfl, a7, ba, bc, bb, a9, a8, bf, bd, hb, bh, aS⟩
  have := hb.size
  refine zF fun _ J2 => zF fun _ J3 => reg_still mixed zy ?_
  intro bh bg
  have := bg.size
  have aS := aS.keep0 bg
  have hb := grow_step0 hb bg
  refine st_step rfl (fun _ h9 => zG (zC a6 rfl a8) h9) (st_step rfl (fun _ h9 => zG (zC a6 rfl a9) h9) ?_)
  by_cases bg : ((i3 : Nat) : Int) ≤ ((jj : Nat) : Int)
  ·
   refine st_step rfl (fun _ h9 => op_cmp (b := true) (zA a6 rfl) (zA a6 rfl) (b_leq (decide_eq_true bg)) h9) (st_step rfl (fun _ h9 => zG (zA a6 rfl) h9) (st_g_true (j := 3) (dj := 102) (b := true) rfl rfl rfl (zA a6 rfl) (st_step rfl (fun _ h9 => zG (zC a6 rfl a7) h9) (st_g_true (j := 3) (dj := 102) (b := true) rfl rfl rfl (zA a6 rfl) (st_step rfl (fun _ h9 => zG (zC a6 rfl a8) h9) (st_g_true (j := 3) (dj := 102) (b := true) rfl rfl rfl (zA a6 rfl) (st_index_rd slt45 (zA a6 rfl) aS.rdw (zA a6 rfl) zx zx ?_)))))))
   intro bk bj bl bi bh
   refine st_g_true (j := 3) (dj := 102) (b := true) rfl rfl rfl (zA a6 rfl) (st_step rfl (fun _ h9 => zN (v := (Value.int .u16 (dk[i3]!.toNat : Int))) one46 (zA a6 rfl) (by have := bh 0 (.int .u16 (dk[i3]!.toNat : Int)) zz (el_arr (i := i3) zx (by first | omega | (simp only [Array.size_setIfInBounds, swp_sz, siftDown_size]; omega))); simpa using this) h9) (st_g_true (j := 3) (dj := 102) (b := true) rfl rfl rfl (zA a6 rfl) (st_step rfl (fun _ h9 => zG (zC a6 rfl a7) h9) (st_g_true (j := 3) (dj := 102) (b := true) rfl rfl rfl (zA a6 rfl) (st_step rfl (fun _ h9 => zG (zC a6 rfl ba) h9) (st_g_true (j := 3) (dj := 102) (b := true) rfl rfl rfl (zA a6 rfl) (st_index_rd slt45 (zA a6 rfl) aS.rdw (zA a6 rfl) zx zx ?_)))))))
   intro bj bk bl bi bh
   refine st_g_true (j := 3) (dj := 102) (b := true) rfl rfl rfl (zA a6 rfl) (st_step rfl (fun _ h9 => zN (v := (Value.int .u16 (dk[a]!.toNat : Int))) one46 (zA a6 rfl) (by have := bh 0 (.int .u16 (dk[a]!.toNat : Int)) zz (el_arr (i := a) zx (by first | omega | (simp only [Array.size_setIfInBounds, swp_sz, siftDown_size]; omega))); simpa using this) h9) (st_g_true (j := 3) (dj := 102) (b := true) rfl rfl rfl (zA a6 rfl) (st_fn (vs := [(.int .u16 (dk[i3]!.toNat : Int)), (.int .u16 (dk[a]!.toNat : Int))]) ok159 (⟨(zA a6 rfl), ⟨(zA a6 rfl), trivial⟩⟩) (Less16_ret dk[i3]! dk[a]! _) (st_step rfl (fun _ h9 => zc (zA a6 rfl) (zA a6 rfl) h9) (st_nil (J3 _ _ (wp_cond_split (zA a6 rfl) (fun bi => ?_) (fun bi => ?_))))))))
   ·
    refine wp_skip (J2 _ _ (wp_block (zH (zG (zC a6 rfl a8) (op_add (zA a6 rfl) rfl (add64 zx) (zD (zA a6 rfl) (zB (blk_normal ?_))))))))
    -- round 65F 101T 112T
    exact zg _ a6 be ⟨(i3 + 1), rfl, (zL a6 rfl a7), (zL a6 rfl ba), (zL a6 rfl bc), (zL a6 rfl bb), (zL a6 rfl a9), (zU a6 rfl).trans (congrArg (Value.int .i64) zx), zx, (bd.trans (scanUp_go zx bi)), hb, zx, aS⟩ zx
   refine wp_exit (then_exit (then_exit (blk_hit (J1 _ _ ?_))))
   exact a5 _ _ _ a6 be ⟨i3, (zL a6 rfl a7), (zL a6 rfl ba), (zL a6 rfl bc), (zL a6 rfl bb), (zL a6 rfl a9), (zL a6 rfl a8), zx, (bd.trans (scanUp_stop (.inr bi))), (fun _ => bi), hb, zx, aS⟩
  refine st_step rfl (fun _ h9 => op_cmp (b := false) (zA a6 rfl) (zA a6 rfl) (b_leq (decide_eq_false bg)) h9) (st_step rfl (fun _ h9 => zG (zA a6 rfl) h9) (st_g_false (j := 3) (dj := 102) (b := true) rfl rfl rfl (zA a6 rfl) rfl rfl (st_g_false (j := 3) (dj := 102) (b := true) rfl rfl rfl (zA a6 rfl) rfl rfl (st_g_false (j := 3) (dj := 102) (b := true) rfl rfl rfl (zA a6 rfl) rfl rfl ?_))))
  refine st_g_false (j := 3) (dj := 102) (b := true) rfl rfl rfl (zA a6 rfl) rfl rfl (st_g_false (j := 3) (dj := 102) (b := true) rfl rfl rfl (zA a6 rfl) rfl rfl (st_g_false (j := 3) (dj := 102) (b := true) rfl rfl rfl (zA a6 rfl) rfl rfl (st_g_false (j := 3) (dj := 102) (b := true) rfl rfl rfl (zA a6 rfl) rfl rfl (st_g_false (j := 3) (dj := 102) (b := true) rfl rfl rfl (zA a6 rfl) rfl rfl (st_g_false (j := 3) (dj := 102) (b := true) rfl rfl rfl (zA a6 rfl) rfl rfl (st_step rfl (fun _ h9 => zd (zA a6 rfl) rfl h9) (st_nil (J3 _ _ (wp_cond_false (zA a6 rfl) (wp_exit (then_exit (then_exit (blk_hit (J1 _ _ ?_))))))))))))))
  exact a5 _ _ _ a6 be ⟨i3, (zL a6 rfl a7), (zL a6 rfl ba), (zL a6 rfl bc), (zL a6 rfl bb), (zL a6 rfl a9), (zL a6 rfl a8), zx, (bd.trans (scanUp_stop (.inl zx))), (fun hq => absurd hq zx), hb, zx, aS⟩
 rintro bi a7 a6 ba ⟨i3, bc, be, a9, bb, bg, bd, bf, a8, bh, hb, bj, aS⟩
 have := hb.size
 refine seq_join1 (N := 168) (fun az_ w' => ∃ (j3 : Nat), (Sl az_ 0 v) ∧ (Sl az_ 1 (.int .i64 ((a : Nat) : Int))) ∧ (Sl az_ 8 (.int .i64 0)) ∧ (Sl az_ 9 (.bool false)) ∧ (Sl az_ 10 (.int .i64 ((i3 : Nat) : Int))) ∧ (Sl az_ 11 (.int .i64 ((j3 : Nat) : Int))) ∧ (j3 ≤ jj ∧ i3 ≤ j3 + 1) ∧ (scanDown (fun x => !ltT x dk[a]!) dk i3 jj = j3) ∧ (i3 ≠ j3) ∧ (w.grownBy w' v.ownBlock) ∧ (a7.heap.size ≤ w'.heap.size) ∧ (Own w' base 46 1 v n (dk.toList.map u16v))) (fun bf => ?_) ?_
 ·
  refine zF fun _ J1 => wp_block (loop_m (fun mz_ az_ w' => ∃ (j3 : Nat), mz_ = (j3 + 1) ∧ (Sl az_ 0 v) ∧ (Sl az_ 1 (.int .i64 ((a : Nat) : Int))) ∧ (Sl az_ 8 (.int .i64 0)) ∧ (Sl az_ 9 (.bool false)) ∧ (Sl az_ 10 (.int .i64 ((i3 : Nat) : Int))) ∧ (Sl az_ 11 (.int .i64 ((j3 : Nat) : Int))) ∧ (j3 ≤ jj ∧ i3 ≤ j3 + 1) ∧ (scanDown (fun x => !ltT x dk[a]!) dk i3 jj = scanDown (fun x => !ltT x dk[a]!) dk i3 j3) ∧ (w.grownBy w' v.ownBlock) ∧ (a7.heap.size ≤ w'.heap.size) ∧ (Own w' base 46 1 v n (dk.toList.map u16v))) _ a6 ba ⟨jj, rfl, (zL a6 rfl bc), (zL a6 rfl be), (zL a6 rfl a9), (zL a6 rfl bb), (zL a6 rfl bd), (zL a6 rfl bg).trans (congrArg (Value.int .i64) zx), zx, rfl, hb, (Nat.le_refl _), aS⟩ ?_)
  rintro _ bw bA bk br ⟨j3, rfl, bm, bo, bq, bp, bn, bl, bu, bt, hb, bv, aS⟩
  have := hb.size
  refine zF fun _ J2 => zF fun _ J3 => reg_still mixed zy ?_
  intro bw bv
  have := bv.size
  have aS := aS.keep0 bv
  have hb := grow_step0 hb bv
  refine st_step rfl (fun _ h9 => zG (zC bk rfl bn) h9) (st_step rfl (fun _ h9 => zG (zC bk rfl bl) h9) ?_)
  by_cases bv : ((i3 : Nat) : Int) ≤ ((j3 : Nat) : Int)
  ·
   refine st_step rfl (fun _ h9 => op_cmp (b := true) (zA bk rfl) (zA bk rfl) (b_leq (decide_eq_true bv)) h9) (st_step rfl (fun _ h9 => zG (zA bk rfl) h9) (st_g_true (j := 3) (dj := 118) (b := true) rfl rfl rfl (zA bk rfl) (st_step rfl (fun _ h9 => zG (zC bk rfl bm) h9) (st_g_true (j := 3) (dj := 118) (b := true) rfl rfl rfl (zA bk rfl) (st_step rfl (fun _ h9 => zG (zC bk rfl bl) h9) (st_g_true (j := 3) (dj := 118) (b := true) rfl rfl rfl (zA bk rfl) (st_index_rd slt45 (zA bk rfl) aS.rdw (zA bk rfl) zx zx ?_)))))))
   intro bA bD bB bC bw
   refine st_g_true (j := 3) (dj := 118) (b := true) rfl rfl rfl (zA bk rfl) (st_step rfl (fun _ h9 => zN (v := (Value.int .u16 (dk[j3]!.toNat : Int))) one46 (zA bk rfl) (by have := bw 0 (.int .u16 (dk[j3]!.toNat : Int)) zz (el_arr (i := j3) zx (by first | omega | (simp only [Array.size_setIfInBounds, swp_sz, siftDown_size]; omega))); simpa using this) h9) (st_g_true (j := 3) (dj := 118) (b := true) rfl rfl rfl (zA bk rfl) (st_step rfl (fun _ h9 => zG (zC bk rfl bm) h9) (st_g_true (j := 3) (dj := 118) (b := true) rfl rfl rfl (zA bk rfl) (st_step rfl (fun _ h9 => zG (zC bk rfl bo) h9) (st_g_true (j := 3) (dj := 118) (b := true) rfl rfl rfl (zA bk rfl) (st_index_rd slt45 (zA bk rfl) aS.rdw (zA bk rfl) zx zx ?_)))))))
   intro bB bD bC bA bw
   refine st_g_true (j := 3) (dj := 118) (b := true) rfl rfl rfl (zA bk rfl) (st_step rfl (fun _ h9 => zN (v := (Value.int .u16 (dk[a]!.toNat : Int))) one46 (zA bk rfl) (by have := bw 0 (.int .u16 (dk[a]!.toNat : Int)) zz (el_arr (i := a) zx (by first | omega | (simp only [Array.size_setIfInBounds, swp_sz, siftDown_size]; omega))); simpa using this) h9) (st_g_true (j := 3) (dj := 118) (b := true) rfl rfl rfl (zA bk rfl) (st_fn (vs := [(.int .u16 (dk[j3]!.toNat : Int)), (.int .u16 (dk[a]!.toNat : Int))]) ok159 (⟨(zA bk rfl), ⟨(zA bk rfl), trivial⟩⟩) (Less16_ret dk[j3]! dk[a]! _) (st_g_true (j := 3) (dj := 118) (b := true) rfl rfl rfl (zA bk rfl) (st_step rfl (fun _ h9 => op_not (zA bk rfl) h9) (st_step rfl (fun _ h9 => zc (zA bk rfl) (zA bk rfl) h9) (st_nil (J3 _ _ (wp_cond_split (zA bk rfl) (fun bA => ?_) (fun bA => ?_))))))))))
   ·
    refine wp_skip (J2 _ _ (wp_block (zH (zG (zC bk rfl bl) (op_sub (zA bk rfl) rfl (sub64 zx) (zD (zA bk rfl) (zB (blk_normal ?_))))))))
    -- round 65F 117T 129T
    exact zg _ bk br ⟨(j3 - 1), rfl, (zL bk rfl bm), (zL bk rfl bo), (zL bk rfl bq), (zL bk rfl bp), (zL bk rfl bn), (zU bk rfl).trans (congrArg (Value.int .i64) zx), zx, (bt.trans (scanDown_go zx zx bA)), hb, zx, aS⟩ zx
   refine wp_exit (then_exit (then_exit (blk_hit (J1 _ _ ?_))))
   exact bf _ _ _ bk br ⟨j3, (zL bk rfl bm), (zL bk rfl bo), (zL bk rfl bq), (zL bk rfl bp), (zL bk rfl bn), (zL bk rfl bl), zx, (bt.trans (scanDown_stop (.inr bA))), (fun hh => by have h9 := bh zx; rw [hh] at h9; rw [h9] at bA; simp at bA), hb, zx, aS⟩
  refine st_step rfl (fun _ h9 => op_cmp (b := false) (zA bk rfl) (zA bk rfl) (b_leq (decide_eq_false bv)) h9) (st_step rfl (fun _ h9 => zG (zA bk rfl) h9) (st_g_false (j := 3) (dj := 118) (b := true) rfl rfl rfl (zA bk rfl) rfl rfl (st_g_false (j := 3) (dj := 118) (b := true) rfl rfl rfl (zA bk rfl) rfl rfl (st_g_false (j := 3) (dj := 118) (b := true) rfl rfl rfl (zA bk rfl) rfl rfl (st_g_false (j := 3) (dj := 118) (b := true) rfl rfl rfl (zA bk rfl) rfl rfl ?_)))))
  refine st_g_false (j := 3) (dj := 118) (b := true) rfl rfl rfl (zA bk rfl) rfl rfl (st_g_false (j := 3) (dj := 118) (b := true) rfl rfl rfl (zA bk rfl) rfl rfl (st_g_false (j := 3) (dj := 118) (b := true) rfl rfl rfl (zA bk rfl) rfl rfl (st_g_false (j := 3) (dj := 118) (b := true) rfl rfl rfl (zA bk rfl) rfl rfl (st_g_false (j := 3) (dj := 118) (b := true) rfl rfl rfl (zA bk rfl) rfl rfl (st_g_false (j := 3) (dj := 118) (b := true) rfl rfl rfl (zA bk rfl) rfl rfl (st_step rfl (fun _ h9 => zd (zA bk rfl) rfl h9) (st_nil (J3 _ _ (wp_cond_false (zA bk rfl) (wp_exit (then_exit (then_exit (blk_hit (J1 _ _ ?_))))))))))))))
  exact bf _ _ _ bk br ⟨j3, (zL bk rfl bm), (zL bk rfl bo), (zL bk rfl bq), (zL bk rfl bp), (zL bk rfl bn), (zL bk rfl bl), zx, (bt.trans (scanDown_stop (.inl zx))), zx, hb, zx, aS⟩
 rintro bB bv bk bq ⟨j3, bl, bo, br, bt, bn, bm, bu, bp, bw, hb, bA, aS⟩
 have := hb.size
 refine zF fun _ J1 => zF fun _ J2 => zH (zG (zC bk rfl bn) (zG (zC bk rfl bm) (op_gtr (zA bk rfl) (zA bk rfl) (fun bu => ?_) (fun bu => ?_))))
 ·
  refine zB (J2 _ _ (wp_cond_true (zA bk rfl) (wp_exit (then_exit (blk_miss zz (then_exit (blk_hit (m _ _ (zF fun _ m => reg_mid (e := 46) (sz := 1) (base := base) (n := n) (v := v) (Φ := phiL [(fun uz _ => uz = v), (fun uz _ => uz = (.int .i64 ((j3 : Nat) : Int))), (fun uz _ => uz = v), (fun uz _ => uz = (.int .i64 ((a : Nat) : Int))), (fun uz _ => uz = v), (fun uz _ => uz = (.int .i64 ((a : Nat) : Int))), (fun uz _ => ∃ bz oz, uz = ptr bz oz ∧ AtV v a bz oz), (fun uz _ => uz = (.int .u16 (dk[a]!.toNat : Int))), (fun uz _ => uz = v), (fun uz _ => uz = (.int .i64 ((j3 : Nat) : Int))), (fun uz _ => ∃ bz oz, uz = ptr bz oz ∧ AtV v j3 bz oz), (fun uz _ => uz = (.int .u16 (dk[j3]!.toNat : Int))), (fun uz _ => ∃ bz oz, uz = ptr bz oz ∧ AtV v j3 bz oz), (fun _ _ => True), (fun uz _ => ∃ bz oz, uz = ptr bz oz ∧ AtV v a bz oz), (fun _ _ => True)]) [13, 15] [(dk.toList.map u16v), ((dk.setIfInBounds j3 dk[a]!).toList.map u16v), (((dk.setIfInBounds j3 dk[a]!).setIfInBounds a dk[j3]!).toList.map u16v)] mixed zy zy zy zy bk aS (StL.get (StL.eq (StL.eq (StL.eq (StL.eq (StL.eq (StL.eq (StL.at (StL.eq (StL.eq (StL.eq (StL.at (StL.eq (StL.at (StL.cons (fun _ _ _ _ h => h) (StL.at (StL.cons (fun _ _ _ _ h => h) (StL.nil _)))))))))))))))))) (ObRs.get (ObRs.cons ?_ (ObRs.cons ?_ (ObRs.cons ?_ (ObRs.cons ?_ (ObRs.cons ?_ (ObRs.cons ?_ (ObRs.cons ?_ (ObRs.cons ?_ (ObRs.cons ?_ (ObRs.cons ?_ (ObRs.cons ?_ (ObRs.cons ?_ (ObRs.cons ?_ (ObRs.pass rfl (ObRs.cons ?_ (ObRs.pass rfl (ObRs.nil)))))))))))))))))) (ObWs.get (ObWs.cons ?_ (ObWs.cons ?_ (ObWs.nil)))) ?_)))))))))
  ·
   intro aA wA cA hNA hRA hckA hOA hbsA hdpA
   have o := (hbsA 0 rfl).trans (zL bk rfl bl)
   clear hbsA hdpA
   refine zG (zC hNA rfl o) ?_
   exact obR_end rfl rfl (grown_refl _ _)
  ·
   intro aA wA cA hNA hRA hckA hOA hbsA hdpA
   have aC := (hbsA 11 rfl).trans (zL bk rfl bm)
   clear hbsA hdpA
   refine zG (zC hNA rfl aC) ?_
   exact obR_end rfl rfl (grown_refl _ _)
  ·
   intro aA wA cA hNA hRA hckA hOA hbsA hdpA
   have o := (hbsA 0 rfl).trans (zL bk rfl bl)
   clear hbsA hdpA
   refine zG (zC hNA rfl o) ?_
   exact obR_end rfl rfl (grown_refl _ _)
  ·
   intro aA wA cA hNA hRA hckA hOA hbsA hdpA
   have p := (hbsA 1 rfl).trans (zL bk rfl bo)
   clear hbsA hdpA
   refine zG (zC hNA rfl p) ?_
   exact obR_end rfl rfl (grown_refl _ _)
  ·
   intro aA wA cA hNA hRA hckA hOA hbsA hdpA
   have o := (hbsA 0 rfl).trans (zL bk rfl bl)
   clear hbsA hdpA
   refine zG (zC hNA rfl o) ?_
   exact obR_end rfl rfl (grown_refl _ _)
  ·
   intro aA wA cA hNA hRA hckA hOA hbsA hdpA
   have p := (hbsA 1 rfl).trans (zL bk rfl bo)
   clear hbsA hdpA
   refine zG (zC hNA rfl p) ?_
   exact obR_end rfl rfl (grown_refl _ _)
  ·
   intro aA wA cA hNA hRA hckA hOA hbsA hdpA
   have p : Sl aA 157 v := hdpA 4 _ 157 zy rfl rfl
   have bC : Sl aA 158 (.int .i64 ((a : Nat) : Int)) := hdpA 5 _ 158 zy rfl rfl
   clear hbsA hdpA
   refine op_index_own (i := a) slt45 (zC hNA rfl p) hOA (zC hNA rfl bC) zx zx ?_
   intro b_ o_ _ hA_
   exact obR_end rfl ⟨b_, o_, rfl, by simpa using hA_⟩ (grown_refl _ _)
  ·
   intro aA wA cA hNA hRA hckA hOA hbsA hdpA
   obtain ⟨bE, bD, p, bC⟩ := hdpA 6 _ 159 zy rfl rfl
   clear hbsA hdpA
   obtain rfl : cA = 0 := Nat.le_zero.1 (hckA 0 13 rfl zy)
   have hOA : Own wA base 46 1 v n (dk.toList.map u16v) := hOA
   refine zN (v := (Value.int .u16 (dk[a]!.toNat : Int))) one46 (zC hNA rfl p) (by have := hOA.cellAt bC 0 _ (el_at (i := a) (by first | omega | (simp only [Array.size_setIfInBounds, swp_sz, siftDown_size]; omega))); simpa using this) ?_
   exact obR_end rfl rfl (grown_refl _ _)
  ·
   intro aA wA cA hNA hRA hckA hOA hbsA hdpA
   have o := (hbsA 0 rfl).trans (zL bk rfl bl)
   clear hbsA hdpA
   refine zG (zC hNA rfl o) ?_
   exact obR_end rfl rfl (grown_refl _ _)
  ·
   intro aA wA cA hNA hRA hckA hOA hbsA hdpA
   have aC := (hbsA 11 rfl).trans (zL bk rfl bm)
   clear hbsA hdpA
   refine zG (zC hNA rfl aC) ?_
   exact obR_end rfl rfl (grown_refl _ _)
  ·
   intro aA wA cA hNA hRA hckA hOA hbsA hdpA
   have p : Sl aA 161 v := hdpA 8 _ 161 zy rfl rfl
   have bC : Sl aA 162 (.int .i64 ((j3 : Nat) : Int)) := hdpA 9 _ 162 zy rfl rfl
   clear hbsA hdpA
   refine op_index_own (i := j3) slt45 (zC hNA rfl p) hOA (zC hNA rfl bC) zx zx ?_
   intro b_ o_ _ hA_
   exact obR_end rfl ⟨b_, o_, rfl, by simpa using hA_⟩ (grown_refl _ _)
  ·
   intro aA wA cA hNA hRA hckA hOA hbsA hdpA
   obtain ⟨bE, bD, bC, p⟩ := hdpA 10 _ 163 zy rfl rfl
   clear hbsA hdpA
   obtain rfl : cA = 0 := Nat.le_zero.1 (hckA 0 13 rfl zy)
   have hOA : Own wA base 46 1 v n (dk.toList.map u16v) := hOA
   refine zN (v := (Value.int .u16 (dk[j3]!.toNat : Int))) one46 (zC hNA rfl bC) (by have := hOA.cellAt p 0 _ (el_at (i := j3) (by first | omega | (simp only [Array.size_setIfInBounds, swp_sz, siftDown_size]; omega))); simpa using this) ?_
   exact obR_end rfl rfl (grown_refl _ _)
  ·
   intro aA wA cA hNA hRA hckA hOA hbsA hdpA
   have p : Sl aA 153 v := hdpA 0 _ 153 zy rfl rfl
   have bC : Sl aA 154 (.int .i64 ((j3 : Nat) : Int)) := hdpA 1 _ 154 zy rfl rfl
   clear hbsA hdpA
   refine op_index_own (i := j3) slt45 (zC hNA rfl p) hOA (zC hNA rfl bC) zx zx ?_
   intro b_ o_ _ hA_
   exact obR_end rfl ⟨b_, o_, rfl, by simpa using hA_⟩ (grown_refl _ _)
  ·
   intro aA wA cA hNA hRA hckA hOA hbsA hdpA
   have p : Sl aA 155 v := hdpA 2 _ 155 zy rfl rfl
   have bC : Sl aA 156 (.int .i64 ((a : Nat) : Int)) := hdpA 3 _ 156 zy rfl rfl
   clear hbsA hdpA
   refine op_index_own (i := a) slt45 (zC hNA rfl p) hOA (zC hNA rfl bC) zx zx ?_
   intro b_ o_ _ hA_
   exact obR_end rfl ⟨b_, o_, rfl, by simpa using hA_⟩ (grown_refl _ _)
  ·
   intro o_ ho_; obtain rfl := zE ho_; intro aA wA hNA hRA hbsA hdpA hOA
   obtain ⟨bE, bD, p, bC⟩ := hdpA 12 _ 165 zy rfl rfl
   have bD : Sl aA 160 (.int .u16 (dk[a]!.toNat : Int)) := hdpA 7 _ 160 zy rfl rfl
   clear hbsA hdpA
   have hOA : Own wA base 46 1 v n (dk.toList.map u16v) := hOA
   refine op_store_own (vs := [(.int .u16 (dk[a]!.toNat : Int))]) size46 (zC hNA rfl p) (zC hNA rfl bD) rfl rfl rfl hOA bC (by have := hOA.1; simp at this ⊢; omega) ?_
   intro w_ hO_ E_
   exact obW_end rfl (hO_.cast rfl (set_arr (by first | omega | (simp only [Array.size_setIfInBounds, swp_sz, siftDown_size]; omega)))) E_
  ·
   intro o_ ho_; obtain rfl := zE ho_; intro aA wA hNA hRA hbsA hdpA hOA
   obtain ⟨bD, bE, p, bC⟩ := hdpA 14 _ 166 zy rfl rfl
   have bD : Sl aA 164 (.int .u16 (dk[j3]!.toNat : Int)) := hdpA 11 _ 164 zy rfl rfl
   clear hbsA hdpA
   have hOA : Own wA base 46 1 v n ((dk.setIfInBounds j3 dk[a]!).toList.map u16v) := hOA
   refine op_store_own (vs := [(.int .u16 (dk[j3]!.toNat : Int))]) size46 (zC hNA rfl p) (zC hNA rfl bD) rfl rfl rfl hOA bC (by have := hOA.1; simp at this ⊢; omega) ?_
   intro w_ hO_ E_
   exact obW_end rfl (hO_.cast rfl (set_arr (by first | omega | (simp only [Array.size_setIfInBounds, swp_sz, siftDown_size]; omega)))) E_
  intro bI bG p bC bE bH bD bF
  have bC := bC.trans bq
  have bI := (bE 11 rfl).trans (zL bk rfl bm)
  clear bE bH
  have bD : Own bG base 46 1 v n (((dk.setIfInBounds j3 dk[a]!).setIfInBounds a dk[j3]!).toList.map u16v) := bD
  have := bF.size
  have hb := grow_stepX hb bF rfl
  refine m _ _ (zF fun _ m => zH (zG (zC p rfl bI) (zD (zA p rfl) (zD rfl (zB (m _ _ (wp_ret (ret2 rfl bC (zA p rfl) (zA p rfl) ⟨_, rfl, ?_⟩))))))))
  have hp := hs.trans (pl_stop a8 bp zx)
  have hq := pt_go s ab ar zx
  rw [hp] at hq
  exact ⟨hb, by rw [hq]; rfl, bD.cast rfl (by rw [hq]; rfl)⟩
 refine zB (J2 _ _ (wp_cond_false (zA bk rfl) (wp_skip (J1 _ _ (zF fun _ J1 => reg_mid (e := 46) (sz := 1) (base := base) (n := n) (v := v) (Φ := phiL [(fun uz _ => uz = v), (fun uz _ => uz = (.int .i64 ((i3 : Nat) : Int))), (fun uz _ => uz = v), (fun uz _ => uz = (.int .i64 ((j3 : Nat) : Int))), (fun uz _ => uz = v), (fun uz _ => uz = (.int .i64 ((j3 : Nat) : Int))), (fun uz _ => ∃ bz oz, uz = ptr bz oz ∧ AtV v j3 bz oz), (fun uz _ => uz = (.int .u16 (dk[j3]!.toNat : Int))), (fun uz _ => uz = v), (fun uz _ => uz = (.int .i64 ((i3 : Nat) : Int))), (fun uz _ => ∃ bz oz, uz = ptr bz oz ∧ AtV v i3 bz oz), (fun uz _ => uz = (.int .u16 (dk[i3]!.toNat : Int))), (fun uz _ => ∃ bz oz, uz = ptr bz oz ∧ AtV v i3 bz oz), (fun _ _ => True), (fun uz _ => ∃ bz oz, uz = ptr bz oz ∧ AtV v j3 bz oz), (fun _ _ => True)]) [13, 15] [(dk.toList.map u16v), ((dk.setIfInBounds i3 dk[j3]!).toList.map u16v), (((dk.setIfInBounds i3 dk[j3]!).setIfInBounds j3 dk[i3]!).toList.map u16v)] mixed zy zy zy zy bk aS (StL.get (StL.eq (StL.eq (StL.eq (StL.eq (StL.eq (StL.eq (StL.at (StL.eq (StL.eq (StL.eq (StL.at (StL.eq (StL.at (StL.cons (fun _ _ _ _ h => h) (StL.at (StL.cons (fun _ _ _ _ h => h) (StL.nil _)))))))))))))))))) (ObRs.get (ObRs.cons ?_ (ObRs.cons ?_ (ObRs.cons ?_ (ObRs.cons ?_ (ObRs.cons ?_ (ObRs.cons ?_ (ObRs.cons ?_ (ObRs.cons ?_ (ObRs.cons ?_ (ObRs.cons ?_ (ObRs.cons ?_ (ObRs.cons ?_ (ObRs.cons ?_ (ObRs.pass rfl (ObRs.cons ?_ (ObRs.pass rfl (ObRs.nil)))))))))))))))))) (ObWs.get (ObWs.cons ?_ (ObWs.cons ?_ (ObWs.nil)))) ?_)))))
 ·
  intro aA wA cA hNA hRA hckA hOA hbsA hdpA
  have o := (hbsA 0 rfl).trans (zL bk rfl bl)
  clear hbsA hdpA
  refine zG (zC hNA rfl o) ?_
  exact obR_end rfl rfl (grown_refl _ _)
 ·
  intro aA wA cA hNA hRA hckA hOA hbsA hdpA
  have aD := (hbsA 10 rfl).trans (zL bk rfl bn)
  clear hbsA hdpA
  refine zG (zC hNA rfl aD) ?_
  exact obR_end rfl rfl (grown_refl _ _)
 ·
  intro aA wA cA hNA hRA hckA hOA hbsA hdpA
  have o := (hbsA 0 rfl).trans (zL bk rfl bl)
  clear hbsA hdpA
  refine zG (zC hNA rfl o) ?_
  exact obR_end rfl rfl (grown_refl _ _)
 ·
  intro aA wA cA hNA hRA hckA hOA hbsA hdpA
  have aC := (hbsA 11 rfl).trans (zL bk rfl bm)
  clear hbsA hdpA
  refine zG (zC hNA rfl aC) ?_
  exact obR_end rfl rfl (grown_refl _ _)
 ·
  intro aA wA cA hNA hRA hckA hOA hbsA hdpA
  have o := (hbsA 0 rfl).trans (zL bk rfl bl)
  clear hbsA hdpA
  refine zG (zC hNA rfl o) ?_
  exact obR_end rfl rfl (grown_refl _ _)
 ·
  intro aA wA cA hNA hRA hckA hOA hbsA hdpA
  have aC := (hbsA 11 rfl).trans (zL bk rfl bm)
  clear hbsA hdpA
  refine zG (zC hNA rfl aC) ?_
  exact obR_end rfl rfl (grown_refl _ _)
 ·
  intro aA wA cA hNA hRA hckA hOA hbsA hdpA
  have p : Sl aA 139 v := hdpA 4 _ 139 zy rfl rfl
  have aC : Sl aA 140 (.int .i64 ((j3 : Nat) : Int)) := hdpA 5 _ 140 zy rfl rfl
  clear hbsA hdpA
  refine op_index_own (i := j3) slt45 (zC hNA rfl p) hOA (zC hNA rfl aC) zx zx ?_
  intro b_ o_ _ hA_
  exact obR_end rfl ⟨b_, o_, rfl, by simpa using hA_⟩ (grown_refl _ _)
 ·
  intro aA wA cA hNA hRA hckA hOA hbsA hdpA
  obtain ⟨bC, bD, p, aC⟩ := hdpA 6 _ 141 zy rfl rfl
  clear hbsA hdpA
  obtain rfl : cA = 0 := Nat.le_zero.1 (hckA 0 13 rfl zy)
  have hOA : Own wA base 46 1 v n (dk.toList.map u16v) := hOA
  refine zN (v := (Value.int .u16 (dk[j3]!.toNat : Int))) one46 (zC hNA rfl p) (by have := hOA.cellAt aC 0 _ (el_at (i := j3) (by first | omega | (simp only [Array.size_setIfInBounds, swp_sz, siftDown_size]; omega))); simpa using this) ?_
  exact obR_end rfl rfl (grown_refl _ _)
 ·
  intro aA wA cA hNA hRA hckA hOA hbsA hdpA
  have o := (hbsA 0 rfl).trans (zL bk rfl bl)
  clear hbsA hdpA
  refine zG (zC hNA rfl o) ?_
  exact obR_end rfl rfl (grown_refl _ _)
 ·
  intro aA wA cA hNA hRA hckA hOA hbsA hdpA
  have aD := (hbsA 10 rfl).trans (zL bk rfl bn)
  clear hbsA hdpA
  refine zG (zC hNA rfl aD) ?_
  exact obR_end rfl rfl (grown_refl _ _)
 ·
  intro aA wA cA hNA hRA hckA hOA hbsA hdpA
  have o : Sl aA 143 v := hdpA 8 _ 143 zy rfl rfl
  have p : Sl aA 144 (.int .i64 ((i3 : Nat) : Int)) := hdpA 9 _ 144 zy rfl rfl
  clear hbsA hdpA
  refine op_index_own (i := i3) slt45 (zC hNA rfl o) hOA (zC hNA rfl p) zx zx ?_
  intro b_ o_ _ hA_
  exact obR_end rfl ⟨b_, o_, rfl, by simpa using hA_⟩ (grown_refl _ _)
 ·
  intro aA wA cA hNA hRA hckA hOA hbsA hdpA
  obtain ⟨aC, aD, o, p⟩ := hdpA 10 _ 145 zy rfl rfl
  clear hbsA hdpA
  obtain rfl : cA = 0 := Nat.le_zero.1 (hckA 0 13 rfl zy)
  have hOA : Own wA base 46 1 v n (dk.toList.map u16v) := hOA
  refine zN (v := (Value.int .u16 (dk[i3]!.toNat : Int))) one46 (zC hNA rfl o) (by have := hOA.cellAt p 0 _ (el_at (i := i3) (by first | omega | (simp only [Array.size_setIfInBounds, swp_sz, siftDown_size]; omega))); simpa using this) ?_
  exact obR_end rfl rfl (grown_refl _ _)
 ·
  intro aA wA cA hNA hRA hckA hOA hbsA hdpA
  have o : Sl aA 135 v := hdpA 0 _ 135 zy rfl rfl
  have p : Sl aA 136 (.int .i64 ((i3 : Nat) : Int)) := hdpA 1 _ 136 zy rfl rfl
  clear hbsA hdpA
  refine op_index_own (i := i3) slt45 (zC hNA rfl o) hOA (zC hNA rfl p) zx zx ?_
  intro b_ o_ _ hA_
  exact obR_end rfl ⟨b_, o_, rfl, by simpa using hA_⟩ (grown_refl _ _)
 ·
  intro aA wA cA hNA hRA hckA hOA hbsA hdpA
  have o : Sl aA 137 v := hdpA 2 _ 137 zy rfl rfl
  have p : Sl aA 138 (.int .i64 ((j3 : Nat) : Int)) := hdpA 3 _ 138 zy rfl rfl
  clear hbsA hdpA
  refine op_index_own (i := j3) slt45 (zC hNA rfl o) hOA (zC hNA rfl p) zx zx ?_
  intro b_ o_ _ hA_
  exact obR_end rfl ⟨b_, o_, rfl, by simpa using hA_⟩ (grown_refl _ _)
 ·
  intro o_ ho_; obtain rfl := zE ho_; intro aA wA hNA hRA hbsA hdpA hOA
  obtain ⟨aD, aC, p, o⟩ := hdpA 12 _ 147 zy rfl rfl
  have aC : Sl aA 142 (.int .u16 (dk[j3]!.toNat : Int)) := hdpA 7 _ 142 zy rfl rfl
  clear hbsA hdpA
  have hOA : Own wA base 46 1 v n (dk.toList.map u16v) := hOA
  refine op_store_own (vs := [(.int .u16 (dk[j3]!.toNat : Int))]) size46 (zC hNA rfl p) (zC hNA rfl aC) rfl rfl rfl hOA o (by have := hOA.1; simp at this ⊢; omega) ?_
  intro w_ hO_ E_
  exact obW_end rfl (hO_.cast rfl (set_arr (by first | omega | (simp only [Array.size_setIfInBounds, swp_sz, siftDown_size]; omega)))) E_
 ·
  intro o_ ho_; obtain rfl := zE ho_; intro aA wA hNA hRA hbsA hdpA hOA
  obtain ⟨aD, aC, p, o⟩ := hdpA 14 _ 148 zy rfl rfl
  have c : Sl aA 146 (.int .u16 (dk[i3]!.toNat : Int)) := hdpA 11 _ 146 zy rfl rfl
  clear hbsA hdpA
  have hOA : Own wA base 46 1 v n ((dk.setIfInBounds i3 dk[j3]!).toList.map u16v) := hOA
  refine op_store_own (vs := [(.int .u16 (dk[i3]!.toNat : Int))]) size46 (zC hNA rfl p) (zC hNA rfl c) rfl rfl rfl hOA o (by have := hOA.1; simp at this ⊢; omega) ?_
  intro w_ hO_ E_
  exact obW_end rfl (hO_.cast rfl (set_arr (by first | omega | (simp only [Array.size_setIfInBounds, swp_sz, siftDown_size]; omega)))) E_
 intro p m c k f o g l
 have k := k.trans bq
 have p := (f 0 rfl).trans (zL bk rfl bl)
 have q := (f 1 rfl).trans (zL bk rfl bo)
 have s := (f 8 rfl).trans (zL bk rfl br)
 have t := (f 9 rfl).trans (zL bk rfl bt)
 have u := (f 10 rfl).trans (zL bk rfl bn)
 have y := (f 11 rfl).trans (zL bk rfl bm)
 clear f o
 have g : Own m base 46 1 v n (((dk.setIfInBounds i3 dk[j3]!).setIfInBounds j3 dk[i3]!).toList.map u16v) := g
 have := l.size
 have hb := grow_stepX hb l rfl
 refine J1 _ _ (zF fun _ J1 => zH ?_)
 refine zG (zC c rfl u) (op_add (zA c rfl) rfl (add64 zx) (zD (zA c rfl) (zB (J1 _ _ (zH (zG (zC c rfl y) (op_sub (zA c rfl) rfl (sub64 zx) (zD (zA c rfl) (zB (blk_normal ?_))))))))))
 -- round 65F 134F
 exact zg _ c k ⟨(i3 + 1), (j3 - 1), _, rfl, (zL c rfl p), (zL c rfl q), (zL c rfl s), (zL c rfl t), (zU c rfl).trans (congrArg (Value.int .i64) zx), (zU c rfl).trans (congrArg (Value.int .i64) zx), (by first | assumption | (simp only [Array.size_setIfInBounds, swp_sz, siftDown_size]; assumption)), zx, (hs.trans (pl_go a8 bp zx)), hb, zx, g⟩ zx

end Go.Proofs.Ytmhdbphpmgjpcaa
