/- Walks, written by a program: what each function of the translation hands back. -/
import Derived.Test.YtdhpalioifjfbaaB4
set_option linter.unusedVariables false
set_option linter.unusedSimpArgs false

namespace Go.Proofs.Ytdhpalioifjfbaa
open Go.Gx Go.RowKit
attribute [local irreducible] wpList wpStill Code.wp Calls
open Go.Sort (insertionSort insOuter insInner swp siftDown heapSort heapBuild heapPop scanUp scanDown partition partLoop partitionEqual partEqLoop scanSorted partialIns bitsLen partialInsertionSort shiftDown shiftUp SortedIn reverseRange reverseLoop fixDown fixUp)
set_option maxHeartbeats 2000000 in
theorem partW_ret (d : Ar) (v : Value) (n base : Nat) (a b pv : Nat) (w : World) (hd : d.size = n) (hn : n ≤ 4000000000000000000) (O : Own w base 57 1 v n (d.toList.map u64v)) (hap : a ≤ pv) (hpb : pv < b) (hbn : b ≤ n) : Ret Try.prog 75 #[v, (.int .i64 ((a : Nat) : Int)), (.int .i64 ((b : Nat) : Int)), (.int .i64 ((pv : Nat) : Int))] w (fun v' w' => w.grownBy w' v.ownBlock ∧ v' = .tuple #[.int .i64 ((partition ltT d a b pv).1 : Int), .bool (partition ltT d a b pv).2.1] ∧ Own w' base 57 1 v n ((partition ltT d a b pv).2.2.toList.map u64v)) := by
 have hb := grown_refl w v.ownBlock
 refine enter (N := 168) Try.func75 rfl rfl (by simp) fun c hN hd hA => ?_
 have f : c.tmps.getD 0 undef = v := hA 0 (by simp)
 have g : c.tmps.getD 1 undef = (.int .i64 ((a : Nat) : Int)) := hA 1 (by simp)
 have k : c.tmps.getD 2 undef = (.int .i64 ((b : Nat) : Int)) := hA 2 (by simp)
 have l : c.tmps.getD 3 undef = (.int .i64 ((pv : Nat) : Int)) := hA 3 (by simp)
 clear hA
 refine zF fun _ c => zH (zD rfl (zD rfl (zB (c _ _ (zF fun _ c => reg_mid (e := 57) (sz := 1) (base := base) (n := n) (v := v) (Φ := phiL [(fun uz _ => uz = v), (fun uz _ => uz = (.int .i64 ((a : Nat) : Int))), (fun uz _ => uz = v), (fun uz _ => uz = (.int .i64 ((pv : Nat) : Int))), (fun uz _ => uz = v), (fun uz _ => uz = (.int .i64 ((pv : Nat) : Int))), (fun uz _ => ∃ bz oz, uz = ptr bz oz ∧ AtV v pv bz oz), (fun uz _ => uz = (.int .u64 (d[pv]!.toNat : Int))), (fun uz _ => uz = v), (fun uz _ => uz = (.int .i64 ((a : Nat) : Int))), (fun uz _ => ∃ bz oz, uz = ptr bz oz ∧ AtV v a bz oz), (fun uz _ => uz = (.int .u64 (d[a]!.toNat : Int))), (fun uz _ => ∃ bz oz, uz = ptr bz oz ∧ AtV v a bz oz), (fun _ _ => True), (fun uz _ => ∃ bz oz, uz = ptr bz oz ∧ AtV v pv bz oz), (fun _ _ => True)]) [13, 15] [(d.toList.map u64v), ((d.setIfInBounds a d[pv]!).toList.map u64v), (((d.setIfInBounds a d[pv]!).setIfInBounds pv d[a]!).toList.map u64v)] mixed zy zy zy zy hN O (StL.get (StL.eq (StL.eq (StL.eq (StL.eq (StL.eq (StL.eq (StL.at (StL.eq (StL.eq (StL.eq (StL.at (StL.eq (StL.at (StL.cons (fun _ _ _ _ h => h) (StL.at (StL.cons (fun _ _ _ _ h => h) (StL.nil _)))))))))))))))))) (ObRs.get (ObRs.cons ?_ (ObRs.cons ?_ (ObRs.cons ?_ (ObRs.cons ?_ (ObRs.cons ?_ (ObRs.cons ?_ (ObRs.cons ?_ (ObRs.cons ?_ (ObRs.cons ?_ (ObRs.cons ?_ (ObRs.cons ?_ (ObRs.cons ?_ (ObRs.cons ?_ (ObRs.pass rfl (ObRs.cons ?_ (ObRs.pass rfl (ObRs.nil)))))))))))))))))) (ObWs.get (ObWs.cons ?_ (ObWs.cons ?_ (ObWs.nil)))) ?_)))))
 ·
  intro aA wA cA hNA hRA hckA hOA hbsA hdpA
  have m := (hbsA 0 rfl).trans (zL hN rfl f)
  clear hbsA hdpA
  refine zG (zC hNA rfl m) ?_
  exact obR_end rfl rfl (grown_refl _ _)
 ·
  intro aA wA cA hNA hRA hckA hOA hbsA hdpA
  have o := (hbsA 1 rfl).trans (zL hN rfl g)
  clear hbsA hdpA
  refine zG (zC hNA rfl o) ?_
  exact obR_end rfl rfl (grown_refl _ _)
 ·
  intro aA wA cA hNA hRA hckA hOA hbsA hdpA
  have m := (hbsA 0 rfl).trans (zL hN rfl f)
  clear hbsA hdpA
  refine zG (zC hNA rfl m) ?_
  exact obR_end rfl rfl (grown_refl _ _)
 ·
  intro aA wA cA hNA hRA hckA hOA hbsA hdpA
  have p := (hbsA 3 rfl).trans (zL hN rfl l)
  clear hbsA hdpA
  refine zG (zC hNA rfl p) ?_
  exact obR_end rfl rfl (grown_refl _ _)
 ·
  intro aA wA cA hNA hRA hckA hOA hbsA hdpA
  have m := (hbsA 0 rfl).trans (zL hN rfl f)
  clear hbsA hdpA
  refine zG (zC hNA rfl m) ?_
  exact obR_end rfl rfl (grown_refl _ _)
 ·
  intro aA wA cA hNA hRA hckA hOA hbsA hdpA
  have p := (hbsA 3 rfl).trans (zL hN rfl l)
  clear hbsA hdpA
  refine zG (zC hNA rfl p) ?_
  exact obR_end rfl rfl (grown_refl _ _)
 ·
  intro aA wA cA hNA hRA hckA hOA hbsA hdpA
  have l : Sl aA 16 v := hdpA 4 _ 16 zy rfl rfl
  have p : Sl aA 17 (.int .i64 ((pv : Nat) : Int)) := hdpA 5 _ 17 zy rfl rfl
  clear hbsA hdpA
  refine op_index_own (i := pv) slt62 (zC hNA rfl l) hOA (zC hNA rfl p) zx zx ?_
  intro b_ o_ _ hA_
  exact obR_end rfl ⟨b_, o_, rfl, by simpa using hA_⟩ (grown_refl _ _)
 ·
  intro aA wA cA hNA hRA hckA hOA hbsA hdpA
  obtain ⟨s, q, l, p⟩ := hdpA 6 _ 18 zy rfl rfl
  clear hbsA hdpA
  obtain rfl : cA = 0 := Nat.le_zero.1 (hckA 0 13 rfl zy)
  have hOA : Own wA base 57 1 v n (d.toList.map u64v) := hOA
  refine zN (v := (Value.int .u64 (d[pv]!.toNat : Int))) one57 (zC hNA rfl l) (by have := hOA.cellAt p 0 _ (el_at (i := pv) (by first | omega | (simp only [Array.size_setIfInBounds, swp_sz, siftDown_size]; omega))); simpa using this) ?_
  exact obR_end rfl rfl (grown_refl _ _)
 ·
  intro aA wA cA hNA hRA hckA hOA hbsA hdpA
  have m := (hbsA 0 rfl).trans (zL hN rfl f)
  clear hbsA hdpA
  refine zG (zC hNA rfl m) ?_
  exact obR_end rfl rfl (grown_refl _ _)
 ·
  intro aA wA cA hNA hRA hckA hOA hbsA hdpA
  have o := (hbsA 1 rfl).trans (zL hN rfl g)
  clear hbsA hdpA
  refine zG (zC hNA rfl o) ?_
  exact obR_end rfl rfl (grown_refl _ _)
 ·
  intro aA wA cA hNA hRA hckA hOA hbsA hdpA
  have l : Sl aA 20 v := hdpA 8 _ 20 zy rfl rfl
  have p : Sl aA 21 (.int .i64 ((a : Nat) : Int)) := hdpA 9 _ 21 zy rfl rfl
  clear hbsA hdpA
  refine op_index_own (i := a) slt62 (zC hNA rfl l) hOA (zC hNA rfl p) zx zx ?_
  intro b_ o_ _ hA_
  exact obR_end rfl ⟨b_, o_, rfl, by simpa using hA_⟩ (grown_refl _ _)
 ·
  intro aA wA cA hNA hRA hckA hOA hbsA hdpA
  obtain ⟨q, s, l, p⟩ := hdpA 10 _ 22 zy rfl rfl
  clear hbsA hdpA
  obtain rfl : cA = 0 := Nat.le_zero.1 (hckA 0 13 rfl zy)
  have hOA : Own wA base 57 1 v n (d.toList.map u64v) := hOA
  refine zN (v := (Value.int .u64 (d[a]!.toNat : Int))) one57 (zC hNA rfl l) (by have := hOA.cellAt p 0 _ (el_at (i := a) (by first | omega | (simp only [Array.size_setIfInBounds, swp_sz, siftDown_size]; omega))); simpa using this) ?_
  exact obR_end rfl rfl (grown_refl _ _)
 ·
  intro aA wA cA hNA hRA hckA hOA hbsA hdpA
  have l : Sl aA 12 v := hdpA 0 _ 12 zy rfl rfl
  have p : Sl aA 13 (.int .i64 ((a : Nat) : Int)) := hdpA 1 _ 13 zy rfl rfl
  clear hbsA hdpA
  refine op_index_own (i := a) slt62 (zC hNA rfl l) hOA (zC hNA rfl p) zx zx ?_
  intro b_ o_ _ hA_
  exact obR_end rfl ⟨b_, o_, rfl, by simpa using hA_⟩ (grown_refl _ _)
 ·
  intro aA wA cA hNA hRA hckA hOA hbsA hdpA
  have l : Sl aA 14 v := hdpA 2 _ 14 zy rfl rfl
  have p : Sl aA 15 (.int .i64 ((pv : Nat) : Int)) := hdpA 3 _ 15 zy rfl rfl
  clear hbsA hdpA
  refine op_index_own (i := pv) slt62 (zC hNA rfl l) hOA (zC hNA rfl p) zx zx ?_
  intro b_ o_ _ hA_
  exact obR_end rfl ⟨b_, o_, rfl, by simpa using hA_⟩ (grown_refl _ _)
 ·
  intro o_ ho_; obtain rfl := zE ho_; intro aA wA hNA hRA hbsA hdpA hOA
  obtain ⟨s, q, p, l⟩ := hdpA 12 _ 24 zy rfl rfl
  have q : Sl aA 19 (.int .u64 (d[pv]!.toNat : Int)) := hdpA 7 _ 19 zy rfl rfl
  clear hbsA hdpA
  have hOA : Own wA base 57 1 v n (d.toList.map u64v) := hOA
  refine op_store_own (vs := [(.int .u64 (d[pv]!.toNat : Int))]) size57 (zC hNA rfl p) (zC hNA rfl q) rfl rfl rfl hOA l (by have := hOA.1; simp at this ⊢; omega) ?_
  intro w_ hO_ E_
  exact obW_end rfl (hO_.cast rfl (set_arr (by first | omega | (simp only [Array.size_setIfInBounds, swp_sz, siftDown_size]; omega)))) E_
 ·
  intro o_ ho_; obtain rfl := zE ho_; intro aA wA hNA hRA hbsA hdpA hOA
  obtain ⟨s, q, p, l⟩ := hdpA 14 _ 25 zy rfl rfl
  have q : Sl aA 23 (.int .u64 (d[a]!.toNat : Int)) := hdpA 11 _ 23 zy rfl rfl
  clear hbsA hdpA
  have hOA : Own wA base 57 1 v n ((d.setIfInBounds a d[pv]!).toList.map u64v) := hOA
  refine op_store_own (vs := [(.int .u64 (d[a]!.toNat : Int))]) size57 (zC hNA rfl p) (zC hNA rfl q) rfl rfl rfl hOA l (by have := hOA.1; simp at this ⊢; omega) ?_
  intro w_ hO_ E_
  exact obW_end rfl (hO_.cast rfl (set_arr (by first | omega | (simp only [Array.size_setIfInBounds, swp_sz, siftDown_size]; omega)))) E_
 intro z u l p q y s t
 have p := p.trans hd
 have z := (q 0 rfl).trans (zL hN rfl f)
 have f := (q 1 rfl).trans (zL hN rfl g)
 have g := (q 2 rfl).trans (zL hN rfl k)
 have k := (q 8 rfl).trans (zU hN rfl)
 have A := (q 9 rfl).trans (zU hN rfl)
 clear q y
 have s : Own u base 57 1 v n (((d.setIfInBounds a d[pv]!).setIfInBounds pv d[a]!).toList.map u64v) := s
 have := t.size
 have hb := grow_stepX hb t rfl
 refine c _ _ (seq_join1 (N := 168) (fun az_ w' => ∃ (q : Ar), (Sl az_ 0 v) ∧ (Sl az_ 1 (.int .i64 ((a : Nat) : Int))) ∧ (Sl az_ 8 (.int .i64 0)) ∧ (Sl az_ 9 (.bool false)) ∧ (Sl az_ 10 (.int .i64 (((a : Nat) : Int) + 1))) ∧ (Sl az_ 11 (.int .i64 (((b - 1) : Nat) : Int))) ∧ (q = swp d a pv) ∧ (q.size = n) ∧ (w.grownBy w' v.ownBlock) ∧ (u.heap.size ≤ w'.heap.size) ∧ (Own w' base 57 1 v n (q.toList.map u64v))) (fun t => ?_) ?_)
 ·
  refine zF fun _ c => zH (zG (zC l rfl f) (op_add (zA l rfl) rfl (add64 zx) (zG (zC l rfl g) (op_sub (r := ((b - 1 : Nat) : Int)) (zA l rfl) rfl (by rw [IntKind.wrap_i64]; omega) (zD (zA l rfl) (zD (zA l rfl) (zB (c _ _ ?_))))))))
  exact t _ _ _ l p ⟨_, (zL l rfl z), (zL l rfl f), (zL l rfl k), (zL l rfl A), (zU l rfl), (zU l rfl), rfl, (by first | assumption | (simp only [Array.size_setIfInBounds, swp_sz, siftDown_size]; assumption)), hb, zx, s⟩
 rintro C k g l ⟨q, y, u, A, z, t, s, p, B, hb, D, f⟩
 have := hb.size
 refine seq_join1 (N := 168) (fun az_ w' => ∃ (B : Nat), (Sl az_ 0 v) ∧ (Sl az_ 1 (.int .i64 ((a : Nat) : Int))) ∧ (Sl az_ 8 (.int .i64 0)) ∧ (Sl az_ 9 (.bool false)) ∧ (Sl az_ 11 (.int .i64 (((b - 1) : Nat) : Int))) ∧ (Sl az_ 10 (.int .i64 ((B : Nat) : Int))) ∧ (a + 1 ≤ B ∧ B ≤ b) ∧ (scanUp (fun x => ltT x q[a]!) q (b - 1) (a + 1) = B) ∧ (B ≤ b - 1 → ltT q[B]! q[a]! = false) ∧ (w.grownBy w' v.ownBlock) ∧ (k.heap.size ≤ w'.heap.size) ∧ (Own w' base 57 1 v n (q.toList.map u64v))) (fun C => ?_) ?_
 ·
  refine zF fun _ c => wp_block (loop_m (fun mz_ az_ w' => ∃ (B : Nat), mz_ = (b + 1 - B) ∧ (Sl az_ 0 v) ∧ (Sl az_ 1 (.int .i64 ((a : Nat) : Int))) ∧ (Sl az_ 8 (.int .i64 0)) ∧ (Sl az_ 9 (.bool false)) ∧ (Sl az_ 11 (.int .i64 (((b - 1) : Nat) : Int))) ∧ (Sl az_ 10 (.int .i64 ((B : Nat) : Int))) ∧ (a + 1 ≤ B ∧ B ≤ b) ∧ (scanUp (fun x => ltT x q[a]!) q (b - 1) (a + 1) = scanUp (fun x => ltT x q[a]!) q (b - 1) B) ∧ (w.grownBy w' v.ownBlock) ∧ (k.heap.size ≤ w'.heap.size) ∧ (Own w' base 57 1 v n (q.toList.map u64v))) _ g l ⟨(a + 1), rfl, (zL g rfl y), (zL g rfl u), (zL g rfl A), (zL g rfl z), (zL g rfl s), (zL g rfl t).trans (congrArg (Value.int .i64) zx), zx, rfl, hb, (Nat.le_refl _), f⟩ ?_)
  rintro _ F G g z ⟨B, rfl, l, t, u, A, s, k, D, y, hb, E, f⟩
  have := hb.size
  refine zF fun _ E => zF fun _ F => reg_still mixed zy ?_
  intro H G
  have := G.size
  have f := f.keep0 G
  have hb := grow_step0 hb G
  refine st_step rfl (fun _ G => zG (zC g rfl k) G) (st_step rfl (fun _ G => zG (zC g rfl s) G) ?_)
  by_cases H : ((B : Nat) : Int) ≤ (((b - 1) : Nat) : Int)
  ·
   refine st_step rfl (fun _ G => op_cmp (b := true) (zA g rfl) (zA g rfl) (b_leq (decide_eq_true H)) G) (st_step rfl (fun _ G => zG (zA g rfl) G) (st_g_true (j := 3) (dj := 33) (b := true) rfl rfl rfl (zA g rfl) (st_step rfl (fun _ G => zG (zC g rfl l) G) (st_g_true (j := 3) (dj := 33) (b := true) rfl rfl rfl (zA g rfl) (st_step rfl (fun _ G => zG (zC g rfl k) G) (st_g_true (j := 3) (dj := 33) (b := true) rfl rfl rfl (zA g rfl) (st_index_rd slt62 (zA g rfl) f.rdw (zA g rfl) zx zx ?_)))))))
   intro K L M J I
   refine st_g_true (j := 3) (dj := 33) (b := true) rfl rfl rfl (zA g rfl) (st_step rfl (fun _ G => zN (v := (Value.int .u64 (q[B]!.toNat : Int))) one57 (zA g rfl) (by have := I 0 (.int .u64 (q[B]!.toNat : Int)) zz (el_arr (i := B) zx (by first | omega | (simp only [Array.size_setIfInBounds, swp_sz, siftDown_size]; omega))); simpa using this) G) (st_g_true (j := 3) (dj := 33) (b := true) rfl rfl rfl (zA g rfl) (st_step rfl (fun _ G => zG (zC g rfl l) G) (st_g_true (j := 3) (dj := 33) (b := true) rfl rfl rfl (zA g rfl) (st_step rfl (fun _ G => zG (zC g rfl t) G) (st_g_true (j := 3) (dj := 33) (b := true) rfl rfl rfl (zA g rfl) (st_index_rd slt62 (zA g rfl) f.rdw (zA g rfl) zx zx ?_)))))))
   intro L K J M I
   refine st_g_true (j := 3) (dj := 33) (b := true) rfl rfl rfl (zA g rfl) (st_step rfl (fun _ G => zN (v := (Value.int .u64 (q[a]!.toNat : Int))) one57 (zA g rfl) (by have := I 0 (.int .u64 (q[a]!.toNat : Int)) zz (el_arr (i := a) zx (by first | omega | (simp only [Array.size_setIfInBounds, swp_sz, siftDown_size]; omega))); simpa using this) G) (st_g_true (j := 3) (dj := 33) (b := true) rfl rfl rfl (zA g rfl) (st_fn (vs := [(.int .u64 (q[B]!.toNat : Int)), (.int .u64 (q[a]!.toNat : Int))]) ok73 (⟨(zA g rfl), ⟨(zA g rfl), trivial⟩⟩) (Less16_ret q[B]! q[a]! _) (st_step rfl (fun _ G => zc (zA g rfl) (zA g rfl) G) (st_nil (F _ _ (wp_cond_split (zA g rfl) (fun J => ?_) (fun J => ?_))))))))
   ·
    refine wp_skip (E _ _ (wp_block (zH (zG (zC g rfl k) (op_add (zA g rfl) rfl (add64 zx) (zD (zA g rfl) (zB (blk_normal ?_))))))))
    -- round 32T 43T
    exact zg _ g z ⟨(B + 1), rfl, (zL g rfl l), (zL g rfl t), (zL g rfl u), (zL g rfl A), (zL g rfl s), (zU g rfl).trans (congrArg (Value.int .i64) zx), zx, (y.trans (scanUp_go zx J)), hb, zx, f⟩ zx
   refine wp_exit (then_exit (then_exit (blk_hit (c _ _ ?_))))
   exact C _ _ _ g z ⟨B, (zL g rfl l), (zL g rfl t), (zL g rfl u), (zL g rfl A), (zL g rfl s), (zL g rfl k), zx, (y.trans (scanUp_stop (.inr J))), (fun _ => J), hb, zx, f⟩
  refine st_step rfl (fun _ G => op_cmp (b := false) (zA g rfl) (zA g rfl) (b_leq (decide_eq_false H)) G) (st_step rfl (fun _ G => zG (zA g rfl) G) (st_g_false (j := 3) (dj := 33) (b := true) rfl rfl rfl (zA g rfl) rfl rfl (st_g_false (j := 3) (dj := 33) (b := true) rfl rfl rfl (zA g rfl) rfl rfl (st_g_false (j := 3) (dj := 33) (b := true) rfl rfl rfl (zA g rfl) rfl rfl ?_))))
  refine st_g_false (j := 3) (dj := 33) (b := true) rfl rfl rfl (zA g rfl) rfl rfl (st_g_false (j := 3) (dj := 33) (b := true) rfl rfl rfl (zA g rfl) rfl rfl (st_g_false (j := 3) (dj := 33) (b := true) rfl rfl rfl (zA g rfl) rfl rfl (st_g_false (j := 3) (dj := 33) (b := true) rfl rfl rfl (zA g rfl) rfl rfl (st_g_false (j := 3) (dj := 33) (b := true) rfl rfl rfl (zA g rfl) rfl rfl (st_g_false (j := 3) (dj := 33) (b := true) rfl rfl rfl (zA g rfl) rfl rfl (st_step rfl (fun _ G => zd (zA g rfl) rfl G) (st_nil (F _ _ (wp_cond_false (zA g rfl) (wp_exit (then_exit (then_exit (blk_hit (c _ _ ?_))))))))))))))
  exact C _ _ _ g z ⟨B, (zL g rfl l), (zL g rfl t), (zL g rfl u), (zL g rfl A), (zL g rfl s), (zL g rfl k), zx, (y.trans (scanUp_stop (.inl zx))), (fun hq => absurd hq zx), hb, zx, f⟩
 rintro J l g H ⟨B, s, u, z, t, C, A, D, k, y, hb, I, f⟩
 have := hb.size
 refine seq_join1 (N := 168) (fun az_ w' => ∃ (D : Nat), (Sl az_ 0 v) ∧ (Sl az_ 1 (.int .i64 ((a : Nat) : Int))) ∧ (Sl az_ 8 (.int .i64 0)) ∧ (Sl az_ 9 (.bool false)) ∧ (Sl az_ 10 (.int .i64 ((B : Nat) : Int))) ∧ (Sl az_ 11 (.int .i64 ((D : Nat) : Int))) ∧ (D ≤ b - 1 ∧ B ≤ D + 1) ∧ (scanDown (fun x => !ltT x q[a]!) q B (b - 1) = D) ∧ (B ≠ D) ∧ (w.grownBy w' v.ownBlock) ∧ (l.heap.size ≤ w'.heap.size) ∧ (Own w' base 57 1 v n (q.toList.map u64v))) (fun I => ?_) ?_
 ·
  refine zF fun _ c => wp_block (loop_m (fun mz_ az_ w' => ∃ (D : Nat), mz_ = (D + 1) ∧ (Sl az_ 0 v) ∧ (Sl az_ 1 (.int .i64 ((a : Nat) : Int))) ∧ (Sl az_ 8 (.int .i64 0)) ∧ (Sl az_ 9 (.bool false)) ∧ (Sl az_ 10 (.int .i64 ((B : Nat) : Int))) ∧ (Sl az_ 11 (.int .i64 ((D : Nat) : Int))) ∧ (D ≤ b - 1 ∧ B ≤ D + 1) ∧ (scanDown (fun x => !ltT x q[a]!) q B (b - 1) = scanDown (fun x => !ltT x q[a]!) q B D) ∧ (w.grownBy w' v.ownBlock) ∧ (l.heap.size ≤ w'.heap.size) ∧ (Own w' base 57 1 v n (q.toList.map u64v))) _ g H ⟨(b - 1), rfl, (zL g rfl s), (zL g rfl u), (zL g rfl z), (zL g rfl t), (zL g rfl A), (zL g rfl C).trans (congrArg (Value.int .i64) zx), zx, rfl, hb, (Nat.le_refl _), f⟩ ?_)
  rintro _ M K g A ⟨D, rfl, l, t, z, H, u, s, J, C, hb, L, f⟩
  have := hb.size
  refine zF fun _ E => zF fun _ F => reg_still mixed zy ?_
  intro L K
  have := K.size
  have f := f.keep0 K
  have hb := grow_step0 hb K
  refine st_step rfl (fun _ G => zG (zC g rfl u) G) (st_step rfl (fun _ G => zG (zC g rfl s) G) ?_)
  by_cases K : ((B : Nat) : Int) ≤ ((D : Nat) : Int)
  ·
   refine st_step rfl (fun _ G => op_cmp (b := true) (zA g rfl) (zA g rfl) (b_leq (decide_eq_true K)) G) (st_step rfl (fun _ G => zG (zA g rfl) G) (st_g_true (j := 3) (dj := 49) (b := true) rfl rfl rfl (zA g rfl) (st_step rfl (fun _ G => zG (zC g rfl l) G) (st_g_true (j := 3) (dj := 49) (b := true) rfl rfl rfl (zA g rfl) (st_step rfl (fun _ G => zG (zC g rfl s) G) (st_g_true (j := 3) (dj := 49) (b := true) rfl rfl rfl (zA g rfl) (st_index_rd slt62 (zA g rfl) f.rdw (zA g rfl) zx zx ?_)))))))
   intro P R Q M L
   refine st_g_true (j := 3) (dj := 49) (b := true) rfl rfl rfl (zA g rfl) (st_step rfl (fun _ G => zN (v := (Value.int .u64 (q[D]!.toNat : Int))) one57 (zA g rfl) (by have := L 0 (.int .u64 (q[D]!.toNat : Int)) zz (el_arr (i := D) zx (by first | omega | (simp only [Array.size_setIfInBounds, swp_sz, siftDown_size]; omega))); simpa using this) G) (st_g_true (j := 3) (dj := 49) (b := true) rfl rfl rfl (zA g rfl) (st_step rfl (fun _ G => zG (zC g rfl l) G) (st_g_true (j := 3) (dj := 49) (b := true) rfl rfl rfl (zA g rfl) (st_step rfl (fun _ G => zG (zC g rfl t) G) (st_g_true (j := 3) (dj := 49) (b := true) rfl rfl rfl (zA g rfl) (st_index_rd slt62 (zA g rfl) f.rdw (zA g rfl) zx zx ?_)))))))
   intro P R M Q L
   refine st_g_true (j := 3) (dj := 49) (b := true) rfl rfl rfl (zA g rfl) (st_step rfl (fun _ G => zN (v := (Value.int .u64 (q[a]!.toNat : Int))) one57 (zA g rfl) (by have := L 0 (.int .u64 (q[a]!.toNat : Int)) zz (el_arr (i := a) zx (by first | omega | (simp only [Array.size_setIfInBounds, swp_sz, siftDown_size]; omega))); simpa using this) G) (st_g_true (j := 3) (dj := 49) (b := true) rfl rfl rfl (zA g rfl) (st_fn (vs := [(.int .u64 (q[D]!.toNat : Int)), (.int .u64 (q[a]!.toNat : Int))]) ok73 (⟨(zA g rfl), ⟨(zA g rfl), trivial⟩⟩) (Less16_ret q[D]! q[a]! _) (st_g_true (j := 3) (dj := 49) (b := true) rfl rfl rfl (zA g rfl) (st_step rfl (fun _ G => op_not (zA g rfl) G) (st_step rfl (fun _ G => zc (zA g rfl) (zA g rfl) G) (st_nil (F _ _ (wp_cond_split (zA g rfl) (fun M => ?_) (fun M => ?_))))))))))
   ·
    refine wp_skip (E _ _ (wp_block (zH (zG (zC g rfl s) (op_sub (zA g rfl) rfl (sub64 zx) (zD (zA g rfl) (zB (blk_normal ?_))))))))
    -- round 48T 60T
    exact zg _ g A ⟨(D - 1), rfl, (zL g rfl l), (zL g rfl t), (zL g rfl z), (zL g rfl H), (zL g rfl u), (zU g rfl).trans (congrArg (Value.int .i64) zx), zx, (C.trans (scanDown_go zx zx M)), hb, zx, f⟩ zx
   refine wp_exit (then_exit (then_exit (blk_hit (c _ _ ?_))))
   exact I _ _ _ g A ⟨D, (zL g rfl l), (zL g rfl t), (zL g rfl z), (zL g rfl H), (zL g rfl u), (zL g rfl s), zx, (C.trans (scanDown_stop (.inr M))), (fun hh => by have G := y zx; rw [hh] at G; rw [G] at M; simp at M), hb, zx, f⟩
  refine st_step rfl (fun _ G => op_cmp (b := false) (zA g rfl) (zA g rfl) (b_leq (decide_eq_false K)) G) (st_step rfl (fun _ G => zG (zA g rfl) G) (st_g_false (j := 3) (dj := 49) (b := true) rfl rfl rfl (zA g rfl) rfl rfl (st_g_false (j := 3) (dj := 49) (b := true) rfl rfl rfl (zA g rfl) rfl rfl (st_g_false (j := 3) (dj := 49) (b := true) rfl rfl rfl (zA g rfl) rfl rfl (st_g_false (j := 3) (dj := 49) (b := true) rfl rfl rfl (zA g rfl) rfl rfl ?_)))))
  refine st_g_false (j := 3) (dj := 49) (b := true) rfl rfl rfl (zA g rfl) rfl rfl (st_g_false (j := 3) (dj := 49) (b := true) rfl rfl rfl (zA g rfl) rfl rfl (st_g_false (j := 3) (dj := 49) (b := true) rfl rfl rfl (zA g rfl) rfl rfl (st_g_false (j := 3) (dj := 49) (b := true) rfl rfl rfl (zA g rfl) rfl rfl (st_g_false (j := 3) (dj := 49) (b := true) rfl rfl rfl (zA g rfl) rfl rfl (st_g_false (j := 3) (dj := 49) (b := true) rfl rfl rfl (zA g rfl) rfl rfl (st_step rfl (fun _ G => zd (zA g rfl) rfl G) (st_nil (F _ _ (wp_cond_false (zA g rfl) (wp_exit (then_exit (then_exit (blk_hit (c _ _ ?_))))))))))))))
  exact I _ _ _ g A ⟨D, (zL g rfl l), (zL g rfl t), (zL g rfl z), (zL g rfl H), (zL g rfl u), (zL g rfl s), zx, (C.trans (scanDown_stop (.inl zx))), zx, hb, zx, f⟩
 rintro H I g y ⟨D, l, u, A, C, t, s, J, z, hne, hb, K, f⟩
 have := hb.size
 refine zF fun _ c => zF fun _ E => zH (zG (zC g rfl t) (zG (zC g rfl s) (op_gtr (zA g rfl) (zA g rfl) (fun H => ?_) (fun H => ?_))))
 ·
  refine zB (E _ _ (wp_cond_true (zA g rfl) (zF fun _ E => reg_mid (e := 57) (sz := 1) (base := base) (n := n) (v := v) (Φ := phiL [(fun uz _ => uz = v), (fun uz _ => uz = (.int .i64 ((D : Nat) : Int))), (fun uz _ => uz = v), (fun uz _ => uz = (.int .i64 ((a : Nat) : Int))), (fun uz _ => uz = v), (fun uz _ => uz = (.int .i64 ((a : Nat) : Int))), (fun uz _ => ∃ bz oz, uz = ptr bz oz ∧ AtV v a bz oz), (fun uz _ => uz = (.int .u64 (q[a]!.toNat : Int))), (fun uz _ => uz = v), (fun uz _ => uz = (.int .i64 ((D : Nat) : Int))), (fun uz _ => ∃ bz oz, uz = ptr bz oz ∧ AtV v D bz oz), (fun uz _ => uz = (.int .u64 (q[D]!.toNat : Int))), (fun uz _ => ∃ bz oz, uz = ptr bz oz ∧ AtV v D bz oz), (fun _ _ => True), (fun uz _ => ∃ bz oz, uz = ptr bz oz ∧ AtV v a bz oz), (fun _ _ => True)]) [13, 15] [(q.toList.map u64v), ((q.setIfInBounds D q[a]!).toList.map u64v), (((q.setIfInBounds D q[a]!).setIfInBounds a q[D]!).toList.map u64v)] mixed zy zy zy zy g f (StL.get (StL.eq (StL.eq (StL.eq (StL.eq (StL.eq (StL.eq (StL.at (StL.eq (StL.eq (StL.eq (StL.at (StL.eq (StL.at (StL.cons (fun _ _ _ _ h => h) (StL.at (StL.cons (fun _ _ _ _ h => h) (StL.nil _)))))))))))))))))) (ObRs.get (ObRs.cons ?_ (ObRs.cons ?_ (ObRs.cons ?_ (ObRs.cons ?_ (ObRs.cons ?_ (ObRs.cons ?_ (ObRs.cons ?_ (ObRs.cons ?_ (ObRs.cons ?_ (ObRs.cons ?_ (ObRs.cons ?_ (ObRs.cons ?_ (ObRs.cons ?_ (ObRs.pass rfl (ObRs.cons ?_ (ObRs.pass rfl (ObRs.nil)))))))))))))))))) (ObWs.get (ObWs.cons ?_ (ObWs.cons ?_ (ObWs.nil)))) ?_)))
  ·
   intro aA wA cA hNA hRA hckA hOA hbsA hdpA
   have m := (hbsA 0 rfl).trans (zL g rfl l)
   clear hbsA hdpA
   refine zG (zC hNA rfl m) ?_
   exact obR_end rfl rfl (grown_refl _ _)
  ·
   intro aA wA cA hNA hRA hckA hOA hbsA hdpA
   have H := (hbsA 11 rfl).trans (zL g rfl s)
   clear hbsA hdpA
   refine zG (zC hNA rfl H) ?_
   exact obR_end rfl rfl (grown_refl _ _)
  ·
   intro aA wA cA hNA hRA hckA hOA hbsA hdpA
   have m := (hbsA 0 rfl).trans (zL g rfl l)
   clear hbsA hdpA
   refine zG (zC hNA rfl m) ?_
   exact obR_end rfl rfl (grown_refl _ _)
  ·
   intro aA wA cA hNA hRA hckA hOA hbsA hdpA
   have o := (hbsA 1 rfl).trans (zL g rfl u)
   clear hbsA hdpA
   refine zG (zC hNA rfl o) ?_
   exact obR_end rfl rfl (grown_refl _ _)
  ·
   intro aA wA cA hNA hRA hckA hOA hbsA hdpA
   have m := (hbsA 0 rfl).trans (zL g rfl l)
   clear hbsA hdpA
   refine zG (zC hNA rfl m) ?_
   exact obR_end rfl rfl (grown_refl _ _)
  ·
   intro aA wA cA hNA hRA hckA hOA hbsA hdpA
   have o := (hbsA 1 rfl).trans (zL g rfl u)
   clear hbsA hdpA
   refine zG (zC hNA rfl o) ?_
   exact obR_end rfl rfl (grown_refl _ _)
  ·
   intro aA wA cA hNA hRA hckA hOA hbsA hdpA
   have I : Sl aA 70 v := hdpA 4 _ 70 zy rfl rfl
   have J : Sl aA 71 (.int .i64 ((a : Nat) : Int)) := hdpA 5 _ 71 zy rfl rfl
   clear hbsA hdpA
   refine op_index_own (i := a) slt62 (zC hNA rfl I) hOA (zC hNA rfl J) zx zx ?_
   intro b_ o_ _ hA_
   exact obR_end rfl ⟨b_, o_, rfl, by simpa using hA_⟩ (grown_refl _ _)
  ·
   intro aA wA cA hNA hRA hckA hOA hbsA hdpA
   obtain ⟨K, L, J, I⟩ := hdpA 6 _ 72 zy rfl rfl
   clear hbsA hdpA
   obtain rfl : cA = 0 := Nat.le_zero.1 (hckA 0 13 rfl zy)
   have hOA : Own wA base 57 1 v n (q.toList.map u64v) := hOA
   refine zN (v := (Value.int .u64 (q[a]!.toNat : Int))) one57 (zC hNA rfl J) (by have := hOA.cellAt I 0 _ (el_at (i := a) (by first | omega | (simp only [Array.size_setIfInBounds, swp_sz, siftDown_size]; omega))); simpa using this) ?_
   exact obR_end rfl rfl (grown_refl _ _)
  ·
   intro aA wA cA hNA hRA hckA hOA hbsA hdpA
   have m := (hbsA 0 rfl).trans (zL g rfl l)
   clear hbsA hdpA
   refine zG (zC hNA rfl m) ?_
   exact obR_end rfl rfl (grown_refl _ _)
  ·
   intro aA wA cA hNA hRA hckA hOA hbsA hdpA
   have H := (hbsA 11 rfl).trans (zL g rfl s)
   clear hbsA hdpA
   refine zG (zC hNA rfl H) ?_
   exact obR_end rfl rfl (grown_refl _ _)
  ·
   intro aA wA cA hNA hRA hckA hOA hbsA hdpA
   have I : Sl aA 74 v := hdpA 8 _ 74 zy rfl rfl
   have J : Sl aA 75 (.int .i64 ((D : Nat) : Int)) := hdpA 9 _ 75 zy rfl rfl
   clear hbsA hdpA
   refine op_index_own (i := D) slt62 (zC hNA rfl I) hOA (zC hNA rfl J) zx zx ?_
   intro b_ o_ _ hA_
   exact obR_end rfl ⟨b_, o_, rfl, by simpa using hA_⟩ (grown_refl _ _)
  ·
   intro aA wA cA hNA hRA hckA hOA hbsA hdpA
   obtain ⟨K, L, I, J⟩ := hdpA 10 _ 76 zy rfl rfl
   clear hbsA hdpA
   obtain rfl : cA = 0 := Nat.le_zero.1 (hckA 0 13 rfl zy)
   have hOA : Own wA base 57 1 v n (q.toList.map u64v) := hOA
   refine zN (v := (Value.int .u64 (q[D]!.toNat : Int))) one57 (zC hNA rfl I) (by have := hOA.cellAt J 0 _ (el_at (i := D) (by first | omega | (simp only [Array.size_setIfInBounds, swp_sz, siftDown_size]; omega))); simpa using this) ?_
   exact obR_end rfl rfl (grown_refl _ _)
  ·
   intro aA wA cA hNA hRA hckA hOA hbsA hdpA
   have I : Sl aA 66 v := hdpA 0 _ 66 zy rfl rfl
   have J : Sl aA 67 (.int .i64 ((D : Nat) : Int)) := hdpA 1 _ 67 zy rfl rfl
   clear hbsA hdpA
   refine op_index_own (i := D) slt62 (zC hNA rfl I) hOA (zC hNA rfl J) zx zx ?_
   intro b_ o_ _ hA_
   exact obR_end rfl ⟨b_, o_, rfl, by simpa using hA_⟩ (grown_refl _ _)
  ·
   intro aA wA cA hNA hRA hckA hOA hbsA hdpA
   have I : Sl aA 68 v := hdpA 2 _ 68 zy rfl rfl
   have J : Sl aA 69 (.int .i64 ((a : Nat) : Int)) := hdpA 3 _ 69 zy rfl rfl
   clear hbsA hdpA
   refine op_index_own (i := a) slt62 (zC hNA rfl I) hOA (zC hNA rfl J) zx zx ?_
   intro b_ o_ _ hA_
   exact obR_end rfl ⟨b_, o_, rfl, by simpa using hA_⟩ (grown_refl _ _)
  ·
   intro o_ ho_; obtain rfl := zE ho_; intro aA wA hNA hRA hbsA hdpA hOA
   obtain ⟨L, K, J, I⟩ := hdpA 12 _ 78 zy rfl rfl
   have K : Sl aA 73 (.int .u64 (q[a]!.toNat : Int)) := hdpA 7 _ 73 zy rfl rfl
   clear hbsA hdpA
   have hOA : Own wA base 57 1 v n (q.toList.map u64v) := hOA
   refine op_store_own (vs := [(.int .u64 (q[a]!.toNat : Int))]) size57 (zC hNA rfl J) (zC hNA rfl K) rfl rfl rfl hOA I (by have := hOA.1; simp at this ⊢; omega) ?_
   intro w_ hO_ E_
   exact obW_end rfl (hO_.cast rfl (set_arr (by first | omega | (simp only [Array.size_setIfInBounds, swp_sz, siftDown_size]; omega)))) E_
  ·
   intro o_ ho_; obtain rfl := zE ho_; intro aA wA hNA hRA hbsA hdpA hOA
   obtain ⟨K, L, I, J⟩ := hdpA 14 _ 79 zy rfl rfl
   have K : Sl aA 77 (.int .u64 (q[D]!.toNat : Int)) := hdpA 11 _ 77 zy rfl rfl
   clear hbsA hdpA
   have hOA : Own wA base 57 1 v n ((q.setIfInBounds D q[a]!).toList.map u64v) := hOA
   refine op_store_own (vs := [(.int .u64 (q[D]!.toNat : Int))]) size57 (zC hNA rfl I) (zC hNA rfl K) rfl rfl rfl hOA J (by have := hOA.1; simp at this ⊢; omega) ?_
   intro w_ hO_ E_
   exact obW_end rfl (hO_.cast rfl (set_arr (by first | omega | (simp only [Array.size_setIfInBounds, swp_sz, siftDown_size]; omega)))) E_
  intro R Q I K M P J L
  have K := K.trans y
  have R := (M 11 rfl).trans (zL g rfl s)
  clear M P
  have J : Own Q base 57 1 v n (((q.setIfInBounds D q[a]!).setIfInBounds a q[D]!).toList.map u64v) := J
  have := L.size
  have hb := grow_stepX hb L rfl
  refine E _ _ (zF fun _ E => zH (zG (zC I rfl R) (zD (zA I rfl) (zD rfl (zB (E _ _ (wp_ret (zO ( (ret2 rfl K (zA I rfl) (zA I rfl) ⟨_, rfl, ?_⟩))))))))))
  have hq := pt_stop p k z zx
  exact ⟨hb, by rw [hq]; rfl, J.cast rfl (by rw [hq]; rfl)⟩
 refine zB (E _ _ (wp_cond_false (zA g rfl) (wp_skip (c _ _ (zF fun _ c => reg_mid (e := 57) (sz := 1) (base := base) (n := n) (v := v) (Φ := phiL [(fun uz _ => uz = v), (fun uz _ => uz = (.int .i64 ((B : Nat) : Int))), (fun uz _ => uz = v), (fun uz _ => uz = (.int .i64 ((D : Nat) : Int))), (fun uz _ => uz = v), (fun uz _ => uz = (.int .i64 ((D : Nat) : Int))), (fun uz _ => ∃ bz oz, uz = ptr bz oz ∧ AtV v D bz oz), (fun uz _ => uz = (.int .u64 (q[D]!.toNat : Int))), (fun uz _ => uz = v), (fun uz _ => uz = (.int .i64 ((B : Nat) : Int))), (fun uz _ => ∃ bz oz, uz = ptr bz oz ∧ AtV v B bz oz), (fun uz _ => uz = (.int .u64 (q[B]!.toNat : Int))), (fun uz _ => ∃ bz oz, uz = ptr bz oz ∧ AtV v B bz oz), (fun _ _ => True), (fun uz _ => ∃ bz oz, uz = ptr bz oz ∧ AtV v D bz oz), (fun _ _ => True)]) [13, 15] [(q.toList.map u64v), ((q.setIfInBounds B q[D]!).toList.map u64v), (((q.setIfInBounds B q[D]!).setIfInBounds D q[B]!).toList.map u64v)] mixed zy zy zy zy g f (StL.get (StL.eq (StL.eq (StL.eq (StL.eq (StL.eq (StL.eq (StL.at (StL.eq (StL.eq (StL.eq (StL.at (StL.eq (StL.at (StL.cons (fun _ _ _ _ h => h) (StL.at (StL.cons (fun _ _ _ _ h => h) (StL.nil _)))))))))))))))))) (ObRs.get (ObRs.cons ?_ (ObRs.cons ?_ (ObRs.cons ?_ (ObRs.cons ?_ (ObRs.cons ?_ (ObRs.cons ?_ (ObRs.cons ?_ (ObRs.cons ?_ (ObRs.cons ?_ (ObRs.cons ?_ (ObRs.cons ?_ (ObRs.cons ?_ (ObRs.cons ?_ (ObRs.pass rfl (ObRs.cons ?_ (ObRs.pass rfl (ObRs.nil)))))))))))))))))) (ObWs.get (ObWs.cons ?_ (ObWs.cons ?_ (ObWs.nil)))) ?_)))))
 ·
  intro aA wA cA hNA hRA hckA hOA hbsA hdpA
  have m := (hbsA 0 rfl).trans (zL g rfl l)
  clear hbsA hdpA
  refine zG (zC hNA rfl m) ?_
  exact obR_end rfl rfl (grown_refl _ _)
 ·
  intro aA wA cA hNA hRA hckA hOA hbsA hdpA
  have f := (hbsA 10 rfl).trans (zL g rfl t)
  clear hbsA hdpA
  refine zG (zC hNA rfl f) ?_
  exact obR_end rfl rfl (grown_refl _ _)
 ·
  intro aA wA cA hNA hRA hckA hOA hbsA hdpA
  have m := (hbsA 0 rfl).trans (zL g rfl l)
  clear hbsA hdpA
  refine zG (zC hNA rfl m) ?_
  exact obR_end rfl rfl (grown_refl _ _)
 ·
  intro aA wA cA hNA hRA hckA hOA hbsA hdpA
  have H := (hbsA 11 rfl).trans (zL g rfl s)
  clear hbsA hdpA
  refine zG (zC hNA rfl H) ?_
  exact obR_end rfl rfl (grown_refl _ _)
 ·
  intro aA wA cA hNA hRA hckA hOA hbsA hdpA
  have m := (hbsA 0 rfl).trans (zL g rfl l)
  clear hbsA hdpA
  refine zG (zC hNA rfl m) ?_
  exact obR_end rfl rfl (grown_refl _ _)
 ·
  intro aA wA cA hNA hRA hckA hOA hbsA hdpA
  have H := (hbsA 11 rfl).trans (zL g rfl s)
  clear hbsA hdpA
  refine zG (zC hNA rfl H) ?_
  exact obR_end rfl rfl (grown_refl _ _)
 ·
  intro aA wA cA hNA hRA hckA hOA hbsA hdpA
  have I : Sl aA 85 v := hdpA 4 _ 85 zy rfl rfl
  have J : Sl aA 86 (.int .i64 ((D : Nat) : Int)) := hdpA 5 _ 86 zy rfl rfl
  clear hbsA hdpA
  refine op_index_own (i := D) slt62 (zC hNA rfl I) hOA (zC hNA rfl J) zx zx ?_
  intro b_ o_ _ hA_
  exact obR_end rfl ⟨b_, o_, rfl, by simpa using hA_⟩ (grown_refl _ _)
 ·
  intro aA wA cA hNA hRA hckA hOA hbsA hdpA
  obtain ⟨K, L, I, J⟩ := hdpA 6 _ 87 zy rfl rfl
  clear hbsA hdpA
  obtain rfl : cA = 0 := Nat.le_zero.1 (hckA 0 13 rfl zy)
  have hOA : Own wA base 57 1 v n (q.toList.map u64v) := hOA
  refine zN (v := (Value.int .u64 (q[D]!.toNat : Int))) one57 (zC hNA rfl I) (by have := hOA.cellAt J 0 _ (el_at (i := D) (by first | omega | (simp only [Array.size_setIfInBounds, swp_sz, siftDown_size]; omega))); simpa using this) ?_
  exact obR_end rfl rfl (grown_refl _ _)
 ·
  intro aA wA cA hNA hRA hckA hOA hbsA hdpA
  have m := (hbsA 0 rfl).trans (zL g rfl l)
  clear hbsA hdpA
  refine zG (zC hNA rfl m) ?_
  exact obR_end rfl rfl (grown_refl _ _)
 ·
  intro aA wA cA hNA hRA hckA hOA hbsA hdpA
  have f := (hbsA 10 rfl).trans (zL g rfl t)
  clear hbsA hdpA
  refine zG (zC hNA rfl f) ?_
  exact obR_end rfl rfl (grown_refl _ _)
 ·
  intro aA wA cA hNA hRA hckA hOA hbsA hdpA
  have I : Sl aA 89 v := hdpA 8 _ 89 zy rfl rfl
  have J : Sl aA 90 (.int .i64 ((B : Nat) : Int)) := hdpA 9 _ 90 zy rfl rfl
  clear hbsA hdpA
  refine op_index_own (i := B) slt62 (zC hNA rfl I) hOA (zC hNA rfl J) zx zx ?_
  intro b_ o_ _ hA_
  exact obR_end rfl ⟨b_, o_, rfl, by simpa using hA_⟩ (grown_refl _ _)
 ·
  intro aA wA cA hNA hRA hckA hOA hbsA hdpA
  obtain ⟨L, K, J, I⟩ := hdpA 10 _ 91 zy rfl rfl
  clear hbsA hdpA
  obtain rfl : cA = 0 := Nat.le_zero.1 (hckA 0 13 rfl zy)
  have hOA : Own wA base 57 1 v n (q.toList.map u64v) := hOA
  refine zN (v := (Value.int .u64 (q[B]!.toNat : Int))) one57 (zC hNA rfl J) (by have := hOA.cellAt I 0 _ (el_at (i := B) (by first | omega | (simp only [Array.size_setIfInBounds, swp_sz, siftDown_size]; omega))); simpa using this) ?_
  exact obR_end rfl rfl (grown_refl _ _)
 ·
  intro aA wA cA hNA hRA hckA hOA hbsA hdpA
  have I : Sl aA 81 v := hdpA 0 _ 81 zy rfl rfl
  have J : Sl aA 82 (.int .i64 ((B : Nat) : Int)) := hdpA 1 _ 82 zy rfl rfl
  clear hbsA hdpA
  refine op_index_own (i := B) slt62 (zC hNA rfl I) hOA (zC hNA rfl J) zx zx ?_
  intro b_ o_ _ hA_
  exact obR_end rfl ⟨b_, o_, rfl, by simpa using hA_⟩ (grown_refl _ _)
 ·
  intro aA wA cA hNA hRA hckA hOA hbsA hdpA
  have I : Sl aA 83 v := hdpA 2 _ 83 zy rfl rfl
  have J : Sl aA 84 (.int .i64 ((D : Nat) : Int)) := hdpA 3 _ 84 zy rfl rfl
  clear hbsA hdpA
  refine op_index_own (i := D) slt62 (zC hNA rfl I) hOA (zC hNA rfl J) zx zx ?_
  intro b_ o_ _ hA_
  exact obR_end rfl ⟨b_, o_, rfl, by simpa using hA_⟩ (grown_refl _ _)
 ·
  intro o_ ho_; obtain rfl := zE ho_; intro aA wA hNA hRA hbsA hdpA hOA
  obtain ⟨K, L, I, J⟩ := hdpA 12 _ 93 zy rfl rfl
  have K : Sl aA 88 (.int .u64 (q[D]!.toNat : Int)) := hdpA 7 _ 88 zy rfl rfl
  clear hbsA hdpA
  have hOA : Own wA base 57 1 v n (q.toList.map u64v) := hOA
  refine op_store_own (vs := [(.int .u64 (q[D]!.toNat : Int))]) size57 (zC hNA rfl I) (zC hNA rfl K) rfl rfl rfl hOA J (by have := hOA.1; simp at this ⊢; omega) ?_
  intro w_ hO_ E_
  exact obW_end rfl (hO_.cast rfl (set_arr (by first | omega | (simp only [Array.size_setIfInBounds, swp_sz, siftDown_size]; omega)))) E_
 ·
  intro o_ ho_; obtain rfl := zE ho_; intro aA wA hNA hRA hbsA hdpA hOA
  obtain ⟨L, K, J, I⟩ := hdpA 14 _ 94 zy rfl rfl
  have K : Sl aA 92 (.int .u64 (q[B]!.toNat : Int)) := hdpA 11 _ 92 zy rfl rfl
  clear hbsA hdpA
  have hOA : Own wA base 57 1 v n ((q.setIfInBounds B q[D]!).toList.map u64v) := hOA
  refine op_store_own (vs := [(.int .u64 (q[B]!.toNat : Int))]) size57 (zC hNA rfl J) (zC hNA rfl K) rfl rfl rfl hOA I (by have := hOA.1; simp at this ⊢; omega) ?_
  intro w_ hO_ E_
  exact obW_end rfl (hO_.cast rfl (set_arr (by first | omega | (simp only [Array.size_setIfInBounds, swp_sz, siftDown_size]; omega)))) E_
 intro R P I L J Q K M
 have L := L.trans y
 have y := (J 0 rfl).trans (zL g rfl l)
 have l := (J 1 rfl).trans (zL g rfl u)
 have u := (J 8 rfl).trans (zL g rfl A)
 have A := (J 9 rfl).trans (zL g rfl C)
 have C := (J 10 rfl).trans (zL g rfl t)
 have t := (J 11 rfl).trans (zL g rfl s)
 clear J Q
 have K : Own P base 57 1 v n (((q.setIfInBounds B q[D]!).setIfInBounds D q[B]!).toList.map u64v) := K
 have := M.size
 have hb := grow_stepX hb M rfl
 refine c _ _ (zF fun _ c => zH (zG (zC I rfl C) (op_add (zA I rfl) rfl (add64 zx) (zD (zA I rfl) ?_))))
 refine zB (c _ _ (zF fun _ c => zH (zG (zC I rfl t) (op_sub (r := ((D - 1 : Nat) : Int)) (zA I rfl) rfl (by rw [IntKind.wrap_i64]; omega) (zD (zA I rfl) (zB (c _ _ (zF fun _ c => wp_block (loop_m (fun mz_ az_ w' => ∃ (ii jj : Nat) (dk : Ar), mz_ = (jj + 2 - ii) ∧ (Sl az_ 0 v) ∧ (Sl az_ 1 (.int .i64 ((a : Nat) : Int))) ∧ (Sl az_ 8 (.int .i64 0)) ∧ (Sl az_ 9 (.bool false)) ∧ (Sl az_ 10 (.int .i64 ((ii : Nat) : Int))) ∧ (Sl az_ 11 (.int .i64 ((jj : Nat) : Int))) ∧ (dk.size = n) ∧ (a < ii ∧ ii ≤ jj + 1 ∧ jj < b) ∧ (partLoop ltT a (B + 1) (D - 1) (swp q B D) = partLoop ltT a ii jj dk) ∧ (w.grownBy w' v.ownBlock) ∧ (P.heap.size ≤ w'.heap.size) ∧ (Own w' base 57 1 v n (dk.toList.map u64v))) _ I L ⟨(B + 1), (D - 1), _, rfl, (zL I rfl y), (zL I rfl l), (zL I rfl u), (zL I rfl A), (zU I rfl).trans (congrArg (Value.int .i64) zx), (zU I rfl).trans (congrArg (Value.int .i64) zx), (by first | assumption | (simp only [Array.size_setIfInBounds, swp_sz, siftDown_size]; assumption)), zx, rfl, hb, (Nat.le_refl _), K⟩ ?_)))))))))
 rintro _ I q l t ⟨ii, jj, dk, rfl, y, C, s, u, A, B, hdk, D, hs, hb, J, g⟩
 have := hb.size
 refine wp_block (seq_join1 (N := 168) (fun az_ w' => ∃ (D : Nat), (Sl az_ 0 v) ∧ (Sl az_ 1 (.int .i64 ((a : Nat) : Int))) ∧ (Sl az_ 8 (.int .i64 0)) ∧ (Sl az_ 9 (.bool false)) ∧ (Sl az_ 11 (.int .i64 ((jj : Nat) : Int))) ∧ (Sl az_ 10 (.int .i64 ((D : Nat) : Int))) ∧ (ii ≤ D ∧ D ≤ jj + 1) ∧ (scanUp (fun x => ltT x dk[a]!) dk jj ii = D) ∧ (D ≤ jj → ltT dk[D]! dk[a]! = false) ∧ (w.grownBy w' v.ownBlock) ∧ (q.heap.size ≤ w'.heap.size) ∧ (Own w' base 57 1 v n (dk.toList.map u64v))) (fun I => ?_) ?_)
 ·
  refine zF fun _ E => wp_block (loop_m (fun mz_ az_ w' => ∃ (D : Nat), mz_ = (jj + 1 - D) ∧ (Sl az_ 0 v) ∧ (Sl az_ 1 (.int .i64 ((a : Nat) : Int))) ∧ (Sl az_ 8 (.int .i64 0)) ∧ (Sl az_ 9 (.bool false)) ∧ (Sl az_ 11 (.int .i64 ((jj : Nat) : Int))) ∧ (Sl az_ 10 (.int .i64 ((D : Nat) : Int))) ∧ (ii ≤ D ∧ D ≤ jj + 1) ∧ (scanUp (fun x => ltT x dk[a]!) dk jj ii = scanUp (fun x => ltT x dk[a]!) dk jj D) ∧ (w.grownBy w' v.ownBlock) ∧ (q.heap.size ≤ w'.heap.size) ∧ (Own w' base 57 1 v n (dk.toList.map u64v))) _ l t ⟨ii, rfl, (zL l rfl y), (zL l rfl C), (zL l rfl s), (zL l rfl u), (zL l rfl B), (zL l rfl A).trans (congrArg (Value.int .i64) zx), zx, rfl, hb, (Nat.le_refl _), g⟩ ?_)
  rintro _ L K l C ⟨D, rfl, s, t, B, y, u, q, J, A, hb, M, g⟩
  have := hb.size
  refine zF fun _ F => zF fun _ K => reg_still mixed zy ?_
  intro M L
  have := L.size
  have g := g.keep0 L
  have hb := grow_step0 hb L
  refine st_step rfl (fun _ G => zG (zC l rfl q) G) (st_step rfl (fun _ G => zG (zC l rfl u) G) ?_)
  by_cases L : ((D : Nat) : Int) ≤ ((jj : Nat) : Int)
  ·
   refine st_step rfl (fun _ G => op_cmp (b := true) (zA l rfl) (zA l rfl) (b_leq (decide_eq_true L)) G) (st_step rfl (fun _ G => zG (zA l rfl) G) (st_g_true (j := 3) (dj := 102) (b := true) rfl rfl rfl (zA l rfl) (st_step rfl (fun _ G => zG (zC l rfl s) G) (st_g_true (j := 3) (dj := 102) (b := true) rfl rfl rfl (zA l rfl) (st_step rfl (fun _ G => zG (zC l rfl q) G) (st_g_true (j := 3) (dj := 102) (b := true) rfl rfl rfl (zA l rfl) (st_index_rd slt62 (zA l rfl) g.rdw (zA l rfl) zx zx ?_)))))))
   intro S Q P R M
   refine st_g_true (j := 3) (dj := 102) (b := true) rfl rfl rfl (zA l rfl) (st_step rfl (fun _ G => zN (v := (Value.int .u64 (dk[D]!.toNat : Int))) one57 (zA l rfl) (by have := M 0 (.int .u64 (dk[D]!.toNat : Int)) zz (el_arr (i := D) zx (by first | omega | (simp only [Array.size_setIfInBounds, swp_sz, siftDown_size]; omega))); simpa using this) G) (st_g_true (j := 3) (dj := 102) (b := true) rfl rfl rfl (zA l rfl) (st_step rfl (fun _ G => zG (zC l rfl s) G) (st_g_true (j := 3) (dj := 102) (b := true) rfl rfl rfl (zA l rfl) (st_step rfl (fun _ G => zG (zC l rfl t) G) (st_g_true (j := 3) (dj := 102) (b := true) rfl rfl rfl (zA l rfl) (st_index_rd slt62 (zA l rfl) g.rdw (zA l rfl) zx zx ?_)))))))
   intro P R S Q M
   refine st_g_true (j := 3) (dj := 102) (b := true) rfl rfl rfl (zA l rfl) (st_step rfl (fun _ G => zN (v := (Value.int .u64 (dk[a]!.toNat : Int))) one57 (zA l rfl) (by have := M 0 (.int .u64 (dk[a]!.toNat : Int)) zz (el_arr (i := a) zx (by first | omega | (simp only [Array.size_setIfInBounds, swp_sz, siftDown_size]; omega))); simpa using this) G) (st_g_true (j := 3) (dj := 102) (b := true) rfl rfl rfl (zA l rfl) (st_fn (vs := [(.int .u64 (dk[D]!.toNat : Int)), (.int .u64 (dk[a]!.toNat : Int))]) ok73 (⟨(zA l rfl), ⟨(zA l rfl), trivial⟩⟩) (Less16_ret dk[D]! dk[a]! _) (st_step rfl (fun _ G => zc (zA l rfl) (zA l rfl) G) (st_nil (K _ _ (wp_cond_split (zA l rfl) (fun P => ?_) (fun P => ?_))))))))
   ·
    refine wp_skip (F _ _ (wp_block (zH (zG (zC l rfl q) (op_add (zA l rfl) rfl (add64 zx) (zD (zA l rfl) (zB (blk_normal ?_))))))))
    -- round 65F 101T 112T
    exact zg _ l C ⟨(D + 1), rfl, (zL l rfl s), (zL l rfl t), (zL l rfl B), (zL l rfl y), (zL l rfl u), (zU l rfl).trans (congrArg (Value.int .i64) zx), zx, (A.trans (scanUp_go zx P)), hb, zx, g⟩ zx
   refine wp_exit (then_exit (then_exit (blk_hit (E _ _ ?_))))
   exact I _ _ _ l C ⟨D, (zL l rfl s), (zL l rfl t), (zL l rfl B), (zL l rfl y), (zL l rfl u), (zL l rfl q), zx, (A.trans (scanUp_stop (.inr P))), (fun _ => P), hb, zx, g⟩
  refine st_step rfl (fun _ G => op_cmp (b := false) (zA l rfl) (zA l rfl) (b_leq (decide_eq_false L)) G) (st_step rfl (fun _ G => zG (zA l rfl) G) (st_g_false (j := 3) (dj := 102) (b := true) rfl rfl rfl (zA l rfl) rfl rfl (st_g_false (j := 3) (dj := 102) (b := true) rfl rfl rfl (zA l rfl) rfl rfl (st_g_false (j := 3) (dj := 102) (b := true) rfl rfl rfl (zA l rfl) rfl rfl ?_))))
  refine st_g_false (j := 3) (dj := 102) (b := true) rfl rfl rfl (zA l rfl) rfl rfl (st_g_false (j := 3) (dj := 102) (b := true) rfl rfl rfl (zA l rfl) rfl rfl (st_g_false (j := 3) (dj := 102) (b := true) rfl rfl rfl (zA l rfl) rfl rfl (st_g_false (j := 3) (dj := 102) (b := true) rfl rfl rfl (zA l rfl) rfl rfl (st_g_false (j := 3) (dj := 102) (b := true) rfl rfl rfl (zA l rfl) rfl rfl (st_g_false (j := 3) (dj := 102) (b := true) rfl rfl rfl (zA l rfl) rfl rfl (st_step rfl (fun _ G => zd (zA l rfl) rfl G) (st_nil (K _ _ (wp_cond_false (zA l rfl) (wp_exit (then_exit (then_exit (blk_hit (E _ _ ?_))))))))))))))
  exact I _ _ _ l C ⟨D, (zL l rfl s), (zL l rfl t), (zL l rfl B), (zL l rfl y), (zL l rfl u), (zL l rfl q), zx, (A.trans (scanUp_stop (.inl zx))), (fun hq => absurd hq zx), hb, zx, g⟩
 rintro P q l u ⟨D, t, B, C, A, y, I, J, s, L, hb, M, g⟩
 have := hb.size
 refine seq_join1 (N := 168) (fun az_ w' => ∃ (J : Nat), (Sl az_ 0 v) ∧ (Sl az_ 1 (.int .i64 ((a : Nat) : Int))) ∧ (Sl az_ 8 (.int .i64 0)) ∧ (Sl az_ 9 (.bool false)) ∧ (Sl az_ 10 (.int .i64 ((D : Nat) : Int))) ∧ (Sl az_ 11 (.int .i64 ((J : Nat) : Int))) ∧ (J ≤ jj ∧ D ≤ J + 1) ∧ (scanDown (fun x => !ltT x dk[a]!) dk D jj = J) ∧ (D ≠ J) ∧ (w.grownBy w' v.ownBlock) ∧ (q.heap.size ≤ w'.heap.size) ∧ (Own w' base 57 1 v n (dk.toList.map u64v))) (fun M => ?_) ?_
 ·
  refine zF fun _ E => wp_block (loop_m (fun mz_ az_ w' => ∃ (J : Nat), mz_ = (J + 1) ∧ (Sl az_ 0 v) ∧ (Sl az_ 1 (.int .i64 ((a : Nat) : Int))) ∧ (Sl az_ 8 (.int .i64 0)) ∧ (Sl az_ 9 (.bool false)) ∧ (Sl az_ 10 (.int .i64 ((D : Nat) : Int))) ∧ (Sl az_ 11 (.int .i64 ((J : Nat) : Int))) ∧ (J ≤ jj ∧ D ≤ J + 1) ∧ (scanDown (fun x => !ltT x dk[a]!) dk D jj = scanDown (fun x => !ltT x dk[a]!) dk D J) ∧ (w.grownBy w' v.ownBlock) ∧ (q.heap.size ≤ w'.heap.size) ∧ (Own w' base 57 1 v n (dk.toList.map u64v))) _ l u ⟨jj, rfl, (zL l rfl t), (zL l rfl B), (zL l rfl C), (zL l rfl A), (zL l rfl I), (zL l rfl y).trans (congrArg (Value.int .i64) zx), zx, rfl, hb, (Nat.le_refl _), g⟩ ?_)
  rintro _ S Q l A ⟨J, rfl, t, u, C, B, y, q, P, I, hb, R, g⟩
  have := hb.size
  refine zF fun _ F => zF fun _ K => reg_still mixed zy ?_
  intro R Q
  have := Q.size
  have g := g.keep0 Q
  have hb := grow_step0 hb Q
  refine st_step rfl (fun _ G => zG (zC l rfl y) G) (st_step rfl (fun _ G => zG (zC l rfl q) G) ?_)
  by_cases Q : ((D : Nat) : Int) ≤ ((J : Nat) : Int)
  ·
   refine st_step rfl (fun _ G => op_cmp (b := true) (zA l rfl) (zA l rfl) (b_leq (decide_eq_true Q)) G) (st_step rfl (fun _ G => zG (zA l rfl) G) (st_g_true (j := 3) (dj := 118) (b := true) rfl rfl rfl (zA l rfl) (st_step rfl (fun _ G => zG (zC l rfl t) G) (st_g_true (j := 3) (dj := 118) (b := true) rfl rfl rfl (zA l rfl) (st_step rfl (fun _ G => zG (zC l rfl q) G) (st_g_true (j := 3) (dj := 118) (b := true) rfl rfl rfl (zA l rfl) (st_index_rd slt62 (zA l rfl) g.rdw (zA l rfl) zx zx ?_)))))))
   intro V S U T R
   refine st_g_true (j := 3) (dj := 118) (b := true) rfl rfl rfl (zA l rfl) (st_step rfl (fun _ G => zN (v := (Value.int .u64 (dk[J]!.toNat : Int))) one57 (zA l rfl) (by have := R 0 (.int .u64 (dk[J]!.toNat : Int)) zz (el_arr (i := J) zx (by first | omega | (simp only [Array.size_setIfInBounds, swp_sz, siftDown_size]; omega))); simpa using this) G) (st_g_true (j := 3) (dj := 118) (b := true) rfl rfl rfl (zA l rfl) (st_step rfl (fun _ G => zG (zC l rfl t) G) (st_g_true (j := 3) (dj := 118) (b := true) rfl rfl rfl (zA l rfl) (st_step rfl (fun _ G => zG (zC l rfl u) G) (st_g_true (j := 3) (dj := 118) (b := true) rfl rfl rfl (zA l rfl) (st_index_rd slt62 (zA l rfl) g.rdw (zA l rfl) zx zx ?_)))))))
   intro V T U S R
   refine st_g_true (j := 3) (dj := 118) (b := true) rfl rfl rfl (zA l rfl) (st_step rfl (fun _ G => zN (v := (Value.int .u64 (dk[a]!.toNat : Int))) one57 (zA l rfl) (by have := R 0 (.int .u64 (dk[a]!.toNat : Int)) zz (el_arr (i := a) zx (by first | omega | (simp only [Array.size_setIfInBounds, swp_sz, siftDown_size]; omega))); simpa using this) G) (st_g_true (j := 3) (dj := 118) (b := true) rfl rfl rfl (zA l rfl) (st_fn (vs := [(.int .u64 (dk[J]!.toNat : Int)), (.int .u64 (dk[a]!.toNat : Int))]) ok73 (⟨(zA l rfl), ⟨(zA l rfl), trivial⟩⟩) (Less16_ret dk[J]! dk[a]! _) (st_g_true (j := 3) (dj := 118) (b := true) rfl rfl rfl (zA l rfl) (st_step rfl (fun _ G => op_not (zA l rfl) G) (st_step rfl (fun _ G => zc (zA l rfl) (zA l rfl) G) (st_nil (K _ _ (wp_cond_split (zA l rfl) (fun S => ?_) (fun S => ?_))))))))))
   ·
    refine wp_skip (F _ _ (wp_block (zH (zG (zC l rfl q) (op_sub (zA l rfl) rfl (sub64 zx) (zD (zA l rfl) (zB (blk_normal ?_))))))))
    -- round 65F 117T 129T
    exact zg _ l A ⟨(J - 1), rfl, (zL l rfl t), (zL l rfl u), (zL l rfl C), (zL l rfl B), (zL l rfl y), (zU l rfl).trans (congrArg (Value.int .i64) zx), zx, (I.trans (scanDown_go zx zx S)), hb, zx, g⟩ zx
   refine wp_exit (then_exit (then_exit (blk_hit (E _ _ ?_))))
   exact M _ _ _ l A ⟨J, (zL l rfl t), (zL l rfl u), (zL l rfl C), (zL l rfl B), (zL l rfl y), (zL l rfl q), zx, (I.trans (scanDown_stop (.inr S))), (fun hh => by have G := L zx; rw [hh] at G; rw [G] at S; simp at S), hb, zx, g⟩
  refine st_step rfl (fun _ G => op_cmp (b := false) (zA l rfl) (zA l rfl) (b_leq (decide_eq_false Q)) G) (st_step rfl (fun _ G => zG (zA l rfl) G) (st_g_false (j := 3) (dj := 118) (b := true) rfl rfl rfl (zA l rfl) rfl rfl (st_g_false (j := 3) (dj := 118) (b := true) rfl rfl rfl (zA l rfl) rfl rfl (st_g_false (j := 3) (dj := 118) (b := true) rfl rfl rfl (zA l rfl) rfl rfl (st_g_false (j := 3) (dj := 118) (b := true) rfl rfl rfl (zA l rfl) rfl rfl ?_)))))
  refine st_g_false (j := 3) (dj := 118) (b := true) rfl rfl rfl (zA l rfl) rfl rfl (st_g_false (j := 3) (dj := 118) (b := true) rfl rfl rfl (zA l rfl) rfl rfl (st_g_false (j := 3) (dj := 118) (b := true) rfl rfl rfl (zA l rfl) rfl rfl (st_g_false (j := 3) (dj := 118) (b := true) rfl rfl rfl (zA l rfl) rfl rfl (st_g_false (j := 3) (dj := 118) (b := true) rfl rfl rfl (zA l rfl) rfl rfl (st_g_false (j := 3) (dj := 118) (b := true) rfl rfl rfl (zA l rfl) rfl rfl (st_step rfl (fun _ G => zd (zA l rfl) rfl G) (st_nil (K _ _ (wp_cond_false (zA l rfl) (wp_exit (then_exit (then_exit (blk_hit (E _ _ ?_))))))))))))))
  exact M _ _ _ l A ⟨J, (zL l rfl t), (zL l rfl u), (zL l rfl C), (zL l rfl B), (zL l rfl y), (zL l rfl q), zx, (I.trans (scanDown_stop (.inl zx))), zx, hb, zx, g⟩
 rintro I M l A ⟨J, q, y, C, G, u, t, P, B, L, hb, K, g⟩
 have := hb.size
 refine zF fun _ E => zF fun _ F => zH (zG (zC l rfl u) (zG (zC l rfl t) (op_gtr (zA l rfl) (zA l rfl) (fun I => ?_) (fun I => ?_))))
 ·
  refine zB (F _ _ (wp_cond_true (zA l rfl) (wp_exit (then_exit (blk_miss zz (then_exit (blk_hit (c _ _ (zF fun _ c => reg_mid (e := 57) (sz := 1) (base := base) (n := n) (v := v) (Φ := phiL [(fun uz _ => uz = v), (fun uz _ => uz = (.int .i64 ((J : Nat) : Int))), (fun uz _ => uz = v), (fun uz _ => uz = (.int .i64 ((a : Nat) : Int))), (fun uz _ => uz = v), (fun uz _ => uz = (.int .i64 ((a : Nat) : Int))), (fun uz _ => ∃ bz oz, uz = ptr bz oz ∧ AtV v a bz oz), (fun uz _ => uz = (.int .u64 (dk[a]!.toNat : Int))), (fun uz _ => uz = v), (fun uz _ => uz = (.int .i64 ((J : Nat) : Int))), (fun uz _ => ∃ bz oz, uz = ptr bz oz ∧ AtV v J bz oz), (fun uz _ => uz = (.int .u64 (dk[J]!.toNat : Int))), (fun uz _ => ∃ bz oz, uz = ptr bz oz ∧ AtV v J bz oz), (fun _ _ => True), (fun uz _ => ∃ bz oz, uz = ptr bz oz ∧ AtV v a bz oz), (fun _ _ => True)]) [13, 15] [(dk.toList.map u64v), ((dk.setIfInBounds J dk[a]!).toList.map u64v), (((dk.setIfInBounds J dk[a]!).setIfInBounds a dk[J]!).toList.map u64v)] mixed zy zy zy zy l g (StL.get (StL.eq (StL.eq (StL.eq (StL.eq (StL.eq (StL.eq (StL.at (StL.eq (StL.eq (StL.eq (StL.at (StL.eq (StL.at (StL.cons (fun _ _ _ _ h => h) (StL.at (StL.cons (fun _ _ _ _ h => h) (StL.nil _)))))))))))))))))) (ObRs.get (ObRs.cons ?_ (ObRs.cons ?_ (ObRs.cons ?_ (ObRs.cons ?_ (ObRs.cons ?_ (ObRs.cons ?_ (ObRs.cons ?_ (ObRs.cons ?_ (ObRs.cons ?_ (ObRs.cons ?_ (ObRs.cons ?_ (ObRs.cons ?_ (ObRs.cons ?_ (ObRs.pass rfl (ObRs.cons ?_ (ObRs.pass rfl (ObRs.nil)))))))))))))))))) (ObWs.get (ObWs.cons ?_ (ObWs.cons ?_ (ObWs.nil)))) ?_)))))))))
  ·
   intro aA wA cA hNA hRA hckA hOA hbsA hdpA
   have m := (hbsA 0 rfl).trans (zL l rfl q)
   clear hbsA hdpA
   refine zG (zC hNA rfl m) ?_
   exact obR_end rfl rfl (grown_refl _ _)
  ·
   intro aA wA cA hNA hRA hckA hOA hbsA hdpA
   have H := (hbsA 11 rfl).trans (zL l rfl t)
   clear hbsA hdpA
   refine zG (zC hNA rfl H) ?_
   exact obR_end rfl rfl (grown_refl _ _)
  ·
   intro aA wA cA hNA hRA hckA hOA hbsA hdpA
   have m := (hbsA 0 rfl).trans (zL l rfl q)
   clear hbsA hdpA
   refine zG (zC hNA rfl m) ?_
   exact obR_end rfl rfl (grown_refl _ _)
  ·
   intro aA wA cA hNA hRA hckA hOA hbsA hdpA
   have o := (hbsA 1 rfl).trans (zL l rfl y)
   clear hbsA hdpA
   refine zG (zC hNA rfl o) ?_
   exact obR_end rfl rfl (grown_refl _ _)
  ·
   intro aA wA cA hNA hRA hckA hOA hbsA hdpA
   have m := (hbsA 0 rfl).trans (zL l rfl q)
   clear hbsA hdpA
   refine zG (zC hNA rfl m) ?_
   exact obR_end rfl rfl (grown_refl _ _)
  ·
   intro aA wA cA hNA hRA hckA hOA hbsA hdpA
   have o := (hbsA 1 rfl).trans (zL l rfl y)
   clear hbsA hdpA
   refine zG (zC hNA rfl o) ?_
   exact obR_end rfl rfl (grown_refl _ _)
  ·
   intro aA wA cA hNA hRA hckA hOA hbsA hdpA
   have o : Sl aA 157 v := hdpA 4 _ 157 zy rfl rfl
   have I : Sl aA 158 (.int .i64 ((a : Nat) : Int)) := hdpA 5 _ 158 zy rfl rfl
   clear hbsA hdpA
   refine op_index_own (i := a) slt62 (zC hNA rfl o) hOA (zC hNA rfl I) zx zx ?_
   intro b_ o_ _ hA_
   exact obR_end rfl ⟨b_, o_, rfl, by simpa using hA_⟩ (grown_refl _ _)
  ·
   intro aA wA cA hNA hRA hckA hOA hbsA hdpA
   obtain ⟨K, L, o, I⟩ := hdpA 6 _ 159 zy rfl rfl
   clear hbsA hdpA
   obtain rfl : cA = 0 := Nat.le_zero.1 (hckA 0 13 rfl zy)
   have hOA : Own wA base 57 1 v n (dk.toList.map u64v) := hOA
   refine zN (v := (Value.int .u64 (dk[a]!.toNat : Int))) one57 (zC hNA rfl o) (by have := hOA.cellAt I 0 _ (el_at (i := a) (by first | omega | (simp only [Array.size_setIfInBounds, swp_sz, siftDown_size]; omega))); simpa using this) ?_
   exact obR_end rfl rfl (grown_refl _ _)
  ·
   intro aA wA cA hNA hRA hckA hOA hbsA hdpA
   have m := (hbsA 0 rfl).trans (zL l rfl q)
   clear hbsA hdpA
   refine zG (zC hNA rfl m) ?_
   exact obR_end rfl rfl (grown_refl _ _)
  ·
   intro aA wA cA hNA hRA hckA hOA hbsA hdpA
   have H := (hbsA 11 rfl).trans (zL l rfl t)
   clear hbsA hdpA
   refine zG (zC hNA rfl H) ?_
   exact obR_end rfl rfl (grown_refl _ _)
  ·
   intro aA wA cA hNA hRA hckA hOA hbsA hdpA
   have o : Sl aA 161 v := hdpA 8 _ 161 zy rfl rfl
   have I : Sl aA 162 (.int .i64 ((J : Nat) : Int)) := hdpA 9 _ 162 zy rfl rfl
   clear hbsA hdpA
   refine op_index_own (i := J) slt62 (zC hNA rfl o) hOA (zC hNA rfl I) zx zx ?_
   intro b_ o_ _ hA_
   exact obR_end rfl ⟨b_, o_, rfl, by simpa using hA_⟩ (grown_refl _ _)
  ·
   intro aA wA cA hNA hRA hckA hOA hbsA hdpA
   obtain ⟨L, K, o, I⟩ := hdpA 10 _ 163 zy rfl rfl
   clear hbsA hdpA
   obtain rfl : cA = 0 := Nat.le_zero.1 (hckA 0 13 rfl zy)
   have hOA : Own wA base 57 1 v n (dk.toList.map u64v) := hOA
   refine zN (v := (Value.int .u64 (dk[J]!.toNat : Int))) one57 (zC hNA rfl o) (by have := hOA.cellAt I 0 _ (el_at (i := J) (by first | omega | (simp only [Array.size_setIfInBounds, swp_sz, siftDown_size]; omega))); simpa using this) ?_
   exact obR_end rfl rfl (grown_refl _ _)
  ·
   intro aA wA cA hNA hRA hckA hOA hbsA hdpA
   have o : Sl aA 153 v := hdpA 0 _ 153 zy rfl rfl
   have I : Sl aA 154 (.int .i64 ((J : Nat) : Int)) := hdpA 1 _ 154 zy rfl rfl
   clear hbsA hdpA
   refine op_index_own (i := J) slt62 (zC hNA rfl o) hOA (zC hNA rfl I) zx zx ?_
   intro b_ o_ _ hA_
   exact obR_end rfl ⟨b_, o_, rfl, by simpa using hA_⟩ (grown_refl _ _)
  ·
   intro aA wA cA hNA hRA hckA hOA hbsA hdpA
   have o : Sl aA 155 v := hdpA 2 _ 155 zy rfl rfl
   have I : Sl aA 156 (.int .i64 ((a : Nat) : Int)) := hdpA 3 _ 156 zy rfl rfl
   clear hbsA hdpA
   refine op_index_own (i := a) slt62 (zC hNA rfl o) hOA (zC hNA rfl I) zx zx ?_
   intro b_ o_ _ hA_
   exact obR_end rfl ⟨b_, o_, rfl, by simpa using hA_⟩ (grown_refl _ _)
  ·
   intro o_ ho_; obtain rfl := zE ho_; intro aA wA hNA hRA hbsA hdpA hOA
   obtain ⟨K, L, I, o⟩ := hdpA 12 _ 165 zy rfl rfl
   have K : Sl aA 160 (.int .u64 (dk[a]!.toNat : Int)) := hdpA 7 _ 160 zy rfl rfl
   clear hbsA hdpA
   have hOA : Own wA base 57 1 v n (dk.toList.map u64v) := hOA
   refine op_store_own (vs := [(.int .u64 (dk[a]!.toNat : Int))]) size57 (zC hNA rfl I) (zC hNA rfl K) rfl rfl rfl hOA o (by have := hOA.1; simp at this ⊢; omega) ?_
   intro w_ hO_ E_
   exact obW_end rfl (hO_.cast rfl (set_arr (by first | omega | (simp only [Array.size_setIfInBounds, swp_sz, siftDown_size]; omega)))) E_
  ·
   intro o_ ho_; obtain rfl := zE ho_; intro aA wA hNA hRA hbsA hdpA hOA
   obtain ⟨K, L, o, I⟩ := hdpA 14 _ 166 zy rfl rfl
   have K : Sl aA 164 (.int .u64 (dk[J]!.toNat : Int)) := hdpA 11 _ 164 zy rfl rfl
   clear hbsA hdpA
   have hOA : Own wA base 57 1 v n ((dk.setIfInBounds J dk[a]!).toList.map u64v) := hOA
   refine op_store_own (vs := [(.int .u64 (dk[J]!.toNat : Int))]) size57 (zC hNA rfl o) (zC hNA rfl K) rfl rfl rfl hOA I (by have := hOA.1; simp at this ⊢; omega) ?_
   intro w_ hO_ E_
   exact obW_end rfl (hO_.cast rfl (set_arr (by first | omega | (simp only [Array.size_setIfInBounds, swp_sz, siftDown_size]; omega)))) E_
  intro R P o I M Q K L
  have I := I.trans A
  have R := (M 11 rfl).trans (zL l rfl t)
  clear M Q
  have K : Own P base 57 1 v n (((dk.setIfInBounds J dk[a]!).setIfInBounds a dk[J]!).toList.map u64v) := K
  have := L.size
  have hb := grow_stepX hb L rfl
  refine c _ _ (zF fun _ c => zH (zG (zC o rfl R) (zD (zA o rfl) (zD rfl (zB (c _ _ (wp_ret (ret2 rfl I (zA o rfl) (zA o rfl) ⟨_, rfl, ?_⟩))))))))
  have hp := hs.trans (pl_stop s B zx)
  have hq := pt_go p k z zx
  rw [hp] at hq
  exact ⟨hb, by rw [hq]; rfl, K.cast rfl (by rw [hq]; rfl)⟩
 refine zB (F _ _ (wp_cond_false (zA l rfl) (wp_skip (E _ _ (zF fun _ E => reg_mid (e := 57) (sz := 1) (base := base) (n := n) (v := v) (Φ := phiL [(fun uz _ => uz = v), (fun uz _ => uz = (.int .i64 ((D : Nat) : Int))), (fun uz _ => uz = v), (fun uz _ => uz = (.int .i64 ((J : Nat) : Int))), (fun uz _ => uz = v), (fun uz _ => uz = (.int .i64 ((J : Nat) : Int))), (fun uz _ => ∃ bz oz, uz = ptr bz oz ∧ AtV v J bz oz), (fun uz _ => uz = (.int .u64 (dk[J]!.toNat : Int))), (fun uz _ => uz = v), (fun uz _ => uz = (.int .i64 ((D : Nat) : Int))), (fun uz _ => ∃ bz oz, uz = ptr bz oz ∧ AtV v D bz oz), (fun uz _ => uz = (.int .u64 (dk[D]!.toNat : Int))), (fun uz _ => ∃ bz oz, uz = ptr bz oz ∧ AtV v D bz oz), (fun _ _ => True), (fun uz _ => ∃ bz oz, uz = ptr bz oz ∧ AtV v J bz oz), (fun _ _ => True)]) [13, 15] [(dk.toList.map u64v), ((dk.setIfInBounds D dk[J]!).toList.map u64v), (((dk.setIfInBounds D dk[J]!).setIfInBounds J dk[D]!).toList.map u64v)] mixed zy zy zy zy l g (StL.get (StL.eq (StL.eq (StL.eq (StL.eq (StL.eq (StL.eq (StL.at (StL.eq (StL.eq (StL.eq (StL.at (StL.eq (StL.at (StL.cons (fun _ _ _ _ h => h) (StL.at (StL.cons (fun _ _ _ _ h => h) (StL.nil _)))))))))))))))))) (ObRs.get (ObRs.cons ?_ (ObRs.cons ?_ (ObRs.cons ?_ (ObRs.cons ?_ (ObRs.cons ?_ (ObRs.cons ?_ (ObRs.cons ?_ (ObRs.cons ?_ (ObRs.cons ?_ (ObRs.cons ?_ (ObRs.cons ?_ (ObRs.cons ?_ (ObRs.cons ?_ (ObRs.pass rfl (ObRs.cons ?_ (ObRs.pass rfl (ObRs.nil)))))))))))))))))) (ObWs.get (ObWs.cons ?_ (ObWs.cons ?_ (ObWs.nil)))) ?_)))))
 ·
  intro aA wA cA hNA hRA hckA hOA hbsA hdpA
  have m := (hbsA 0 rfl).trans (zL l rfl q)
  clear hbsA hdpA
  refine zG (zC hNA rfl m) ?_
  exact obR_end rfl rfl (grown_refl _ _)
 ·
  intro aA wA cA hNA hRA hckA hOA hbsA hdpA
  have f := (hbsA 10 rfl).trans (zL l rfl u)
  clear hbsA hdpA
  refine zG (zC hNA rfl f) ?_
  exact obR_end rfl rfl (grown_refl _ _)
 ·
  intro aA wA cA hNA hRA hckA hOA hbsA hdpA
  have m := (hbsA 0 rfl).trans (zL l rfl q)
  clear hbsA hdpA
  refine zG (zC hNA rfl m) ?_
  exact obR_end rfl rfl (grown_refl _ _)
 ·
  intro aA wA cA hNA hRA hckA hOA hbsA hdpA
  have H := (hbsA 11 rfl).trans (zL l rfl t)
  clear hbsA hdpA
  refine zG (zC hNA rfl H) ?_
  exact obR_end rfl rfl (grown_refl _ _)
 ·
  intro aA wA cA hNA hRA hckA hOA hbsA hdpA
  have m := (hbsA 0 rfl).trans (zL l rfl q)
  clear hbsA hdpA
  refine zG (zC hNA rfl m) ?_
  exact obR_end rfl rfl (grown_refl _ _)
 ·
  intro aA wA cA hNA hRA hckA hOA hbsA hdpA
  have H := (hbsA 11 rfl).trans (zL l rfl t)
  clear hbsA hdpA
  refine zG (zC hNA rfl H) ?_
  exact obR_end rfl rfl (grown_refl _ _)
 ·
  intro aA wA cA hNA hRA hckA hOA hbsA hdpA
  have c : Sl aA 139 v := hdpA 4 _ 139 zy rfl rfl
  have g : Sl aA 140 (.int .i64 ((J : Nat) : Int)) := hdpA 5 _ 140 zy rfl rfl
  clear hbsA hdpA
  refine op_index_own (i := J) slt62 (zC hNA rfl c) hOA (zC hNA rfl g) zx zx ?_
  intro b_ o_ _ hA_
  exact obR_end rfl ⟨b_, o_, rfl, by simpa using hA_⟩ (grown_refl _ _)
 ·
  intro aA wA cA hNA hRA hckA hOA hbsA hdpA
  obtain ⟨o, k, c, g⟩ := hdpA 6 _ 141 zy rfl rfl
  clear hbsA hdpA
  obtain rfl : cA = 0 := Nat.le_zero.1 (hckA 0 13 rfl zy)
  have hOA : Own wA base 57 1 v n (dk.toList.map u64v) := hOA
  refine zN (v := (Value.int .u64 (dk[J]!.toNat : Int))) one57 (zC hNA rfl c) (by have := hOA.cellAt g 0 _ (el_at (i := J) (by first | omega | (simp only [Array.size_setIfInBounds, swp_sz, siftDown_size]; omega))); simpa using this) ?_
  exact obR_end rfl rfl (grown_refl _ _)
 ·
  intro aA wA cA hNA hRA hckA hOA hbsA hdpA
  have m := (hbsA 0 rfl).trans (zL l rfl q)
  clear hbsA hdpA
  refine zG (zC hNA rfl m) ?_
  exact obR_end rfl rfl (grown_refl _ _)
 ·
  intro aA wA cA hNA hRA hckA hOA hbsA hdpA
  have f := (hbsA 10 rfl).trans (zL l rfl u)
  clear hbsA hdpA
  refine zG (zC hNA rfl f) ?_
  exact obR_end rfl rfl (grown_refl _ _)
 ·
  intro aA wA cA hNA hRA hckA hOA hbsA hdpA
  have c : Sl aA 143 v := hdpA 8 _ 143 zy rfl rfl
  have f : Sl aA 144 (.int .i64 ((D : Nat) : Int)) := hdpA 9 _ 144 zy rfl rfl
  clear hbsA hdpA
  refine op_index_own (i := D) slt62 (zC hNA rfl c) hOA (zC hNA rfl f) zx zx ?_
  intro b_ o_ _ hA_
  exact obR_end rfl ⟨b_, o_, rfl, by simpa using hA_⟩ (grown_refl _ _)
 ·
  intro aA wA cA hNA hRA hckA hOA hbsA hdpA
  obtain ⟨g, k, c, f⟩ := hdpA 10 _ 145 zy rfl rfl
  clear hbsA hdpA
  obtain rfl : cA = 0 := Nat.le_zero.1 (hckA 0 13 rfl zy)
  have hOA : Own wA base 57 1 v n (dk.toList.map u64v) := hOA
  refine zN (v := (Value.int .u64 (dk[D]!.toNat : Int))) one57 (zC hNA rfl c) (by have := hOA.cellAt f 0 _ (el_at (i := D) (by first | omega | (simp only [Array.size_setIfInBounds, swp_sz, siftDown_size]; omega))); simpa using this) ?_
  exact obR_end rfl rfl (grown_refl _ _)
 ·
  intro aA wA cA hNA hRA hckA hOA hbsA hdpA
  have c : Sl aA 135 v := hdpA 0 _ 135 zy rfl rfl
  have f : Sl aA 136 (.int .i64 ((D : Nat) : Int)) := hdpA 1 _ 136 zy rfl rfl
  clear hbsA hdpA
  refine op_index_own (i := D) slt62 (zC hNA rfl c) hOA (zC hNA rfl f) zx zx ?_
  intro b_ o_ _ hA_
  exact obR_end rfl ⟨b_, o_, rfl, by simpa using hA_⟩ (grown_refl _ _)
 ·
  intro aA wA cA hNA hRA hckA hOA hbsA hdpA
  have c : Sl aA 137 v := hdpA 2 _ 137 zy rfl rfl
  have f : Sl aA 138 (.int .i64 ((J : Nat) : Int)) := hdpA 3 _ 138 zy rfl rfl
  clear hbsA hdpA
  refine op_index_own (i := J) slt62 (zC hNA rfl c) hOA (zC hNA rfl f) zx zx ?_
  intro b_ o_ _ hA_
  exact obR_end rfl ⟨b_, o_, rfl, by simpa using hA_⟩ (grown_refl _ _)
 ·
  intro o_ ho_; obtain rfl := zE ho_; intro aA wA hNA hRA hbsA hdpA hOA
  obtain ⟨k, g, c, f⟩ := hdpA 12 _ 147 zy rfl rfl
  have g : Sl aA 142 (.int .u64 (dk[J]!.toNat : Int)) := hdpA 7 _ 142 zy rfl rfl
  clear hbsA hdpA
  have hOA : Own wA base 57 1 v n (dk.toList.map u64v) := hOA
  refine op_store_own (vs := [(.int .u64 (dk[J]!.toNat : Int))]) size57 (zC hNA rfl c) (zC hNA rfl g) rfl rfl rfl hOA f (by have := hOA.1; simp at this ⊢; omega) ?_
  intro w_ hO_ E_
  exact obW_end rfl (hO_.cast rfl (set_arr (by first | omega | (simp only [Array.size_setIfInBounds, swp_sz, siftDown_size]; omega)))) E_
 ·
  intro o_ ho_; obtain rfl := zE ho_; intro aA wA hNA hRA hbsA hdpA hOA
  obtain ⟨k, g, c, f⟩ := hdpA 14 _ 148 zy rfl rfl
  have g : Sl aA 146 (.int .u64 (dk[D]!.toNat : Int)) := hdpA 11 _ 146 zy rfl rfl
  clear hbsA hdpA
  have hOA : Own wA base 57 1 v n ((dk.setIfInBounds D dk[J]!).toList.map u64v) := hOA
  refine op_store_own (vs := [(.int .u64 (dk[D]!.toNat : Int))]) size57 (zC hNA rfl c) (zC hNA rfl g) rfl rfl rfl hOA f (by have := hOA.1; simp at this ⊢; omega) ?_
  intro w_ hO_ E_
  exact obW_end rfl (hO_.cast rfl (set_arr (by first | omega | (simp only [Array.size_setIfInBounds, swp_sz, siftDown_size]; omega)))) E_
 intro z o c g f p k m
 have g := g.trans A
 have z := (f 0 rfl).trans (zL l rfl q)
 have q := (f 1 rfl).trans (zL l rfl y)
 have y := (f 8 rfl).trans (zL l rfl C)
 have A := (f 9 rfl).trans (zL l rfl G)
 have C := (f 10 rfl).trans (zL l rfl u)
 have u := (f 11 rfl).trans (zL l rfl t)
 clear f p
 have k : Own o base 57 1 v n (((dk.setIfInBounds D dk[J]!).setIfInBounds J dk[D]!).toList.map u64v) := k
 have := m.size
 have hb := grow_stepX hb m rfl
 refine E _ _ (zF fun _ E => zH ?_)
 refine zG (zC c rfl C) (op_add (zA c rfl) rfl (add64 zx) (zD (zA c rfl) (zB (E _ _ (zH (zG (zC c rfl u) (op_sub (zA c rfl) rfl (sub64 zx) (zD (zA c rfl) (zB (blk_normal ?_))))))))))
 -- round 65F 134F
 exact zg _ c g ⟨(D + 1), (J - 1), _, rfl, (zL c rfl z), (zL c rfl q), (zL c rfl y), (zL c rfl A), (zU c rfl).trans (congrArg (Value.int .i64) zx), (zU c rfl).trans (congrArg (Value.int .i64) zx), (by first | assumption | (simp only [Array.size_setIfInBounds, swp_sz, siftDown_size]; assumption)), zx, (hs.trans (pl_go s B zx)), hb, zx, k⟩ zx
open Go.Sort (insertionSort insOuter insInner swp siftDown heapSort heapBuild heapPop scanUp scanDown partition partLoop partitionEqual partEqLoop scanSorted partialIns bitsLen partialInsertionSort shiftDown shiftUp SortedIn reverseRange reverseLoop fixDown fixUp)
set_option maxHeartbeats 2000000 in
theorem partialW_ret (d : Ar) (v : Value) (n base : Nat) (a b : Nat) (w : World) (hd : d.size = n) (hn : n ≤ 4000000000000000000) (O : Own w base 57 1 v n (d.toList.map u64v)) (hab : a < b) (hbn : b ≤ n) : Ret Try.prog 72 #[v, (.int .i64 ((a : Nat) : Int)), (.int .i64 ((b : Nat) : Int))] w (fun v' w' => w.grownBy w' v.ownBlock ∧ v' = .bool (partialInsertionSort ltT d a b).2 ∧ Own w' base 57 1 v n ((partialInsertionSort ltT d a b).1.toList.map u64v)) := by
 have hb := grown_refl w v.ownBlock
 refine enter (N := 133) Try.func72 rfl rfl (by simp) fun c hN hd hA => ?_
 have f : c.tmps.getD 0 undef = v := hA 0 (by simp)
 have g : c.tmps.getD 1 undef = (.int .i64 ((a : Nat) : Int)) := hA 1 (by simp)
 have k : c.tmps.getD 2 undef = (.int .i64 ((b : Nat) : Int)) := hA 2 (by simp)
 clear hA
 refine zF fun _ c => zH (zD rfl (zB (c _ _ (zF fun _ c => zH (zG (zC hN rfl g) ?_)))))
 refine op_add (zA hN rfl) rfl (add64 zx) (zD (zA hN rfl) (zB (c _ _ (zF fun _ c => zF fun _ l => zH (zD rfl (zB (l _ _ (wp_block (loop_m (fun mz_ az_ w' => ∃ (s ii : Nat) (dk : Ar), mz_ = (5 - s) ∧ (Sl az_ 0 v) ∧ (Sl az_ 1 (.int .i64 ((a : Nat) : Int))) ∧ (Sl az_ 2 (.int .i64 ((b : Nat) : Int))) ∧ (Sl az_ 8 (.int .i64 ((s : Nat) : Int))) ∧ (Sl az_ 7 (.int .i64 ((ii : Nat) : Int))) ∧ (dk.size = n) ∧ (s ≤ 5 ∧ a + 1 ≤ ii ∧ ii ≤ b) ∧ (partialIns ltT a b 5 (a + 1) d = partialIns ltT a b (5 - s) ii dk) ∧ (w.grownBy w' v.ownBlock) ∧ (w.heap.size ≤ w'.heap.size) ∧ (Own w' base 57 1 v n (dk.toList.map u64v))) _ hN hd ⟨0, (a + 1), _, rfl, (zL hN rfl f), (zL hN rfl g), (zL hN rfl k), (zU hN rfl).trans (congrArg (Value.int .i64) zx), (zU hN rfl).trans (congrArg (Value.int .i64) zx), (by first | assumption | (simp only [Array.size_setIfInBounds, swp_sz, siftDown_size]; assumption)), zx, rfl, hb, (Nat.le_refl _), O⟩ ?_)))))))))
 rintro _ y m g k ⟨s, ii, dk, rfl, u, t, p, o, q, hdk, x, hs, hb, z, f⟩
 have := hb.size
 refine zF fun _ l => zF fun _ x => zH (zG (zC g rfl o) (op_lss (zA g rfl) rfl (fun y => ?_) (fun y => ?_)))
 ·
  refine zB (x _ _ (wp_cond_true (zA g rfl) (wp_skip (l _ _ (zF fun _ l => wp_block (seq_join1 (N := 133) (fun az_ w' => ∃ (y : Nat), (Sl az_ 0 v) ∧ (Sl az_ 1 (.int .i64 ((a : Nat) : Int))) ∧ (Sl az_ 2 (.int .i64 ((b : Nat) : Int))) ∧ (Sl az_ 8 (.int .i64 ((s : Nat) : Int))) ∧ (Sl az_ 7 (.int .i64 ((y : Nat) : Int))) ∧ (ii ≤ y ∧ y ≤ b) ∧ (scanSorted ltT dk b ii = y) ∧ (w.grownBy w' v.ownBlock) ∧ (m.heap.size ≤ w'.heap.size) ∧ (Own w' base 57 1 v n (dk.toList.map u64v))) (fun z => ?_) ?_))))))
  ·
   refine zF fun _ x => wp_block (loop_m (fun mz_ az_ w' => ∃ (y : Nat), mz_ = (b + 1 - y) ∧ (Sl az_ 0 v) ∧ (Sl az_ 1 (.int .i64 ((a : Nat) : Int))) ∧ (Sl az_ 2 (.int .i64 ((b : Nat) : Int))) ∧ (Sl az_ 8 (.int .i64 ((s : Nat) : Int))) ∧ (Sl az_ 7 (.int .i64 ((y : Nat) : Int))) ∧ (ii ≤ y ∧ y ≤ b) ∧ (scanSorted ltT dk b ii = scanSorted ltT dk b y) ∧ (w.grownBy w' v.ownBlock) ∧ (m.heap.size ≤ w'.heap.size) ∧ (Own w' base 57 1 v n (dk.toList.map u64v))) _ g k ⟨ii, rfl, (zL g rfl u), (zL g rfl t), (zL g rfl p), (zL g rfl o), (zL g rfl q).trans (congrArg (Value.int .i64) zx), zx, rfl, hb, (Nat.le_refl _), f⟩ ?_)
   rintro _ F D m q ⟨y, rfl, p, B, t, u, o, C, A, hb, E, f⟩
   have := hb.size
   refine zF fun _ D => zF fun _ E => reg_still mixed zy ?_
   intro G F
   have := F.size
   have f := f.keep0 F
   have hb := grow_step0 hb F
   refine st_step rfl (fun _ F => zG (zC m rfl o) F) (st_step rfl (fun _ F => zG (zC m rfl t) F) ?_)
   by_cases G : ((y : Nat) : Int) < ((b : Nat) : Int)
   ·
    refine st_step rfl (fun _ F => op_cmp (b := true) (zA m rfl) (zA m rfl) (b_lss (decide_eq_true G)) F) (st_step rfl (fun _ F => zG (zA m rfl) F) (st_g_true (j := 3) (dj := 20) (b := true) rfl rfl rfl (zA m rfl) (st_step rfl (fun _ F => zG (zC m rfl p) F) (st_g_true (j := 3) (dj := 20) (b := true) rfl rfl rfl (zA m rfl) (st_step rfl (fun _ F => zG (zC m rfl o) F) (st_g_true (j := 3) (dj := 20) (b := true) rfl rfl rfl (zA m rfl) (st_index_rd slt62 (zA m rfl) f.rdw (zA m rfl) zx zx ?_)))))))
    intro L K J I H
    refine st_g_true (j := 3) (dj := 20) (b := true) rfl rfl rfl (zA m rfl) (st_step rfl (fun _ F => zN (v := (Value.int .u64 (dk[y]!.toNat : Int))) one57 (zA m rfl) (by have := H 0 (.int .u64 (dk[y]!.toNat : Int)) zz (el_arr (i := y) zx (by first | omega | (simp only [Array.size_setIfInBounds, swp_sz, siftDown_size]; omega))); simpa using this) F) (st_g_true (j := 3) (dj := 20) (b := true) rfl rfl rfl (zA m rfl) (st_step rfl (fun _ F => zG (zC m rfl p) F) (st_g_true (j := 3) (dj := 20) (b := true) rfl rfl rfl (zA m rfl) (st_step rfl (fun _ F => zG (zC m rfl o) F) (st_g_true (j := 3) (dj := 20) (b := true) rfl rfl rfl (zA m rfl) (st_step rfl (fun _ F => op_sub (zA m rfl) rfl (sub64 zx) F) (st_g_true (j := 3) (dj := 20) (b := true) rfl rfl rfl (zA m rfl) (st_index_rd slt62 (zA m rfl) f.rdw (zA m rfl) zx zx ?_)))))))))
    intro K L J I H
    refine st_g_true (j := 3) (dj := 20) (b := true) rfl rfl rfl (zA m rfl) (st_step rfl (fun _ F => zN (v := (Value.int .u64 (dk[(y - 1)]!.toNat : Int))) one57 (zA m rfl) (by have := H 0 (.int .u64 (dk[(y - 1)]!.toNat : Int)) zz (el_arr (i := (y - 1)) zx (by first | omega | (simp only [Array.size_setIfInBounds, swp_sz, siftDown_size]; omega))); simpa using this) F) (st_g_true (j := 3) (dj := 20) (b := true) rfl rfl rfl (zA m rfl) (st_fn (vs := [(.int .u64 (dk[y]!.toNat : Int)), (.int .u64 (dk[(y - 1)]!.toNat : Int))]) ok73 (⟨(zA m rfl), ⟨(zA m rfl), trivial⟩⟩) (Less16_ret dk[y]! dk[(y - 1)]! _) (st_g_true (j := 3) (dj := 20) (b := true) rfl rfl rfl (zA m rfl) (st_step rfl (fun _ F => op_not (zA m rfl) F) (st_step rfl (fun _ F => zc (zA m rfl) (zA m rfl) F) (st_nil (E _ _ (wp_cond_split (zA m rfl) (fun I => ?_) (fun I => ?_))))))))))
    ·
     refine wp_skip (D _ _ (wp_block (zH (zG (zC m rfl o) (op_add (zA m rfl) rfl (add64 zx) (zD (zA m rfl) (zB (blk_normal ?_))))))))
     -- round 14T 19T 32T
     exact zg _ m q ⟨(y + 1), rfl, (zL m rfl p), (zL m rfl B), (zL m rfl t), (zL m rfl u), (zU m rfl).trans (congrArg (Value.int .i64) zx), zx, (A.trans (scanSorted_go zx (not_t I))), hb, zx, f⟩ zx
    refine wp_exit (then_exit (then_exit (blk_hit (x _ _ ?_))))
    exact z _ _ _ m q ⟨y, (zL m rfl p), (zL m rfl B), (zL m rfl t), (zL m rfl u), (zL m rfl o), zx, (A.trans (scanSorted_stop (.inr (not_f I)))), hb, zx, f⟩
   refine st_step rfl (fun _ F => op_cmp (b := false) (zA m rfl) (zA m rfl) (b_lss (decide_eq_false G)) F) (st_step rfl (fun _ F => zG (zA m rfl) F) (st_g_false (j := 3) (dj := 20) (b := true) rfl rfl rfl (zA m rfl) rfl rfl (st_g_false (j := 3) (dj := 20) (b := true) rfl rfl rfl (zA m rfl) rfl rfl (st_g_false (j := 3) (dj := 20) (b := true) rfl rfl rfl (zA m rfl) rfl rfl (st_g_false (j := 3) (dj := 20) (b := true) rfl rfl rfl (zA m rfl) rfl rfl (st_g_false (j := 3) (dj := 20) (b := true) rfl rfl rfl (zA m rfl) rfl rfl ?_))))))
   refine st_g_false (j := 3) (dj := 20) (b := true) rfl rfl rfl (zA m rfl) rfl rfl (st_g_false (j := 3) (dj := 20) (b := true) rfl rfl rfl (zA m rfl) rfl rfl (st_g_false (j := 3) (dj := 20) (b := true) rfl rfl rfl (zA m rfl) rfl rfl (st_g_false (j := 3) (dj := 20) (b := true) rfl rfl rfl (zA m rfl) rfl rfl (st_g_false (j := 3) (dj := 20) (b := true) rfl rfl rfl (zA m rfl) rfl rfl (st_g_false (j := 3) (dj := 20) (b := true) rfl rfl rfl (zA m rfl) rfl rfl (st_step rfl (fun _ F => zd (zA m rfl) rfl F) (st_nil (E _ _ (wp_cond_false (zA m rfl) (wp_exit (then_exit (then_exit (blk_hit (x _ _ ?_))))))))))))))
   exact z _ _ _ m q ⟨y, (zL m rfl p), (zL m rfl B), (zL m rfl t), (zL m rfl u), (zL m rfl o), zx, (A.trans (scanSorted_stop (.inl zx))), hb, zx, f⟩
  rintro H G m u ⟨y, t, A, z, B, o, C, p, hb, I, f⟩
  have := hb.size
  refine zF fun _ x => zF fun _ D => zH (zG (zC m rfl o) (zG (zC m rfl z) (op_eql (zA m rfl) (zA m rfl) (fun C => ?_) (fun C => ?_))))
  ·
   refine zB (D _ _ (wp_cond_true (zA m rfl) (zF fun _ D => zH (zD rfl (zB (D _ _ (wp_ret (zO (zb (zO (zO (zb (zO ( (ret1 rfl u (zA m rfl) ⟨_, rfl, ?_⟩)))))))))))))))
   have hq : partialInsertionSort ltT d a b = (dk, true) := hs.trans (pi_true zx p zx)
   exact ⟨hb, by rw [hq]; rfl, f.cast rfl (by rw [hq])⟩
  refine zB (D _ _ (wp_cond_false (zA m rfl) (wp_skip (x _ _ (zF fun _ x => zF fun _ D => zH (zG (zC m rfl z) (zG (zC m rfl A) (op_sub (zA m rfl) (zA m rfl) (sub64 zx) (op_lss (zA m rfl) rfl (fun C => ?_) (fun C => ?_))))))))))
  ·
   refine zB (D _ _ (wp_cond_true (zA m rfl) (zF fun _ D => zH (zD rfl (zB (D _ _ (wp_ret (zO (zb (zO (zO (zb (zO ( (ret1 rfl u (zA m rfl) ⟨_, rfl, ?_⟩)))))))))))))))
   have hq : partialInsertionSort ltT d a b = (dk, false) := hs.trans (pi_short zx p zx zx)
   exact ⟨hb, by rw [hq]; rfl, f.cast rfl (by rw [hq])⟩
  refine zB (D _ _ (wp_cond_false (zA m rfl) (wp_skip (x _ _ (zF fun _ x => reg_mid (e := 57) (sz := 1) (base := base) (n := n) (v := v) (Φ := phiL [(fun uz _ => uz = v), (fun uz _ => uz = (.int .i64 ((y : Nat) : Int))), (fun uz _ => uz = v), (fun uz _ => uz = (.int .i64 ((y : Nat) : Int))), (fun uz _ => uz = (.int .i64 (((y : Nat) : Int) - 1))), (fun uz _ => uz = v), (fun uz _ => uz = (.int .i64 ((y : Nat) : Int))), (fun uz _ => uz = (.int .i64 (((y : Nat) : Int) - 1))), (fun uz _ => ∃ bz oz, uz = ptr bz oz ∧ AtV v (y - 1) bz oz), (fun uz _ => uz = (.int .u64 (dk[(y - 1)]!.toNat : Int))), (fun uz _ => uz = v), (fun uz _ => uz = (.int .i64 ((y : Nat) : Int))), (fun uz _ => ∃ bz oz, uz = ptr bz oz ∧ AtV v y bz oz), (fun uz _ => uz = (.int .u64 (dk[y]!.toNat : Int))), (fun uz _ => ∃ bz oz, uz = ptr bz oz ∧ AtV v y bz oz), (fun _ _ => True), (fun uz _ => ∃ bz oz, uz = ptr bz oz ∧ AtV v (y - 1) bz oz), (fun _ _ => True)]) [15, 17] [(dk.toList.map u64v), ((dk.setIfInBounds y dk[(y - 1)]!).toList.map u64v), (((dk.setIfInBounds y dk[(y - 1)]!).setIfInBounds (y - 1) dk[y]!).toList.map u64v)] mixed zy zy zy zy m f (StL.get (StL.eq (StL.eq (StL.eq (StL.eq (StL.eq (StL.eq (StL.eq (StL.eq (StL.at (StL.eq (StL.eq (StL.eq (StL.at (StL.eq (StL.at (StL.cons (fun _ _ _ _ h => h) (StL.at (StL.cons (fun _ _ _ _ h => h) (StL.nil _)))))))))))))))))))) (ObRs.get (ObRs.cons ?_ (ObRs.cons ?_ (ObRs.cons ?_ (ObRs.cons ?_ (ObRs.cons ?_ (ObRs.cons ?_ (ObRs.cons ?_ (ObRs.cons ?_ (ObRs.cons ?_ (ObRs.cons ?_ (ObRs.cons ?_ (ObRs.cons ?_ (ObRs.cons ?_ (ObRs.cons ?_ (ObRs.cons ?_ (ObRs.pass rfl (ObRs.cons ?_ (ObRs.pass rfl (ObRs.nil)))))))))))))))))))) (ObWs.get (ObWs.cons ?_ (ObWs.cons ?_ (ObWs.nil)))) ?_)))))
  ·
   intro aA wA cA hNA hRA hckA hOA hbsA hdpA
   have C := (hbsA 0 rfl).trans (zL m rfl t)
   clear hbsA hdpA
   refine zG (zC hNA rfl C) ?_
   exact obR_end rfl rfl (grown_refl _ _)
  ·
   intro aA wA cA hNA hRA hckA hOA hbsA hdpA
   have G := (hbsA 7 rfl).trans (zL m rfl o)
   clear hbsA hdpA
   refine zG (zC hNA rfl G) ?_
   exact obR_end rfl rfl (grown_refl _ _)
  ·
   intro aA wA cA hNA hRA hckA hOA hbsA hdpA
   have C := (hbsA 0 rfl).trans (zL m rfl t)
   clear hbsA hdpA
   refine zG (zC hNA rfl C) ?_
   exact obR_end rfl rfl (grown_refl _ _)
  ·
   intro aA wA cA hNA hRA hckA hOA hbsA hdpA
   have G := (hbsA 7 rfl).trans (zL m rfl o)
   clear hbsA hdpA
   refine zG (zC hNA rfl G) ?_
   exact obR_end rfl rfl (grown_refl _ _)
  ·
   intro aA wA cA hNA hRA hckA hOA hbsA hdpA
   have H : Sl aA 45 (.int .i64 ((y : Nat) : Int)) := hdpA 3 _ 45 zy rfl rfl
   clear hbsA hdpA
   refine op_sub (zC hNA rfl H) rfl (sub64 zx) ?_
   exact obR_end rfl rfl (grown_refl _ _)
  ·
   intro aA wA cA hNA hRA hckA hOA hbsA hdpA
   have C := (hbsA 0 rfl).trans (zL m rfl t)
   clear hbsA hdpA
   refine zG (zC hNA rfl C) ?_
   exact obR_end rfl rfl (grown_refl _ _)
  ·
   intro aA wA cA hNA hRA hckA hOA hbsA hdpA
   have G := (hbsA 7 rfl).trans (zL m rfl o)
   clear hbsA hdpA
   refine zG (zC hNA rfl G) ?_
   exact obR_end rfl rfl (grown_refl _ _)
  ·
   intro aA wA cA hNA hRA hckA hOA hbsA hdpA
   have H : Sl aA 48 (.int .i64 ((y : Nat) : Int)) := hdpA 6 _ 48 zy rfl rfl
   clear hbsA hdpA
   refine op_sub (zC hNA rfl H) rfl (sub64 zx) ?_
   exact obR_end rfl rfl (grown_refl _ _)
  ·
   intro aA wA cA hNA hRA hckA hOA hbsA hdpA
   have H : Sl aA 47 v := hdpA 5 _ 47 zy rfl rfl
   have I : Sl aA 49 (.int .i64 (((y : Nat) : Int) - 1)) := hdpA 7 _ 49 zy rfl rfl
   clear hbsA hdpA
   refine op_index_own (i := (y - 1)) slt62 (zC hNA rfl H) hOA (zC hNA rfl I) zx zx ?_
   intro b_ o_ _ hA_
   exact obR_end rfl ⟨b_, o_, rfl, by simpa using hA_⟩ (grown_refl _ _)
  ·
   intro aA wA cA hNA hRA hckA hOA hbsA hdpA
   obtain ⟨K, J, I, H⟩ := hdpA 8 _ 50 zy rfl rfl
   clear hbsA hdpA
   obtain rfl : cA = 0 := Nat.le_zero.1 (hckA 0 15 rfl zy)
   have hOA : Own wA base 57 1 v n (dk.toList.map u64v) := hOA
   refine zN (v := (Value.int .u64 (dk[(y - 1)]!.toNat : Int))) one57 (zC hNA rfl I) (by have := hOA.cellAt H 0 _ (el_at (i := (y - 1)) (by first | omega | (simp only [Array.size_setIfInBounds, swp_sz, siftDown_size]; omega))); simpa using this) ?_
   exact obR_end rfl rfl (grown_refl _ _)
  ·
   intro aA wA cA hNA hRA hckA hOA hbsA hdpA
   have C := (hbsA 0 rfl).trans (zL m rfl t)
   clear hbsA hdpA
   refine zG (zC hNA rfl C) ?_
   exact obR_end rfl rfl (grown_refl _ _)
  ·
   intro aA wA cA hNA hRA hckA hOA hbsA hdpA
   have G := (hbsA 7 rfl).trans (zL m rfl o)
   clear hbsA hdpA
   refine zG (zC hNA rfl G) ?_
   exact obR_end rfl rfl (grown_refl _ _)
  ·
   intro aA wA cA hNA hRA hckA hOA hbsA hdpA
   have G : Sl aA 52 v := hdpA 10 _ 52 zy rfl rfl
   have H : Sl aA 53 (.int .i64 ((y : Nat) : Int)) := hdpA 11 _ 53 zy rfl rfl
   clear hbsA hdpA
   refine op_index_own (i := y) slt62 (zC hNA rfl G) hOA (zC hNA rfl H) zx zx ?_
   intro b_ o_ _ hA_
   exact obR_end rfl ⟨b_, o_, rfl, by simpa using hA_⟩ (grown_refl _ _)
  ·
   intro aA wA cA hNA hRA hckA hOA hbsA hdpA
   obtain ⟨J, I, G, H⟩ := hdpA 12 _ 54 zy rfl rfl
   clear hbsA hdpA
   obtain rfl : cA = 0 := Nat.le_zero.1 (hckA 0 15 rfl zy)
   have hOA : Own wA base 57 1 v n (dk.toList.map u64v) := hOA
   refine zN (v := (Value.int .u64 (dk[y]!.toNat : Int))) one57 (zC hNA rfl G) (by have := hOA.cellAt H 0 _ (el_at (i := y) (by first | omega | (simp only [Array.size_setIfInBounds, swp_sz, siftDown_size]; omega))); simpa using this) ?_
   exact obR_end rfl rfl (grown_refl _ _)
  ·
   intro aA wA cA hNA hRA hckA hOA hbsA hdpA
   have G : Sl aA 42 v := hdpA 0 _ 42 zy rfl rfl
   have H : Sl aA 43 (.int .i64 ((y : Nat) : Int)) := hdpA 1 _ 43 zy rfl rfl
   clear hbsA hdpA
   refine op_index_own (i := y) slt62 (zC hNA rfl G) hOA (zC hNA rfl H) zx zx ?_
   intro b_ o_ _ hA_
   exact obR_end rfl ⟨b_, o_, rfl, by simpa using hA_⟩ (grown_refl _ _)
  ·
   intro aA wA cA hNA hRA hckA hOA hbsA hdpA
   have G : Sl aA 44 v := hdpA 2 _ 44 zy rfl rfl
   have H : Sl aA 46 (.int .i64 (((y : Nat) : Int) - 1)) := hdpA 4 _ 46 zy rfl rfl
   clear hbsA hdpA
   refine op_index_own (i := (y - 1)) slt62 (zC hNA rfl G) hOA (zC hNA rfl H) zx zx ?_
   intro b_ o_ _ hA_
   exact obR_end rfl ⟨b_, o_, rfl, by simpa using hA_⟩ (grown_refl _ _)
  ·
   intro o_ ho_; obtain rfl := zE ho_; intro aA wA hNA hRA hbsA hdpA hOA
   obtain ⟨I, J, H, G⟩ := hdpA 14 _ 56 zy rfl rfl
   have I : Sl aA 51 (.int .u64 (dk[(y - 1)]!.toNat : Int)) := hdpA 9 _ 51 zy rfl rfl
   clear hbsA hdpA
   have hOA : Own wA base 57 1 v n (dk.toList.map u64v) := hOA
   refine op_store_own (vs := [(.int .u64 (dk[(y - 1)]!.toNat : Int))]) size57 (zC hNA rfl H) (zC hNA rfl I) rfl rfl rfl hOA G (by have := hOA.1; simp at this ⊢; omega) ?_
   intro w_ hO_ E_
   exact obW_end rfl (hO_.cast rfl (set_arr (by first | omega | (simp only [Array.size_setIfInBounds, swp_sz, siftDown_size]; omega)))) E_
  ·
   intro o_ ho_; obtain rfl := zE ho_; intro aA wA hNA hRA hbsA hdpA hOA
   obtain ⟨J, I, G, H⟩ := hdpA 16 _ 57 zy rfl rfl
   have I : Sl aA 55 (.int .u64 (dk[y]!.toNat : Int)) := hdpA 13 _ 55 zy rfl rfl
   clear hbsA hdpA
   have hOA : Own wA base 57 1 v n ((dk.setIfInBounds y dk[(y - 1)]!).toList.map u64v) := hOA
   refine op_store_own (vs := [(.int .u64 (dk[y]!.toNat : Int))]) size57 (zC hNA rfl G) (zC hNA rfl I) rfl rfl rfl hOA H (by have := hOA.1; simp at this ⊢; omega) ?_
   intro w_ hO_ E_
   exact obW_end rfl (hO_.cast rfl (set_arr (by first | omega | (simp only [Array.size_setIfInBounds, swp_sz, siftDown_size]; omega)))) E_
  intro P K G I H M J L
  have I := I.trans u
  have u := (H 0 rfl).trans (zL m rfl t)
  have t := (H 1 rfl).trans (zL m rfl A)
  have A := (H 2 rfl).trans (zL m rfl z)
  have z := (H 7 rfl).trans (zL m rfl o)
  have o := (H 8 rfl).trans (zL m rfl B)
  clear H M
  have J : Own K base 57 1 v n (((dk.setIfInBounds y dk[(y - 1)]!).setIfInBounds (y - 1) dk[y]!).toList.map u64v) := J
  have := L.size
  have hb := grow_stepX hb L rfl
  refine x _ _ (seq_join1 (N := 133) (fun az_ w' => ∃ (m : Ar), (Sl az_ 0 v) ∧ (Sl az_ 1 (.int .i64 ((a : Nat) : Int))) ∧ (Sl az_ 2 (.int .i64 ((b : Nat) : Int))) ∧ (Sl az_ 7 (.int .i64 ((y : Nat) : Int))) ∧ (Sl az_ 8 (.int .i64 ((s : Nat) : Int))) ∧ (m = fixDown ltT a y (swp dk y (y - 1))) ∧ (m.size = n) ∧ (w.grownBy w' v.ownBlock) ∧ (K.heap.size ≤ w'.heap.size) ∧ (Own w' base 57 1 v n (m.toList.map u64v))) (fun B => ?_) ?_)
  ·
   refine zF fun _ x => zF fun _ D => zH (zG (zC G rfl z) (zG (zC G rfl t) (op_sub (zA G rfl) (zA G rfl) (sub64 zx) (op_geq (zA G rfl) rfl (fun H => ?_) (fun H => ?_)))))
   ·
    refine zB (D _ _ (wp_cond_true (zA G rfl) (zF fun _ D => zH (zG (zC G rfl z) (op_sub (r := ((y - 1 : Nat) : Int)) (zA G rfl) rfl (by rw [IntKind.wrap_i64]; omega) (zD (zA G rfl) (zB (D _ _ (wp_block (loop_m (fun mz_ az_ w' => ∃ (H : Nat) (L : Ar), mz_ = (H + 1) ∧ (Sl az_ 0 v) ∧ (Sl az_ 1 (.int .i64 ((a : Nat) : Int))) ∧ (Sl az_ 2 (.int .i64 ((b : Nat) : Int))) ∧ (Sl az_ 7 (.int .i64 ((y : Nat) : Int))) ∧ (Sl az_ 8 (.int .i64 ((s : Nat) : Int))) ∧ (Sl az_ 9 (.int .i64 ((H : Nat) : Int))) ∧ (L.size = n) ∧ (H ≤ y - 1) ∧ (shiftDown ltT (y - 1) (swp dk y (y - 1)) = shiftDown ltT H L) ∧ (w.grownBy w' v.ownBlock) ∧ (K.heap.size ≤ w'.heap.size) ∧ (Own w' base 57 1 v n (L.toList.map u64v))) _ G I ⟨(y - 1), _, rfl, (zL G rfl u), (zL G rfl t), (zL G rfl A), (zL G rfl z), (zL G rfl o), (zU G rfl).trans (congrArg (Value.int .i64) zx), (by first | assumption | (simp only [Array.size_setIfInBounds, swp_sz, siftDown_size]; assumption)), zx, rfl, hb, (Nat.le_refl _), J⟩ ?_))))))))))
    rintro _ X Z K T ⟨H, L, rfl, M, V, S, R, U, P, aa, Y, hdn, hb, W, Q⟩
    have := hb.size
    refine zF fun _ D => zF fun _ E => zH (zG (zC K rfl P) (op_geq (zA K rfl) rfl (fun W => ?_) (fun W => ?_)))
    ·
     refine zB (E _ _ (wp_cond_true (zA K rfl) (wp_skip (D _ _ (zF fun _ D => wp_block (zF fun _ E => zF fun _ W => reg_still mixed zy ?_))))))
     intro Y X
     have := X.size
     have Q := Q.keep0 X
     have hb := grow_step0 hb X
     refine st_step rfl (fun _ F => zG (zC K rfl M) F) (st_step rfl (fun _ F => zG (zC K rfl P) F) (st_index_rd slt62 (zA K rfl) Q.rdw (zA K rfl) zx zx ?_))
     intro Y aa ab Z X
     refine st_step rfl (fun _ F => zN (v := (Value.int .u64 (L[H]!.toNat : Int))) one57 (zA K rfl) (by have := X 0 (.int .u64 (L[H]!.toNat : Int)) zz (el_arr (i := H) zx (by first | omega | (simp only [Array.size_setIfInBounds, swp_sz, siftDown_size]; omega))); simpa using this) F) (st_step rfl (fun _ F => zG (zC K rfl M) F) (st_step rfl (fun _ F => zG (zC K rfl P) F) (st_step rfl (fun _ F => op_sub (zA K rfl) rfl (sub64 zx) F) (st_index_rd slt62 (zA K rfl) Q.rdw (zA K rfl) zx zx ?_))))
     intro Z aa Y ab X
     refine st_step rfl (fun _ F => zN (v := (Value.int .u64 (L[(H - 1)]!.toNat : Int))) one57 (zA K rfl) (by have := X 0 (.int .u64 (L[(H - 1)]!.toNat : Int)) zz (el_arr (i := (H - 1)) zx (by first | omega | (simp only [Array.size_setIfInBounds, swp_sz, siftDown_size]; omega))); simpa using this) F) (st_fn (vs := [(.int .u64 (L[H]!.toNat : Int)), (.int .u64 (L[(H - 1)]!.toNat : Int))]) ok73 (⟨(zA K rfl), ⟨(zA K rfl), trivial⟩⟩) (Less16_ret L[H]! L[(H - 1)]! _) (st_step rfl (fun _ F => op_not (zA K rfl) F) (st_nil (W _ _ (wp_cond_split (zA K rfl) (fun Y => ?_) (fun Y => ?_))))))
     ·
      refine wp_exit (then_exit (blk_miss zz (then_exit (then_exit (blk_hit (x _ _ ?_))))))
      exact B _ _ _ K T ⟨_, (zL K rfl M), (zL K rfl V), (zL K rfl S), (zL K rfl R), (zL K rfl U), ((fixDown_t zx).trans (hdn.trans (shiftDown_stop (.inr (not_t Y))))).symm, (by first | assumption | (simp only [Array.size_setIfInBounds, swp_sz, siftDown_size]; assumption)), hb, zx, Q⟩
     refine wp_skip (E _ _ (reg_mid (e := 57) (sz := 1) (base := base) (n := n) (v := v) (Φ := phiL [(fun uz _ => uz = v), (fun uz _ => uz = (.int .i64 ((H : Nat) : Int))), (fun uz _ => uz = v), (fun uz _ => uz = (.int .i64 ((H : Nat) : Int))), (fun uz _ => uz = (.int .i64 (((H : Nat) : Int) - 1))), (fun uz _ => uz = v), (fun uz _ => uz = (.int .i64 ((H : Nat) : Int))), (fun uz _ => uz = (.int .i64 (((H : Nat) : Int) - 1))), (fun uz _ => ∃ bz oz, uz = ptr bz oz ∧ AtV v (H - 1) bz oz), (fun uz _ => uz = (.int .u64 (L[(H - 1)]!.toNat : Int))), (fun uz _ => uz = v), (fun uz _ => uz = (.int .i64 ((H : Nat) : Int))), (fun uz _ => ∃ bz oz, uz = ptr bz oz ∧ AtV v H bz oz), (fun uz _ => uz = (.int .u64 (L[H]!.toNat : Int))), (fun uz _ => ∃ bz oz, uz = ptr bz oz ∧ AtV v H bz oz), (fun _ _ => True), (fun uz _ => ∃ bz oz, uz = ptr bz oz ∧ AtV v (H - 1) bz oz), (fun _ _ => True)]) [15, 17] [(L.toList.map u64v), ((L.setIfInBounds H L[(H - 1)]!).toList.map u64v), (((L.setIfInBounds H L[(H - 1)]!).setIfInBounds (H - 1) L[H]!).toList.map u64v)] mixed zy zy zy zy K Q (StL.get (StL.eq (StL.eq (StL.eq (StL.eq (StL.eq (StL.eq (StL.eq (StL.eq (StL.at (StL.eq (StL.eq (StL.eq (StL.at (StL.eq (StL.at (StL.cons (fun _ _ _ _ h => h) (StL.at (StL.cons (fun _ _ _ _ h => h) (StL.nil _)))))))))))))))))))) (ObRs.get (ObRs.cons ?_ (ObRs.cons ?_ (ObRs.cons ?_ (ObRs.cons ?_ (ObRs.cons ?_ (ObRs.cons ?_ (ObRs.cons ?_ (ObRs.cons ?_ (ObRs.cons ?_ (ObRs.cons ?_ (ObRs.cons ?_ (ObRs.cons ?_ (ObRs.cons ?_ (ObRs.cons ?_ (ObRs.cons ?_ (ObRs.pass rfl (ObRs.cons ?_ (ObRs.pass rfl (ObRs.nil)))))))))))))))))))) (ObWs.get (ObWs.cons ?_ (ObWs.cons ?_ (ObWs.nil)))) ?_))
     ·
      intro aA wA cA hNA hRA hckA hOA hbsA hdpA
      have C := (hbsA 0 rfl).trans (zL K rfl M)
      clear hbsA hdpA
      refine zG (zC hNA rfl C) ?_
      exact obR_end rfl rfl (grown_refl _ _)
     ·
      intro aA wA cA hNA hRA hckA hOA hbsA hdpA
      have W := (hbsA 9 rfl).trans (zL K rfl P)
      clear hbsA hdpA
      refine zG (zC hNA rfl W) ?_
      exact obR_end rfl rfl (grown_refl _ _)
     ·
      intro aA wA cA hNA hRA hckA hOA hbsA hdpA
      have C := (hbsA 0 rfl).trans (zL K rfl M)
      clear hbsA hdpA
      refine zG (zC hNA rfl C) ?_
      exact obR_end rfl rfl (grown_refl _ _)
     ·
      intro aA wA cA hNA hRA hckA hOA hbsA hdpA
      have W := (hbsA 9 rfl).trans (zL K rfl P)
      clear hbsA hdpA
      refine zG (zC hNA rfl W) ?_
      exact obR_end rfl rfl (grown_refl _ _)
     ·
      intro aA wA cA hNA hRA hckA hOA hbsA hdpA
      have X : Sl aA 82 (.int .i64 ((H : Nat) : Int)) := hdpA 3 _ 82 zy rfl rfl
      clear hbsA hdpA
      refine op_sub (zC hNA rfl X) rfl (sub64 zx) ?_
      exact obR_end rfl rfl (grown_refl _ _)
     ·
      intro aA wA cA hNA hRA hckA hOA hbsA hdpA
      have C := (hbsA 0 rfl).trans (zL K rfl M)
      clear hbsA hdpA
      refine zG (zC hNA rfl C) ?_
      exact obR_end rfl rfl (grown_refl _ _)
     ·
      intro aA wA cA hNA hRA hckA hOA hbsA hdpA
      have W := (hbsA 9 rfl).trans (zL K rfl P)
      clear hbsA hdpA
      refine zG (zC hNA rfl W) ?_
      exact obR_end rfl rfl (grown_refl _ _)
     ·
      intro aA wA cA hNA hRA hckA hOA hbsA hdpA
      have X : Sl aA 85 (.int .i64 ((H : Nat) : Int)) := hdpA 6 _ 85 zy rfl rfl
      clear hbsA hdpA
      refine op_sub (zC hNA rfl X) rfl (sub64 zx) ?_
      exact obR_end rfl rfl (grown_refl _ _)
     ·
      intro aA wA cA hNA hRA hckA hOA hbsA hdpA
      have X : Sl aA 84 v := hdpA 5 _ 84 zy rfl rfl
      have Z : Sl aA 86 (.int .i64 (((H : Nat) : Int) - 1)) := hdpA 7 _ 86 zy rfl rfl
      clear hbsA hdpA
      refine op_index_own (i := (H - 1)) slt62 (zC hNA rfl X) hOA (zC hNA rfl Z) zx zx ?_
      intro b_ o_ _ hA_
      exact obR_end rfl ⟨b_, o_, rfl, by simpa using hA_⟩ (grown_refl _ _)
     ·
      intro aA wA cA hNA hRA hckA hOA hbsA hdpA
      obtain ⟨aa, ab, X, Z⟩ := hdpA 8 _ 87 zy rfl rfl
      clear hbsA hdpA
      obtain rfl : cA = 0 := Nat.le_zero.1 (hckA 0 15 rfl zy)
      have hOA : Own wA base 57 1 v n (L.toList.map u64v) := hOA
      refine zN (v := (Value.int .u64 (L[(H - 1)]!.toNat : Int))) one57 (zC hNA rfl X) (by have := hOA.cellAt Z 0 _ (el_at (i := (H - 1)) (by first | omega | (simp only [Array.size_setIfInBounds, swp_sz, siftDown_size]; omega))); simpa using this) ?_
      exact obR_end rfl rfl (grown_refl _ _)
     ·
      intro aA wA cA hNA hRA hckA hOA hbsA hdpA
      have C := (hbsA 0 rfl).trans (zL K rfl M)
      clear hbsA hdpA
      refine zG (zC hNA rfl C) ?_
      exact obR_end rfl rfl (grown_refl _ _)
     ·
      intro aA wA cA hNA hRA hckA hOA hbsA hdpA
      have W := (hbsA 9 rfl).trans (zL K rfl P)
      clear hbsA hdpA
      refine zG (zC hNA rfl W) ?_
      exact obR_end rfl rfl (grown_refl _ _)
     ·
      intro aA wA cA hNA hRA hckA hOA hbsA hdpA
      have W : Sl aA 89 v := hdpA 10 _ 89 zy rfl rfl
      have X : Sl aA 90 (.int .i64 ((H : Nat) : Int)) := hdpA 11 _ 90 zy rfl rfl
      clear hbsA hdpA
      refine op_index_own (i := H) slt62 (zC hNA rfl W) hOA (zC hNA rfl X) zx zx ?_
      intro b_ o_ _ hA_
      exact obR_end rfl ⟨b_, o_, rfl, by simpa using hA_⟩ (grown_refl _ _)
     ·
      intro aA wA cA hNA hRA hckA hOA hbsA hdpA
      obtain ⟨aa, Z, W, X⟩ := hdpA 12 _ 91 zy rfl rfl
      clear hbsA hdpA
      obtain rfl : cA = 0 := Nat.le_zero.1 (hckA 0 15 rfl zy)
      have hOA : Own wA base 57 1 v n (L.toList.map u64v) := hOA
      refine zN (v := (Value.int .u64 (L[H]!.toNat : Int))) one57 (zC hNA rfl W) (by have := hOA.cellAt X 0 _ (el_at (i := H) (by first | omega | (simp only [Array.size_setIfInBounds, swp_sz, siftDown_size]; omega))); simpa using this) ?_
      exact obR_end rfl rfl (grown_refl _ _)
     ·
      intro aA wA cA hNA hRA hckA hOA hbsA hdpA
      have W : Sl aA 79 v := hdpA 0 _ 79 zy rfl rfl
      have X : Sl aA 80 (.int .i64 ((H : Nat) : Int)) := hdpA 1 _ 80 zy rfl rfl
      clear hbsA hdpA
      refine op_index_own (i := H) slt62 (zC hNA rfl W) hOA (zC hNA rfl X) zx zx ?_
      intro b_ o_ _ hA_
      exact obR_end rfl ⟨b_, o_, rfl, by simpa using hA_⟩ (grown_refl _ _)
     ·
      intro aA wA cA hNA hRA hckA hOA hbsA hdpA
      have W : Sl aA 81 v := hdpA 2 _ 81 zy rfl rfl
      have X : Sl aA 83 (.int .i64 (((H : Nat) : Int) - 1)) := hdpA 4 _ 83 zy rfl rfl
      clear hbsA hdpA
      refine op_index_own (i := (H - 1)) slt62 (zC hNA rfl W) hOA (zC hNA rfl X) zx zx ?_
      intro b_ o_ _ hA_
      exact obR_end rfl ⟨b_, o_, rfl, by simpa using hA_⟩ (grown_refl _ _)
     ·
      intro o_ ho_; obtain rfl := zE ho_; intro aA wA hNA hRA hbsA hdpA hOA
      obtain ⟨aa, Z, W, X⟩ := hdpA 14 _ 93 zy rfl rfl
      have Z : Sl aA 88 (.int .u64 (L[(H - 1)]!.toNat : Int)) := hdpA 9 _ 88 zy rfl rfl
      clear hbsA hdpA
      have hOA : Own wA base 57 1 v n (L.toList.map u64v) := hOA
      refine op_store_own (vs := [(.int .u64 (L[(H - 1)]!.toNat : Int))]) size57 (zC hNA rfl W) (zC hNA rfl Z) rfl rfl rfl hOA X (by have := hOA.1; simp at this ⊢; omega) ?_
      intro w_ hO_ E_
      exact obW_end rfl (hO_.cast rfl (set_arr (by first | omega | (simp only [Array.size_setIfInBounds, swp_sz, siftDown_size]; omega)))) E_
     ·
      intro o_ ho_; obtain rfl := zE ho_; intro aA wA hNA hRA hbsA hdpA hOA
      obtain ⟨aa, Z, W, X⟩ := hdpA 16 _ 94 zy rfl rfl
      have Z : Sl aA 92 (.int .u64 (L[H]!.toNat : Int)) := hdpA 13 _ 92 zy rfl rfl
      clear hbsA hdpA
      have hOA : Own wA base 57 1 v n ((L.setIfInBounds H L[(H - 1)]!).toList.map u64v) := hOA
      refine op_store_own (vs := [(.int .u64 (L[H]!.toNat : Int))]) size57 (zC hNA rfl W) (zC hNA rfl Z) rfl rfl rfl hOA X (by have := hOA.1; simp at this ⊢; omega) ?_
      intro w_ hO_ E_
      exact obW_end rfl (hO_.cast rfl (set_arr (by first | omega | (simp only [Array.size_setIfInBounds, swp_sz, siftDown_size]; omega)))) E_
     intro ae ac W Z X ad aa ab
     have Z := Z.trans T
     have ae := (X 0 rfl).trans (zL K rfl M)
     have af := (X 1 rfl).trans (zL K rfl V)
     have ag := (X 2 rfl).trans (zL K rfl S)
     have ah := (X 7 rfl).trans (zL K rfl R)
     have ai := (X 8 rfl).trans (zL K rfl U)
     have aj := (X 9 rfl).trans (zL K rfl P)
     clear X ad
     have aa : Own ac base 57 1 v n (((L.setIfInBounds H L[(H - 1)]!).setIfInBounds (H - 1) L[H]!).toList.map u64v) := aa
     have := ab.size
     have hb := grow_stepX hb ab rfl
     refine D _ _ (zH (zG (zC W rfl aj) (op_sub (zA W rfl) rfl (sub64 zx) (zD (zA W rfl) (zB ?_)))))
     -- round 14T 37F 41F 61T 65T 78F
     exact zg _ W Z ⟨(H - 1), _, rfl, (zL W rfl ae), (zL W rfl af), (zL W rfl ag), (zL W rfl ah), (zL W rfl ai), (zU W rfl).trans (congrArg (Value.int .i64) zx), (by first | assumption | (simp only [Array.size_setIfInBounds, swp_sz, siftDown_size]; assumption)), zx, (hdn.trans (shiftDown_go zx (not_f Y))), hb, zx, aa⟩ zx
    refine zB (E _ _ (wp_cond_false (zA K rfl) (wp_exit (then_exit (then_exit (blk_hit (x _ _ ?_)))))))
    exact B _ _ _ K T ⟨_, (zL K rfl M), (zL K rfl V), (zL K rfl S), (zL K rfl R), (zL K rfl U), ((fixDown_t zx).trans (hdn.trans (shiftDown_stop (.inl zx)))).symm, (by first | assumption | (simp only [Array.size_setIfInBounds, swp_sz, siftDown_size]; assumption)), hb, zx, Q⟩
   refine zB (D _ _ (wp_cond_false (zA G rfl) (wp_skip (x _ _ ?_))))
   exact B _ _ _ G I ⟨_, (zL G rfl u), (zL G rfl t), (zL G rfl A), (zL G rfl z), (zL G rfl o), (fixDown_f zx).symm, (by first | assumption | (simp only [Array.size_setIfInBounds, swp_sz, siftDown_size]; assumption)), hb, zx, J⟩
  rintro J I o z ⟨m, A, G, u, t, B, hdd, K, hb, L, H⟩
  have := hb.size
  refine zF fun _ x => zH (zG (zC o rfl u) (zG (zC o rfl t) (op_sub (zA o rfl) (zA o rfl) (sub64 zx) (op_geq (zA o rfl) rfl (fun J => ?_) (fun J => ?_)))))
  ·
   refine zB (x _ _ (wp_cond_true (zA o rfl) (zF fun _ x => zH (zG (zC o rfl t) (op_add (zA o rfl) rfl (add64 zx) (zD (zA o rfl) (zB (x _ _ (wp_block (loop_m (fun mz_ az_ w' => ∃ (J : Nat) (K : Ar), mz_ = (b + 1 - J) ∧ (Sl az_ 0 v) ∧ (Sl az_ 1 (.int .i64 ((a : Nat) : Int))) ∧ (Sl az_ 2 (.int .i64 ((b : Nat) : Int))) ∧ (Sl az_ 7 (.int .i64 ((y : Nat) : Int))) ∧ (Sl az_ 8 (.int .i64 ((s : Nat) : Int))) ∧ (Sl az_ 10 (.int .i64 ((J : Nat) : Int))) ∧ (K.size = n) ∧ (y + 1 ≤ J ∧ J ≤ b) ∧ (shiftUp ltT b (y + 1) m = shiftUp ltT b J K) ∧ (w.grownBy w' v.ownBlock) ∧ (I.heap.size ≤ w'.heap.size) ∧ (Own w' base 57 1 v n (K.toList.map u64v))) _ o z ⟨(y + 1), _, rfl, (zL o rfl A), (zL o rfl G), (zL o rfl u), (zL o rfl t), (zL o rfl B), (zU o rfl).trans (congrArg (Value.int .i64) zx), (by first | assumption | (simp only [Array.size_setIfInBounds, swp_sz, siftDown_size]; assumption)), zx, rfl, hb, (Nat.le_refl _), H⟩ ?_))))))))))
   rintro _ V W m T ⟨J, K, rfl, I, R, P, Q, S, L, q, X, hup, hb, U, M⟩
   have := hb.size
   refine zF fun _ x => zF fun _ D => zH (zG (zC m rfl L) (zG (zC m rfl P) (op_lss (zA m rfl) (zA m rfl) (fun q => ?_) (fun q => ?_))))
   ·
    refine zB (D _ _ (wp_cond_true (zA m rfl) (wp_skip (x _ _ (zF fun _ x => wp_block (zF fun _ D => zF fun _ E => reg_still mixed zy ?_))))))
    intro U q
    have := q.size
    have M := M.keep0 q
    have hb := grow_step0 hb q
    refine st_step rfl (fun _ F => zG (zC m rfl I) F) (st_step rfl (fun _ F => zG (zC m rfl L) F) (st_index_rd slt62 (zA m rfl) M.rdw (zA m rfl) zx zx ?_))
    intro U W X V q
    refine st_step rfl (fun _ F => zN (v := (Value.int .u64 (K[J]!.toNat : Int))) one57 (zA m rfl) (by have := q 0 (.int .u64 (K[J]!.toNat : Int)) zz (el_arr (i := J) zx (by first | omega | (simp only [Array.size_setIfInBounds, swp_sz, siftDown_size]; omega))); simpa using this) F) (st_step rfl (fun _ F => zG (zC m rfl I) F) (st_step rfl (fun _ F => zG (zC m rfl L) F) (st_step rfl (fun _ F => op_sub (zA m rfl) rfl (sub64 zx) F) (st_index_rd slt62 (zA m rfl) M.rdw (zA m rfl) zx zx ?_))))
    intro X W U V q
    refine st_step rfl (fun _ F => zN (v := (Value.int .u64 (K[(J - 1)]!.toNat : Int))) one57 (zA m rfl) (by have := q 0 (.int .u64 (K[(J - 1)]!.toNat : Int)) zz (el_arr (i := (J - 1)) zx (by first | omega | (simp only [Array.size_setIfInBounds, swp_sz, siftDown_size]; omega))); simpa using this) F) (st_fn (vs := [(.int .u64 (K[J]!.toNat : Int)), (.int .u64 (K[(J - 1)]!.toNat : Int))]) ok73 (⟨(zA m rfl), ⟨(zA m rfl), trivial⟩⟩) (Less16_ret K[J]! K[(J - 1)]! _) (st_step rfl (fun _ F => op_not (zA m rfl) F) (st_nil (E _ _ (wp_cond_split (zA m rfl) (fun U => ?_) (fun U => ?_))))))
    ·
     refine wp_exit (then_exit (blk_miss zz (then_exit (then_exit (blk_hit (l _ _ (zH (zG (zC m rfl S) (op_add (zA m rfl) rfl (add64 zx) (zD (zA m rfl) (zB ?_)))))))))))
     -- round 14T 37F 41F 98T 103T 116T
     exact zg _ m T ⟨(s + 1), y, _, rfl, (zL m rfl I), (zL m rfl R), (zL m rfl P), (zU m rfl).trans (congrArg (Value.int .i64) zx), (zL m rfl Q).trans (congrArg (Value.int .i64) zx), (by first | assumption | (simp only [Array.size_setIfInBounds, swp_sz, siftDown_size]; assumption)), zx, (hs.trans (pi_go zx p zx zx hdd ((fixUp_t zx).trans (hup.trans (shiftUp_stop (.inr (not_t U))))).symm)), hb, zx, M⟩ zx
    refine wp_skip (D _ _ (reg_mid (e := 57) (sz := 1) (base := base) (n := n) (v := v) (Φ := phiL [(fun uz _ => uz = v), (fun uz _ => uz = (.int .i64 ((J : Nat) : Int))), (fun uz _ => uz = v), (fun uz _ => uz = (.int .i64 ((J : Nat) : Int))), (fun uz _ => uz = (.int .i64 (((J : Nat) : Int) - 1))), (fun uz _ => uz = v), (fun uz _ => uz = (.int .i64 ((J : Nat) : Int))), (fun uz _ => uz = (.int .i64 (((J : Nat) : Int) - 1))), (fun uz _ => ∃ bz oz, uz = ptr bz oz ∧ AtV v (J - 1) bz oz), (fun uz _ => uz = (.int .u64 (K[(J - 1)]!.toNat : Int))), (fun uz _ => uz = v), (fun uz _ => uz = (.int .i64 ((J : Nat) : Int))), (fun uz _ => ∃ bz oz, uz = ptr bz oz ∧ AtV v J bz oz), (fun uz _ => uz = (.int .u64 (K[J]!.toNat : Int))), (fun uz _ => ∃ bz oz, uz = ptr bz oz ∧ AtV v J bz oz), (fun _ _ => True), (fun uz _ => ∃ bz oz, uz = ptr bz oz ∧ AtV v (J - 1) bz oz), (fun _ _ => True)]) [15, 17] [(K.toList.map u64v), ((K.setIfInBounds J K[(J - 1)]!).toList.map u64v), (((K.setIfInBounds J K[(J - 1)]!).setIfInBounds (J - 1) K[J]!).toList.map u64v)] mixed zy zy zy zy m M (StL.get (StL.eq (StL.eq (StL.eq (StL.eq (StL.eq (StL.eq (StL.eq (StL.eq (StL.at (StL.eq (StL.eq (StL.eq (StL.at (StL.eq (StL.at (StL.cons (fun _ _ _ _ h => h) (StL.at (StL.cons (fun _ _ _ _ h => h) (StL.nil _)))))))))))))))))))) (ObRs.get (ObRs.cons ?_ (ObRs.cons ?_ (ObRs.cons ?_ (ObRs.cons ?_ (ObRs.cons ?_ (ObRs.cons ?_ (ObRs.cons ?_ (ObRs.cons ?_ (ObRs.cons ?_ (ObRs.cons ?_ (ObRs.cons ?_ (ObRs.cons ?_ (ObRs.cons ?_ (ObRs.cons ?_ (ObRs.cons ?_ (ObRs.pass rfl (ObRs.cons ?_ (ObRs.pass rfl (ObRs.nil)))))))))))))))))))) (ObWs.get (ObWs.cons ?_ (ObWs.cons ?_ (ObWs.nil)))) ?_))
    ·
     intro aA wA cA hNA hRA hckA hOA hbsA hdpA
     have C := (hbsA 0 rfl).trans (zL m rfl I)
     clear hbsA hdpA
     refine zG (zC hNA rfl C) ?_
     exact obR_end rfl rfl (grown_refl _ _)
    ·
     intro aA wA cA hNA hRA hckA hOA hbsA hdpA
     have q := (hbsA 10 rfl).trans (zL m rfl L)
     clear hbsA hdpA
     refine zG (zC hNA rfl q) ?_
     exact obR_end rfl rfl (grown_refl _ _)
    ·
     intro aA wA cA hNA hRA hckA hOA hbsA hdpA
     have C := (hbsA 0 rfl).trans (zL m rfl I)
     clear hbsA hdpA
     refine zG (zC hNA rfl C) ?_
     exact obR_end rfl rfl (grown_refl _ _)
    ·
     intro aA wA cA hNA hRA hckA hOA hbsA hdpA
     have q := (hbsA 10 rfl).trans (zL m rfl L)
     clear hbsA hdpA
     refine zG (zC hNA rfl q) ?_
     exact obR_end rfl rfl (grown_refl _ _)
    ·
     intro aA wA cA hNA hRA hckA hOA hbsA hdpA
     have E : Sl aA 120 (.int .i64 ((J : Nat) : Int)) := hdpA 3 _ 120 zy rfl rfl
     clear hbsA hdpA
     refine op_sub (zC hNA rfl E) rfl (sub64 zx) ?_
     exact obR_end rfl rfl (grown_refl _ _)
    ·
     intro aA wA cA hNA hRA hckA hOA hbsA hdpA
     have C := (hbsA 0 rfl).trans (zL m rfl I)
     clear hbsA hdpA
     refine zG (zC hNA rfl C) ?_
     exact obR_end rfl rfl (grown_refl _ _)
    ·
     intro aA wA cA hNA hRA hckA hOA hbsA hdpA
     have q := (hbsA 10 rfl).trans (zL m rfl L)
     clear hbsA hdpA
     refine zG (zC hNA rfl q) ?_
     exact obR_end rfl rfl (grown_refl _ _)
    ·
     intro aA wA cA hNA hRA hckA hOA hbsA hdpA
     have E : Sl aA 123 (.int .i64 ((J : Nat) : Int)) := hdpA 6 _ 123 zy rfl rfl
     clear hbsA hdpA
     refine op_sub (zC hNA rfl E) rfl (sub64 zx) ?_
     exact obR_end rfl rfl (grown_refl _ _)
    ·
     intro aA wA cA hNA hRA hckA hOA hbsA hdpA
     have E : Sl aA 122 v := hdpA 5 _ 122 zy rfl rfl
     have F : Sl aA 124 (.int .i64 (((J : Nat) : Int) - 1)) := hdpA 7 _ 124 zy rfl rfl
     clear hbsA hdpA
     refine op_index_own (i := (J - 1)) slt62 (zC hNA rfl E) hOA (zC hNA rfl F) zx zx ?_
     intro b_ o_ _ hA_
     exact obR_end rfl ⟨b_, o_, rfl, by simpa using hA_⟩ (grown_refl _ _)
    ·
     intro aA wA cA hNA hRA hckA hOA hbsA hdpA
     obtain ⟨W, V, F, E⟩ := hdpA 8 _ 125 zy rfl rfl
     clear hbsA hdpA
     obtain rfl : cA = 0 := Nat.le_zero.1 (hckA 0 15 rfl zy)
     have hOA : Own wA base 57 1 v n (K.toList.map u64v) := hOA
     refine zN (v := (Value.int .u64 (K[(J - 1)]!.toNat : Int))) one57 (zC hNA rfl F) (by have := hOA.cellAt E 0 _ (el_at (i := (J - 1)) (by first | omega | (simp only [Array.size_setIfInBounds, swp_sz, siftDown_size]; omega))); simpa using this) ?_
     exact obR_end rfl rfl (grown_refl _ _)
    ·
     intro aA wA cA hNA hRA hckA hOA hbsA hdpA
     have C := (hbsA 0 rfl).trans (zL m rfl I)
     clear hbsA hdpA
     refine zG (zC hNA rfl C) ?_
     exact obR_end rfl rfl (grown_refl _ _)
    ·
     intro aA wA cA hNA hRA hckA hOA hbsA hdpA
     have q := (hbsA 10 rfl).trans (zL m rfl L)
     clear hbsA hdpA
     refine zG (zC hNA rfl q) ?_
     exact obR_end rfl rfl (grown_refl _ _)
    ·
     intro aA wA cA hNA hRA hckA hOA hbsA hdpA
     have q : Sl aA 127 v := hdpA 10 _ 127 zy rfl rfl
     have C : Sl aA 128 (.int .i64 ((J : Nat) : Int)) := hdpA 11 _ 128 zy rfl rfl
     clear hbsA hdpA
     refine op_index_own (i := J) slt62 (zC hNA rfl q) hOA (zC hNA rfl C) zx zx ?_
     intro b_ o_ _ hA_
     exact obR_end rfl ⟨b_, o_, rfl, by simpa using hA_⟩ (grown_refl _ _)
    ·
     intro aA wA cA hNA hRA hckA hOA hbsA hdpA
     obtain ⟨E, F, q, C⟩ := hdpA 12 _ 129 zy rfl rfl
     clear hbsA hdpA
     obtain rfl : cA = 0 := Nat.le_zero.1 (hckA 0 15 rfl zy)
     have hOA : Own wA base 57 1 v n (K.toList.map u64v) := hOA
     refine zN (v := (Value.int .u64 (K[J]!.toNat : Int))) one57 (zC hNA rfl q) (by have := hOA.cellAt C 0 _ (el_at (i := J) (by first | omega | (simp only [Array.size_setIfInBounds, swp_sz, siftDown_size]; omega))); simpa using this) ?_
     exact obR_end rfl rfl (grown_refl _ _)
    ·
     intro aA wA cA hNA hRA hckA hOA hbsA hdpA
     have q : Sl aA 117 v := hdpA 0 _ 117 zy rfl rfl
     have C : Sl aA 118 (.int .i64 ((J : Nat) : Int)) := hdpA 1 _ 118 zy rfl rfl
     clear hbsA hdpA
     refine op_index_own (i := J) slt62 (zC hNA rfl q) hOA (zC hNA rfl C) zx zx ?_
     intro b_ o_ _ hA_
     exact obR_end rfl ⟨b_, o_, rfl, by simpa using hA_⟩ (grown_refl _ _)
    ·
     intro aA wA cA hNA hRA hckA hOA hbsA hdpA
     have q : Sl aA 119 v := hdpA 2 _ 119 zy rfl rfl
     have C : Sl aA 121 (.int .i64 (((J : Nat) : Int) - 1)) := hdpA 4 _ 121 zy rfl rfl
     clear hbsA hdpA
     refine op_index_own (i := (J - 1)) slt62 (zC hNA rfl q) hOA (zC hNA rfl C) zx zx ?_
     intro b_ o_ _ hA_
     exact obR_end rfl ⟨b_, o_, rfl, by simpa using hA_⟩ (grown_refl _ _)
    ·
     intro o_ ho_; obtain rfl := zE ho_; intro aA wA hNA hRA hbsA hdpA hOA
     obtain ⟨E, F, C, q⟩ := hdpA 14 _ 131 zy rfl rfl
     have E : Sl aA 126 (.int .u64 (K[(J - 1)]!.toNat : Int)) := hdpA 9 _ 126 zy rfl rfl
     clear hbsA hdpA
     have hOA : Own wA base 57 1 v n (K.toList.map u64v) := hOA
     refine op_store_own (vs := [(.int .u64 (K[(J - 1)]!.toNat : Int))]) size57 (zC hNA rfl C) (zC hNA rfl E) rfl rfl rfl hOA q (by have := hOA.1; simp at this ⊢; omega) ?_
     intro w_ hO_ E_
     exact obW_end rfl (hO_.cast rfl (set_arr (by first | omega | (simp only [Array.size_setIfInBounds, swp_sz, siftDown_size]; omega)))) E_
    ·
     intro o_ ho_; obtain rfl := zE ho_; intro aA wA hNA hRA hbsA hdpA hOA
     obtain ⟨E, F, q, C⟩ := hdpA 16 _ 132 zy rfl rfl
     have E : Sl aA 130 (.int .u64 (K[J]!.toNat : Int)) := hdpA 13 _ 130 zy rfl rfl
     clear hbsA hdpA
     have hOA : Own wA base 57 1 v n ((K.setIfInBounds J K[(J - 1)]!).toList.map u64v) := hOA
     refine op_store_own (vs := [(.int .u64 (K[J]!.toNat : Int))]) size57 (zC hNA rfl q) (zC hNA rfl E) rfl rfl rfl hOA C (by have := hOA.1; simp at this ⊢; omega) ?_
     intro w_ hO_ E_
     exact obW_end rfl (hO_.cast rfl (set_arr (by first | omega | (simp only [Array.size_setIfInBounds, swp_sz, siftDown_size]; omega)))) E_
    intro Y W q F C X E V
    have F := F.trans T
    have Y := (C 0 rfl).trans (zL m rfl I)
    have Z := (C 1 rfl).trans (zL m rfl R)
    have aa := (C 2 rfl).trans (zL m rfl P)
    have ab := (C 7 rfl).trans (zL m rfl Q)
    have ac := (C 8 rfl).trans (zL m rfl S)
    have ad := (C 10 rfl).trans (zL m rfl L)
    clear C X
    have E : Own W base 57 1 v n (((K.setIfInBounds J K[(J - 1)]!).setIfInBounds (J - 1) K[J]!).toList.map u64v) := E
    have := V.size
    have hb := grow_stepX hb V rfl
    refine x _ _ (zH (zG (zC q rfl ad) (op_add (zA q rfl) rfl (add64 zx) (zD (zA q rfl) (zB ?_)))))
    -- round 14T 37F 41F 98T 103T 116F
    exact zg _ q F ⟨(J + 1), _, rfl, (zL q rfl Y), (zL q rfl Z), (zL q rfl aa), (zL q rfl ab), (zL q rfl ac), (zU q rfl).trans (congrArg (Value.int .i64) zx), (by first | assumption | (simp only [Array.size_setIfInBounds, swp_sz, siftDown_size]; assumption)), zx, (hup.trans (shiftUp_go zx (not_f U))), hb, zx, E⟩ zx
   refine zB (D _ _ (wp_cond_false (zA m rfl) (wp_exit (then_exit (then_exit (blk_hit (l _ _ (zH (zG (zC m rfl S) (op_add (zA m rfl) rfl (add64 zx) (zD (zA m rfl) (zB ?_))))))))))))
   -- round 14T 37F 41F 98T 103F
   exact zg _ m T ⟨(s + 1), y, _, rfl, (zL m rfl I), (zL m rfl R), (zL m rfl P), (zU m rfl).trans (congrArg (Value.int .i64) zx), (zL m rfl Q).trans (congrArg (Value.int .i64) zx), (by first | assumption | (simp only [Array.size_setIfInBounds, swp_sz, siftDown_size]; assumption)), zx, (hs.trans (pi_go zx p zx zx hdd ((fixUp_t zx).trans (hup.trans (shiftUp_stop (.inl zx)))).symm)), hb, zx, M⟩ zx
  refine zB (x _ _ (wp_cond_false (zA o rfl) (wp_skip (l _ _ (zH (zG (zC o rfl B) (op_add (zA o rfl) rfl (add64 zx) (zD (zA o rfl) (zB ?_)))))))))
  -- round 14T 37F 41F 98F
  exact zg _ o z ⟨(s + 1), y, _, rfl, (zL o rfl A), (zL o rfl G), (zL o rfl u), (zU o rfl).trans (congrArg (Value.int .i64) zx), (zL o rfl t).trans (congrArg (Value.int .i64) zx), (by first | assumption | (simp only [Array.size_setIfInBounds, swp_sz, siftDown_size]; assumption)), zx, (hs.trans (pi_go zx p zx zx hdd (fixUp_f zx).symm)), hb, zx, H⟩ zx
 refine zB (x _ _ (wp_cond_false (zA g rfl) (wp_exit (then_exit (then_exit (blk_hit (c _ _ (zF fun _ c => zH (zD rfl (zB (c _ _ (wp_ret (ret1 rfl k (zA g rfl) ⟨_, rfl, ?_⟩)))))))))))))
 have hq : partialInsertionSort ltT d a b = (dk, false) := hs.trans (by rw [show 5 - s = 0 by omega]; rfl)
 exact ⟨hb, by rw [hq]; rfl, f.cast rfl (by rw [hq])⟩
open Go.Sort (insertionSort insOuter insInner swp siftDown heapSort heapBuild heapPop scanUp scanDown partition partLoop partitionEqual partEqLoop scanSorted partialIns bitsLen partialInsertionSort shiftDown shiftUp SortedIn reverseRange reverseLoop fixDown fixUp)
set_option maxHeartbeats 2000000 in
theorem bpW_ret (d : Ar) (v : Value) (n base : Nat) (a b : Nat) (w : World) (hd : d.size = n) (hn : n ≤ 4000000000000000000) (O : Own w base 57 1 v n (d.toList.map u64v)) (hab : a ≤ b) (hbn : b ≤ n) : Ret Try.prog 69 #[v, (.int .i64 ((a : Nat) : Int)), (.int .i64 ((b : Nat) : Int))] w (fun v' w' => w.grownBy w' v.ownBlock ∧ v' = .tuple #[] ∧ ∃ d', PI a b d d' ∧ Own w' base 57 1 v n (d'.toList.map u64v)) := by
 have hb := grown_refl w v.ownBlock
 refine enter (N := 65) Try.func69 rfl rfl (by simp) fun c hN hd hA => ?_
 have f : c.tmps.getD 0 undef = v := hA 0 (by simp)
 have g : c.tmps.getD 1 undef = (.int .i64 ((a : Nat) : Int)) := hA 1 (by simp)
 have j : c.tmps.getD 2 undef = (.int .i64 ((b : Nat) : Int)) := hA 2 (by simp)
 clear hA
 refine zF fun _ c => ?_
 refine zH (zG (zC hN rfl j) (zG (zC hN rfl g) (op_sub (r := (((b - a) : Nat) : Int)) (zA hN rfl) (zA hN rfl) (by rw [IntKind.wrap_i64]; omega) (zD (zA hN rfl) (zB (c _ _ (zF fun _ c => zH (zG (zA hN rfl) (op_geq (zA hN rfl) rfl (fun k => ?_) (fun k => ?_))))))))))
 ·
  refine zB (c _ _ (wp_cond_true (zA hN rfl) (zF fun _ c => zH (zG (zA hN rfl) (op_conv (r := (((b - a) : Nat) : Int)) (zA hN rfl) us3 Try.underlying121 (wrap_u64 zx) (op_alloc (cs := [(.int .u64 0)]) zero121 rfl ?_))))))
  intro m k o p j l
  have := l.size
  have hb := grow_step0 hb l
  have m := j
  refine za (vs := [(.int .u64 (((b - a) : Nat) : Int))]) (cs' := [(.int .u64 (((b - a) : Nat) : Int))]) size121 (zA hN rfl) (zA hN rfl) rfl rfl rfl j (zI rfl) rfl ?_
  intro p j o
  have := o.size
  have hb := grow_step1 hb o zx
  refine zB (c _ _ (zF fun _ c => zH (zG (zA hN rfl) (zj ok88 (npW_ret (b - a) _ zx) ⟨(zA hN rfl), trivial⟩ ?_))))
  rintro _ s ⟨q, p, rfl, u, t⟩
  have q := zQ q
  have := q.size
  have O := ((O.keep0 l).keepX m o zz).keep0 q
  have j := j.keep0 q
  have hb := grow_step0 hb q
  refine zD (zA hN rfl) (zB (c _ _ (zF fun _ c => zH ?_)))
  refine zG (zC hN rfl g) (zG (zA hN rfl) (op_quo (r := ((((b - a) / 4) : Nat) : Int)) (zA hN rfl) rfl zz (by rw [IntKind.wrap_i64, Int.tdiv_eq_ediv_of_nonneg zx]; omega) (op_mul (r := ((((b - a) / 4 * 2) : Nat) : Int)) (zA hN rfl) rfl (by rw [IntKind.wrap_i64]; omega) (op_add (zA hN rfl) (zA hN rfl) (add64 zx) (op_sub (r := (((a + ((b - a) / 4 * 2) - 1) : Nat) : Int)) (zA hN rfl) rfl (by rw [IntKind.wrap_i64]; omega) (zD (zA hN rfl) (zB (c _ _ (wp_block (loop_m (fun mz_ az_ w' => ∃ (ix xs : Nat) (dk : Ar), mz_ = (a + b + 10 - ix) ∧ (Sl az_ 0 v) ∧ (Sl az_ 1 (.int .i64 ((a : Nat) : Int))) ∧ (Sl az_ 6 (.int .i64 (((b - a) : Nat) : Int))) ∧ (Sl az_ 7 (ptr k 0)) ∧ (Sl az_ 8 (.int .u64 ((p : Nat) : Int))) ∧ (Sl az_ 9 (.int .i64 ((ix : Nat) : Int))) ∧ (dk.size = n) ∧ (a + ((b - a) / 4 * 2) - 1 ≤ ix ∧ ix ≤ a + ((b - a) / 4 * 2) + 2) ∧ (PI a b d dk) ∧ (w.grownBy w' v.ownBlock) ∧ (s.heap.size ≤ w'.heap.size) ∧ (Bx w' k 121 [(.int .u64 ((xs : Nat) : Int))]) ∧ (Own w' base 57 1 v n (dk.toList.map u64v))) _ hN hd ⟨(a + ((b - a) / 4 * 2) - 1), (b - a), _, rfl, (zL hN rfl f), (zL hN rfl g), (zU hN rfl), (zU hN rfl), (zU hN rfl), (zU hN rfl).trans (congrArg (Value.int .i64) zx), (by first | assumption | (simp only [Array.size_setIfInBounds, swp_sz, siftDown_size]; assumption)), zx, (PI.rfl' _ _ _), hb, (Nat.le_refl _), j, O⟩ ?_))))))))))
  rintro _ u x f s ⟨ix, xs, dk, rfl, t, l, j, m, o, q, hdk, y, hpi, hb, z, hxs, g⟩
  have := hb.size
  refine zF fun _ c => ?_
  refine zF fun _ u => zH (zG (zC f rfl q) (zG (zC f rfl l) (zG (zC f rfl j) (op_quo (r := ((((b - a) / 4) : Nat) : Int)) (zA f rfl) rfl zz (by rw [IntKind.wrap_i64, Int.tdiv_eq_ediv_of_nonneg zx]; omega) (op_mul (r := ((((b - a) / 4 * 2) : Nat) : Int)) (zA f rfl) rfl (by rw [IntKind.wrap_i64]; omega) (op_add (zA f rfl) (zA f rfl) (add64 zx) (op_add (zA f rfl) rfl (add64 zx) (op_leq (zA f rfl) (zA f rfl) (fun x => ?_) (fun x => ?_)))))))))
  ·
   refine zB (u _ _ (wp_cond_true (zA f rfl) (wp_skip (c _ _ (zF fun _ c => wp_block (zF fun _ u => zH (zj ok89 (xnextW_ret k _ _ hxs) ⟨(zC f rfl m), trivial⟩ ?_)))))))
   rintro _ A ⟨z, x, rfl, B, y⟩
   have hxs_old := hxs
   have := z.size
   have g := g.keepX hxs_old z zz
   have hb := grow_step1 hb z zx
   refine zG (zC f rfl o) (op_sub (r := (((p - 1) : Nat) : Int)) (zA f rfl) rfl (by rw [show (p : Int) - 1 = ((p - 1 : Nat) : Int) by omega]; exact wrap_u64 zx) (op_and (r := (((x &&& (p - 1)) : Nat) : Int)) (zA f rfl) (zA f rfl) (and_64 zx zx) ?_))
   have hand : (x &&& (p - 1)) ≤ p - 1 := Nat.and_le_right
   refine op_conv (r := (((x &&& (p - 1)) : Nat) : Int)) (zA f rfl) us90 Try.underlying3 (by rw [IntKind.wrap_i64]; omega) (zD (zA f rfl) (zB (u _ _ (seq_join1 (N := 65) (fun az_ w' => ∃ (ot : Nat), (Sl az_ 0 v) ∧ (Sl az_ 1 (.int .i64 ((a : Nat) : Int))) ∧ (Sl az_ 6 (.int .i64 (((b - a) : Nat) : Int))) ∧ (Sl az_ 7 (ptr k 0)) ∧ (Sl az_ 8 (.int .u64 ((p : Nat) : Int))) ∧ (Sl az_ 9 (.int .i64 ((ix : Nat) : Int))) ∧ (Sl az_ 10 (.int .i64 ((ot : Nat) : Int))) ∧ (ot < b - a) ∧ (w.grownBy w' v.ownBlock) ∧ (A.heap.size ≤ w'.heap.size) ∧ (Own w' base 57 1 v n (dk.toList.map u64v)) ∧ (Bx w' k 121 [(.int .u64 ((x : Nat) : Int))])) (fun z => ?_) ?_))))
   ·
    refine zF fun _ u => zF fun _ k => zH (zG (zA f rfl) (zG (zC f rfl j) (op_geq (zA f rfl) (zA f rfl) (fun A => ?_) (fun A => ?_))))
    ·
     refine zB (k _ _ (wp_cond_true (zA f rfl) (zH (zG (zA f rfl) (zG (zC f rfl j) (op_sub (zA f rfl) (zA f rfl) (sub64 zx) (zD (zA f rfl) (zB (u _ _ ?_)))))))))
     exact z _ _ _ f s ⟨((x &&& (p - 1)) - (b - a)), (zL f rfl t), (zL f rfl l), (zL f rfl j), (zL f rfl m), (zL f rfl o), (zL f rfl q), (zU f rfl).trans (congrArg (Value.int .i64) zx), zx, hb, zx, g, y⟩
    refine zB (k _ _ (wp_cond_false (zA f rfl) (wp_skip (u _ _ ?_))))
    exact z _ _ _ f s ⟨(x &&& (p - 1)), (zL f rfl t), (zL f rfl l), (zL f rfl j), (zL f rfl m), (zL f rfl o), (zL f rfl q), (zU f rfl).trans (congrArg (Value.int .i64) zx), zx, hb, zx, g, y⟩
   rintro B C j z ⟨ot, k, m, p, t, q, l, o, hot, hb, A, g, y⟩
   have := hb.size
   refine reg_mid (e := 57) (sz := 1) (base := base) (n := n) (v := v) (Φ := phiL [(fun uz _ => uz = v), (fun uz _ => uz = (.int .i64 ((ix : Nat) : Int))), (fun uz _ => uz = v), (fun uz _ => uz = (.int .i64 ((a : Nat) : Int))), (fun uz _ => uz = (.int .i64 ((ot : Nat) : Int))), (fun uz _ => uz = (.int .i64 (((a : Nat) : Int) + ((ot : Nat) : Int)))), (fun uz _ => uz = v), (fun uz _ => uz = (.int .i64 ((a : Nat) : Int))), (fun uz _ => uz = (.int .i64 ((ot : Nat) : Int))), (fun uz _ => uz = (.int .i64 (((a : Nat) : Int) + ((ot : Nat) : Int)))), (fun uz _ => ∃ bz oz, uz = ptr bz oz ∧ AtV v (a + ot) bz oz), (fun uz _ => uz = (.int .u64 (dk[(a + ot)]!.toNat : Int))), (fun uz _ => uz = v), (fun uz _ => uz = (.int .i64 ((ix : Nat) : Int))), (fun uz _ => ∃ bz oz, uz = ptr bz oz ∧ AtV v ix bz oz), (fun uz _ => uz = (.int .u64 (dk[ix]!.toNat : Int))), (fun uz _ => ∃ bz oz, uz = ptr bz oz ∧ AtV v ix bz oz), (fun _ _ => True), (fun uz _ => ∃ bz oz, uz = ptr bz oz ∧ AtV v (a + ot) bz oz), (fun _ _ => True)]) [17, 19] [(dk.toList.map u64v), ((dk.setIfInBounds ix dk[(a + ot)]!).toList.map u64v), (((dk.setIfInBounds ix dk[(a + ot)]!).setIfInBounds (a + ot) dk[ix]!).toList.map u64v)] mixed zy zy zy zy j g (StL.get (StL.eq (StL.eq (StL.eq (StL.eq (StL.eq (StL.eq (StL.eq (StL.eq (StL.eq (StL.eq (StL.at (StL.eq (StL.eq (StL.eq (StL.at (StL.eq (StL.at (StL.cons (fun _ _ _ _ h => h) (StL.at (StL.cons (fun _ _ _ _ h => h) (StL.nil _)))))))))))))))))))))) (ObRs.get (ObRs.cons ?_ (ObRs.cons ?_ (ObRs.cons ?_ (ObRs.cons ?_ (ObRs.cons ?_ (ObRs.cons ?_ (ObRs.cons ?_ (ObRs.cons ?_ (ObRs.cons ?_ (ObRs.cons ?_ (ObRs.cons ?_ (ObRs.cons ?_ (ObRs.cons ?_ (ObRs.cons ?_ (ObRs.cons ?_ (ObRs.cons ?_ (ObRs.cons ?_ (ObRs.pass rfl (ObRs.cons ?_ (ObRs.pass rfl (ObRs.nil)))))))))))))))))))))) (ObWs.get (ObWs.cons ?_ (ObWs.cons ?_ (ObWs.nil)))) ?_
   ·
    intro aA wA cA hNA hRA hckA hOA hbsA hdpA
    have A := (hbsA 0 rfl).trans (zL j rfl k)
    clear hbsA hdpA
    refine zG (zC hNA rfl A) ?_
    exact obR_end rfl rfl (grown_refl _ _)
   ·
    intro aA wA cA hNA hRA hckA hOA hbsA hdpA
    have B := (hbsA 9 rfl).trans (zL j rfl l)
    clear hbsA hdpA
    refine zG (zC hNA rfl B) ?_
    exact obR_end rfl rfl (grown_refl _ _)
   ·
    intro aA wA cA hNA hRA hckA hOA hbsA hdpA
    have A := (hbsA 0 rfl).trans (zL j rfl k)
    clear hbsA hdpA
    refine zG (zC hNA rfl A) ?_
    exact obR_end rfl rfl (grown_refl _ _)
   ·
    intro aA wA cA hNA hRA hckA hOA hbsA hdpA
    have C := (hbsA 1 rfl).trans (zL j rfl m)
    clear hbsA hdpA
    refine zG (zC hNA rfl C) ?_
    exact obR_end rfl rfl (grown_refl _ _)
   ·
    intro aA wA cA hNA hRA hckA hOA hbsA hdpA
    have D := (hbsA 10 rfl).trans (zL j rfl o)
    clear hbsA hdpA
    refine zG (zC hNA rfl D) ?_
    exact obR_end rfl rfl (grown_refl _ _)
   ·
    intro aA wA cA hNA hRA hckA hOA hbsA hdpA
    have E : Sl aA 50 (.int .i64 ((a : Nat) : Int)) := hdpA 3 _ 50 zy rfl rfl
    have F : Sl aA 51 (.int .i64 ((ot : Nat) : Int)) := hdpA 4 _ 51 zy rfl rfl
    clear hbsA hdpA
    refine op_add (zC hNA rfl E) (zC hNA rfl F) (add64 zx) ?_
    exact obR_end rfl rfl (grown_refl _ _)
   ·
    intro aA wA cA hNA hRA hckA hOA hbsA hdpA
    have A := (hbsA 0 rfl).trans (zL j rfl k)
    clear hbsA hdpA
    refine zG (zC hNA rfl A) ?_
    exact obR_end rfl rfl (grown_refl _ _)
   ·
    intro aA wA cA hNA hRA hckA hOA hbsA hdpA
    have C := (hbsA 1 rfl).trans (zL j rfl m)
    clear hbsA hdpA
    refine zG (zC hNA rfl C) ?_
    exact obR_end rfl rfl (grown_refl _ _)
   ·
    intro aA wA cA hNA hRA hckA hOA hbsA hdpA
    have D := (hbsA 10 rfl).trans (zL j rfl o)
    clear hbsA hdpA
    refine zG (zC hNA rfl D) ?_
    exact obR_end rfl rfl (grown_refl _ _)
   ·
    intro aA wA cA hNA hRA hckA hOA hbsA hdpA
    have o : Sl aA 54 (.int .i64 ((a : Nat) : Int)) := hdpA 7 _ 54 zy rfl rfl
    have C : Sl aA 55 (.int .i64 ((ot : Nat) : Int)) := hdpA 8 _ 55 zy rfl rfl
    clear hbsA hdpA
    refine op_add (zC hNA rfl o) (zC hNA rfl C) (add64 zx) ?_
    exact obR_end rfl rfl (grown_refl _ _)
   ·
    intro aA wA cA hNA hRA hckA hOA hbsA hdpA
    have o : Sl aA 53 v := hdpA 6 _ 53 zy rfl rfl
    have C : Sl aA 56 (.int .i64 (((a : Nat) : Int) + ((ot : Nat) : Int))) := hdpA 9 _ 56 zy rfl rfl
    clear hbsA hdpA
    refine op_index_own (i := (a + ot)) slt62 (zC hNA rfl o) hOA (zC hNA rfl C) zx zx ?_
    intro b_ o_ _ hA_
    exact obR_end rfl ⟨b_, o_, rfl, by simpa using hA_⟩ (grown_refl _ _)
   ·
    intro aA wA cA hNA hRA hckA hOA hbsA hdpA
    obtain ⟨E, D, o, C⟩ := hdpA 10 _ 57 zy rfl rfl
    clear hbsA hdpA
    obtain rfl : cA = 0 := Nat.le_zero.1 (hckA 0 17 rfl zy)
    have hOA : Own wA base 57 1 v n (dk.toList.map u64v) := hOA
    refine zN (v := (Value.int .u64 (dk[(a + ot)]!.toNat : Int))) one57 (zC hNA rfl o) (by have := hOA.cellAt C 0 _ (el_at (i := (a + ot)) (by first | omega | (simp only [Array.size_setIfInBounds, swp_sz, siftDown_size]; omega))); simpa using this) ?_
    exact obR_end rfl rfl (grown_refl _ _)
   ·
    intro aA wA cA hNA hRA hckA hOA hbsA hdpA
    have A := (hbsA 0 rfl).trans (zL j rfl k)
    clear hbsA hdpA
    refine zG (zC hNA rfl A) ?_
    exact obR_end rfl rfl (grown_refl _ _)
   ·
    intro aA wA cA hNA hRA hckA hOA hbsA hdpA
    have B := (hbsA 9 rfl).trans (zL j rfl l)
    clear hbsA hdpA
    refine zG (zC hNA rfl B) ?_
    exact obR_end rfl rfl (grown_refl _ _)
   ·
    intro aA wA cA hNA hRA hckA hOA hbsA hdpA
    have o : Sl aA 59 v := hdpA 12 _ 59 zy rfl rfl
    have A : Sl aA 60 (.int .i64 ((ix : Nat) : Int)) := hdpA 13 _ 60 zy rfl rfl
    clear hbsA hdpA
    refine op_index_own (i := ix) slt62 (zC hNA rfl o) hOA (zC hNA rfl A) zx zx ?_
    intro b_ o_ _ hA_
    exact obR_end rfl ⟨b_, o_, rfl, by simpa using hA_⟩ (grown_refl _ _)
   ·
    intro aA wA cA hNA hRA hckA hOA hbsA hdpA
    obtain ⟨B, C, A, o⟩ := hdpA 14 _ 61 zy rfl rfl
    clear hbsA hdpA
    obtain rfl : cA = 0 := Nat.le_zero.1 (hckA 0 17 rfl zy)
    have hOA : Own wA base 57 1 v n (dk.toList.map u64v) := hOA
    refine zN (v := (Value.int .u64 (dk[ix]!.toNat : Int))) one57 (zC hNA rfl A) (by have := hOA.cellAt o 0 _ (el_at (i := ix) (by first | omega | (simp only [Array.size_setIfInBounds, swp_sz, siftDown_size]; omega))); simpa using this) ?_
    exact obR_end rfl rfl (grown_refl _ _)
   ·
    intro aA wA cA hNA hRA hckA hOA hbsA hdpA
    have o : Sl aA 47 v := hdpA 0 _ 47 zy rfl rfl
    have A : Sl aA 48 (.int .i64 ((ix : Nat) : Int)) := hdpA 1 _ 48 zy rfl rfl
    clear hbsA hdpA
    refine op_index_own (i := ix) slt62 (zC hNA rfl o) hOA (zC hNA rfl A) zx zx ?_
    intro b_ o_ _ hA_
    exact obR_end rfl ⟨b_, o_, rfl, by simpa using hA_⟩ (grown_refl _ _)
   ·
    intro aA wA cA hNA hRA hckA hOA hbsA hdpA
    have o : Sl aA 49 v := hdpA 2 _ 49 zy rfl rfl
    have A : Sl aA 52 (.int .i64 (((a : Nat) : Int) + ((ot : Nat) : Int))) := hdpA 5 _ 52 zy rfl rfl
    clear hbsA hdpA
    refine op_index_own (i := (a + ot)) slt62 (zC hNA rfl o) hOA (zC hNA rfl A) zx zx ?_
    intro b_ o_ _ hA_
    exact obR_end rfl ⟨b_, o_, rfl, by simpa using hA_⟩ (grown_refl _ _)
   ·
    intro o_ ho_; obtain rfl := zE ho_; intro aA wA hNA hRA hbsA hdpA hOA
    obtain ⟨B, C, A, o⟩ := hdpA 16 _ 63 zy rfl rfl
    have B : Sl aA 58 (.int .u64 (dk[(a + ot)]!.toNat : Int)) := hdpA 11 _ 58 zy rfl rfl
    clear hbsA hdpA
    have hOA : Own wA base 57 1 v n (dk.toList.map u64v) := hOA
    refine op_store_own (vs := [(.int .u64 (dk[(a + ot)]!.toNat : Int))]) size57 (zC hNA rfl A) (zC hNA rfl B) rfl rfl rfl hOA o (by have := hOA.1; simp at this ⊢; omega) ?_
    intro w_ hO_ E_
    exact obW_end rfl (hO_.cast rfl (set_arr (by first | omega | (simp only [Array.size_setIfInBounds, swp_sz, siftDown_size]; omega)))) E_
   ·
    intro o_ ho_; obtain rfl := zE ho_; intro aA wA hNA hRA hbsA hdpA hOA
    obtain ⟨C, B, o, A⟩ := hdpA 18 _ 64 zy rfl rfl
    have B : Sl aA 62 (.int .u64 (dk[ix]!.toNat : Int)) := hdpA 15 _ 62 zy rfl rfl
    clear hbsA hdpA
    have hOA : Own wA base 57 1 v n ((dk.setIfInBounds ix dk[(a + ot)]!).toList.map u64v) := hOA
    refine op_store_own (vs := [(.int .u64 (dk[ix]!.toNat : Int))]) size57 (zC hNA rfl o) (zC hNA rfl B) rfl rfl rfl hOA A (by have := hOA.1; simp at this ⊢; omega) ?_
    intro w_ hO_ E_
    exact obW_end rfl (hO_.cast rfl (set_arr (by first | omega | (simp only [Array.size_setIfInBounds, swp_sz, siftDown_size]; omega)))) E_
   intro G E o C A F D B
   have C := C.trans z
   have z := (A 0 rfl).trans (zL j rfl k)
   have k := (A 1 rfl).trans (zL j rfl m)
   have m := (A 6 rfl).trans (zL j rfl p)
   have p := (A 7 rfl).trans (zL j rfl t)
   have t := (A 8 rfl).trans (zL j rfl q)
   have q := (A 9 rfl).trans (zL j rfl l)
   clear A F
   have D : Own E base 57 1 v n (((dk.setIfInBounds ix dk[(a + ot)]!).setIfInBounds (a + ot) dk[ix]!).toList.map u64v) := D
   have := B.size
   have y := y.keepO g B zz
   have hb := grow_stepX hb B rfl
   refine c _ _ (zH (zG (zC o rfl q) (op_add (zA o rfl) rfl (add64 zx) (zD (zA o rfl) (zB ?_)))))
   -- round 15T 33T
   exact zg _ o C ⟨(ix + 1), x, _, rfl, (zL o rfl z), (zL o rfl k), (zL o rfl m), (zL o rfl p), (zL o rfl t), (zU o rfl).trans (congrArg (Value.int .i64) zx), (by first | assumption | (simp only [Array.size_setIfInBounds, swp_sz, siftDown_size]; assumption)), zx, (hpi.tr (PI.swp zx zx zx zx (by first | omega | (simp only [Array.size_setIfInBounds, swp_sz]; omega)))), hb, zx, y, D⟩ zx
  refine zB (u _ _ (wp_cond_false (zA f rfl) (wp_exit (then_exit (then_exit (blk_hit (end_ret (ret0 rfl s  ⟨_, rfl, ?_⟩))))))))
  exact ⟨hb, rfl, _, hpi, g⟩
 refine zB (c _ _ (wp_cond_false (zA hN rfl) (wp_skip (end_ret (ret0 rfl hd  ⟨_, rfl, ?_⟩)))))
 exact ⟨hb, rfl, _, PI.rfl' _ _ _, O⟩
open Go.Sort (insertionSort insOuter insInner swp siftDown heapSort heapBuild heapPop scanUp scanDown partition partLoop partitionEqual partEqLoop scanSorted partialIns bitsLen partialInsertionSort shiftDown shiftUp SortedIn reverseRange reverseLoop fixDown fixUp)
def PdqIH (z : Nat) (v : Value) (n base : Nat) : Prop := ∀ (d : Ar) (a b lim : Nat) (w : World), d.size = n → a ≤ b → b ≤ n → lim ≤ 100 → b - a < z → Go.Sort.Below ltT a b d → Own w base 57 1 v n (d.toList.map u64v) → Ret Try.prog 63 #[v, .int .i64 (a : Int), .int .i64 (b : Int), .int .i64 (lim : Int)] w (fun v' w' => w.grownBy w' v.ownBlock ∧ v' = .tuple #[] ∧ ∃ d', PI a b d d' ∧ SortedIn ltT a b d' ∧ Own w' base 57 1 v n (d'.toList.map u64v))

set_option maxHeartbeats 4000000 in
theorem pdqW_step (z : Nat) (v : Value) (n base : Nat) (hn : n ≤ 4000000000000000000) (ih : PdqIH z v n base) (d : Ar) (a b lim : Nat) (w : World) (hd : d.size = n) (hab : a ≤ b) (hbn : b ≤ n) (hlim : lim ≤ 100) (hz : b - a = z) (hB : Go.Sort.Below ltT a b d) (O : Own w base 57 1 v n (d.toList.map u64v)) : Ret Try.prog 63 #[v, (.int .i64 ((a : Nat) : Int)), (.int .i64 ((b : Nat) : Int)), (.int .i64 ((lim : Nat) : Int))] w (fun v' w' => w.grownBy w' v.ownBlock ∧ v' = .tuple #[] ∧ ∃ d', PI a b d d' ∧ SortedIn ltT a b d' ∧ Own w' base 57 1 v n (d'.toList.map u64v)) := by
 have hb := grown_refl w v.ownBlock
 refine enter (N := 134) Try.func63 rfl rfl (by simp) fun c hN hd hA => ?_
 have e : c.tmps.getD 0 undef = v := hA 0 (by simp)
 have f : c.tmps.getD 1 undef = (.int .i64 ((a : Nat) : Int)) := hA 1 (by simp)
 have g : c.tmps.getD 2 undef = (.int .i64 ((b : Nat) : Int)) := hA 2 (by simp)
 have h : c.tmps.getD 3 undef = (.int .i64 ((lim : Nat) : Int)) := hA 3 (by simp)
 clear hA
 refine zF fun _ c => zH (zD rfl (zB (c _ _ (zF fun _ c => zH (zD rfl (zB (c _ _ (wp_block (loop_m (fun mz_ az_ w' => ∃ (x y lm : Nat) (wb wp : Bool) (dk : Ar), mz_ = (y - x) ∧ (Sl az_ 0 v) ∧ (Sl az_ 1 (.int .i64 ((x : Nat) : Int))) ∧ (Sl az_ 2 (.int .i64 ((y : Nat) : Int))) ∧ (Sl az_ 3 (.int .i64 ((lm : Nat) : Int))) ∧ (Sl az_ 8 (.bool wb)) ∧ (Sl az_ 9 (.bool wp)) ∧ (dk.size = n) ∧ (lm ≤ lim) ∧ (Inv a b x y d dk) ∧ (w.grownBy w' v.ownBlock) ∧ (w.heap.size ≤ w'.heap.size) ∧ (Own w' base 57 1 v n (dk.toList.map u64v))) _ hN hd ⟨a, b, lim, true, true, _, rfl, (zL hN rfl e), (zL hN rfl f).trans (congrArg (Value.int .i64) zx), (zL hN rfl g).trans (congrArg (Value.int .i64) zx), (zL hN rfl h).trans (congrArg (Value.int .i64) zx), (zU hN rfl), (zU hN rfl), (by first | assumption | (simp only [Array.size_setIfInBounds, swp_sz, siftDown_size]; assumption)), Nat.le_refl _, (Inv.start hB hab zx), hb, (Nat.le_refl _), O⟩ ?_)))))))))
 rintro _ s q e k ⟨x, y, lm, wb, wp, dk, rfl, h, g, f, m, o, p, hdk, hlm, hinv, hb, t, l⟩
 have := hb.size
 refine wp_block (zF fun _ c => zH ?_)
 have hrg := hinv.rng
 have hzk := hinv.sz
 refine zG (zC e rfl f) (zG (zC e rfl g) (op_sub (r := (((y - x) : Nat) : Int)) (zA e rfl) (zA e rfl) (by rw [IntKind.wrap_i64]; omega) (zD (zA e rfl) (zB (c _ _ (zF fun _ c => zF fun _ s => zH (zG (zA e rfl) (op_leq (zA e rfl) rfl (fun t => ?_) (fun t => ?_)))))))))
 ·
  refine zB ?_
  refine s _ _ (wp_cond_true (zA e rfl) (zF fun _ s => zH (zG (zC e rfl h) (zG (zC e rfl g) (zG (zC e rfl f) (zj ok67 (insSort_ret dk _ _ _ x y _ (by first | assumption | (simp only [Array.size_setIfInBounds, swp_sz, siftDown_size]; assumption)) zx l zx zx) ⟨(zA e rfl), ⟨(zA e rfl), ⟨(zA e rfl), trivial⟩⟩⟩ ?_))))))
  rintro _ A ⟨t, rfl, u⟩
  have := t.size
  have hb := grow_stepX hb t rfl
  refine zB (s _ _ (wp_ret (zO (zb (zO (zb ( (ret0 rfl k  ⟨_, rfl, ?_⟩))))))))
  exact ⟨hb, rfl, _, hinv.ins.1, hinv.ins.2, u⟩
 refine zB (s _ _ (wp_cond_false (zA e rfl) (wp_skip (c _ _ (zF fun _ c => zF fun _ s => zH (zG (zC e rfl m) (op_eql (zA e rfl) rfl (fun t => ?_) (fun t => ?_))))))))
 ·
  refine zB ?_
  refine s _ _ (wp_cond_true (zA e rfl) (zF fun _ s => zH (zG (zC e rfl h) (zG (zC e rfl g) (zG (zC e rfl f) (ze (vs := [v, (.int .i64 ((x : Nat) : Int)), (.int .i64 ((y : Nat) : Int))]) ok68 ⟨(zA e rfl), ⟨(zA e rfl), ⟨(zA e rfl), trivial⟩⟩⟩ (heapW_ret dk _ _ _ x y _ (by first | assumption | (simp only [Array.size_setIfInBounds, swp_sz, siftDown_size]; assumption)) zx l zx zx) ?_))))))
  rintro _ A ⟨t, rfl, u⟩
  have := t.size
  have hb := grow_stepX hb t rfl
  refine zB (s _ _ (wp_ret (zO (zb (zO (zb ( (ret0 rfl k  ⟨_, rfl, ?_⟩))))))))
  exact ⟨hb, rfl, _, hinv.heap.1, hinv.heap.2, u⟩
 refine zB (s _ _ (wp_cond_false (zA e rfl) (wp_skip (c _ _ (seq_join1 (N := 134) (fun az_ w' => ∃ (u : Ar) (t : Nat), (Sl az_ 0 v) ∧ (Sl az_ 1 (.int .i64 ((x : Nat) : Int))) ∧ (Sl az_ 2 (.int .i64 ((y : Nat) : Int))) ∧ (Sl az_ 8 (.bool wb)) ∧ (Sl az_ 9 (.bool wp)) ∧ (Sl az_ 10 (.int .i64 (((y - x) : Nat) : Int))) ∧ (Sl az_ 3 (.int .i64 ((t : Nat) : Int))) ∧ (t ≤ lm) ∧ (Inv a b x y d u) ∧ (u.size = n) ∧ (w.grownBy w' v.ownBlock) ∧ (q.heap.size ≤ w'.heap.size) ∧ (Own w' base 57 1 v n (u.toList.map u64v))) (fun A => ?_) ?_)))))
 ·
  refine zF fun _ c => zF fun _ s => zH (zG (zC e rfl o) (op_not (zA e rfl) (zB (s _ _ (wp_cond_split (zA e rfl) (fun q => ?_) (fun q => ?_))))))
  ·
   refine zF fun _ s => zH (zG (zC e rfl h) (zG (zC e rfl g) (zG (zC e rfl f) (zj ok69 (bpW_ret dk _ _ _ x y _ (by first | assumption | (simp only [Array.size_setIfInBounds, swp_sz, siftDown_size]; assumption)) zx l zx zx) ⟨(zA e rfl), ⟨(zA e rfl), ⟨(zA e rfl), trivial⟩⟩⟩ ?_))))
   rintro _ E ⟨B, rfl, C, q, D⟩
   have := B.size
   have hb := grow_stepX hb B rfl
   have B : C.size = n := by first | exact (PI.sz q).trans (by assumption) | (have hq := PI.sz q; simp only [Array.size_setIfInBounds, swp_sz] at hq; omega)
   refine zB (s _ _ (zH (zG (zC e rfl m) (op_sub (r := (((lm - 1) : Nat) : Int)) (zA e rfl) rfl (by rw [IntKind.wrap_i64]; omega) (zD (zA e rfl) (zB (c _ _ ?_)))))))
   exact A _ _ _ e k ⟨_, (lm - 1), (zL e rfl h), (zL e rfl g), (zL e rfl f), (zL e rfl o), (zL e rfl p), (zU e rfl), (zU e rfl).trans (congrArg (Value.int .i64) zx), zx, (hinv.perm q), (by first | assumption | (simp only [Array.size_setIfInBounds, swp_sz, siftDown_size]; assumption)), hb, zx, D⟩
  refine wp_skip (c _ _ ?_)
  exact A _ _ _ e k ⟨_, lm, (zL e rfl h), (zL e rfl g), (zL e rfl f), (zL e rfl o), (zL e rfl p), (zU e rfl), (zL e rfl m).trans (congrArg (Value.int .i64) zx), zx, hinv, (by first | assumption | (simp only [Array.size_setIfInBounds, swp_sz, siftDown_size]; assumption)), hb, zx, l⟩
 rintro F C e p ⟨u, t, l, g, k, A, m, o, q, B, f, D, hb, E, h⟩
 have := hb.size
 refine zF fun _ c => zH (zG (zC e rfl l) (zG (zC e rfl g) (zG (zC e rfl k) (zj ok70 (choosePW_ret u v _ x y _ (by first | assumption | (simp only [Array.size_setIfInBounds, swp_sz, siftDown_size]; assumption)) zx (h.rdw.mono (Nat.zero_le _) (Nat.le_refl _)) zx zx) ⟨(zA e rfl), ⟨(zA e rfl), ⟨(zA e rfl), trivial⟩⟩⟩ ?_))))
 rintro _ D ⟨B, C, E, rfl, F, G⟩
 have B := zQ B
 have := B.size
 have h := h.keep0 B
 have hb := grow_step0 hb B
 refine zG (zA e rfl) (zW (zA e rfl) rfl (zW (zA e rfl) rfl (zD (zA e rfl) (zD (zA e rfl) (zB (c _ _ (seq_join1 (N := 134) (fun az_ w' => ∃ (E : Ar) (B : Nat) (G : Int), (Sl az_ 0 v) ∧ (Sl az_ 1 (.int .i64 ((x : Nat) : Int))) ∧ (Sl az_ 2 (.int .i64 ((y : Nat) : Int))) ∧ (Sl az_ 3 (.int .i64 ((t : Nat) : Int))) ∧ (Sl az_ 8 (.bool wb)) ∧ (Sl az_ 9 (.bool wp)) ∧ (Sl az_ 10 (.int .i64 (((y - x) : Nat) : Int))) ∧ (Sl az_ 11 (.int .i64 ((B : Nat) : Int))) ∧ (Sl az_ 12 (.int .i64 G)) ∧ (x ≤ B ∧ B < y) ∧ (Inv a b x y d E) ∧ (E.size = n) ∧ (w.grownBy w' v.ownBlock) ∧ (D.heap.size ≤ w'.heap.size) ∧ (Own w' base 57 1 v n (E.toList.map u64v))) (fun F => ?_) ?_)))))))
 ·
  refine zF fun _ c => zF fun _ s => zH (zG (zA e rfl) (op_eql (zA e rfl) rfl (fun D => ?_) (fun D => ?_)))
  ·
   refine zB ?_
   refine s _ _ (wp_cond_true (zA e rfl) (zF fun _ s => zH (zG (zC e rfl l) (zG (zC e rfl g) (zG (zC e rfl k) (zj ok71 (revW_ret u _ _ _ x y _ (by first | assumption | (simp only [Array.size_setIfInBounds, swp_sz, siftDown_size]; assumption)) zx h zx zx) ⟨(zA e rfl), ⟨(zA e rfl), ⟨(zA e rfl), trivial⟩⟩⟩ ?_))))))
   rintro _ H ⟨u, rfl, D⟩
   have := u.size
   have hb := grow_stepX hb u rfl
   refine zB (s _ _ (zF fun _ s => zH (zG (zC e rfl k) (op_sub (r := (((y - 1) : Nat) : Int)) (zA e rfl) rfl (by rw [IntKind.wrap_i64]; omega) ?_))))
   refine zG (zA e rfl) (zG (zC e rfl g) (op_sub (r := (((C - x) : Nat) : Int)) (zA e rfl) (zA e rfl) (by rw [IntKind.wrap_i64]; omega) (op_sub (r := (((y - 1 - (C - x)) : Nat) : Int)) (zA e rfl) (zA e rfl) (by rw [IntKind.wrap_i64]; omega) (zD (zA e rfl) (zB (s _ _ (zH (zD rfl (zB (c _ _ ?_))))))))))
   exact F _ _ _ e p ⟨_, (y - 1 - (C - x)), _, (zL e rfl l), (zL e rfl g), (zL e rfl k), (zL e rfl q), (zL e rfl A), (zL e rfl m), (zL e rfl o), (zU e rfl).trans (congrArg (Value.int .i64) zx), (zU e rfl), zx, f.rev, (by rw [Inv.sz (by first | exact f.rev | exact f)]; assumption), hb, zx, D⟩
  refine zB (s _ _ (wp_cond_false (zA e rfl) (wp_skip (c _ _ ?_))))
  exact F _ _ _ e p ⟨_, C, _, (zL e rfl l), (zL e rfl g), (zL e rfl k), (zL e rfl q), (zL e rfl A), (zL e rfl m), (zL e rfl o), (zU e rfl).trans (congrArg (Value.int .i64) zx), (zU e rfl), zx, f, (by rw [Inv.sz (by first | exact f.rev | exact f)]; assumption), hb, zx, h⟩
 rintro I D e m ⟨E, B, G, g, o, l, A, k, h, p, q, F, C, f, J, hb, H, u⟩
 have := hb.size
 refine seq_join1 (N := 134) (fun az_ w' => ∃ (G : Ar), (Sl az_ 0 v) ∧ (Sl az_ 1 (.int .i64 ((x : Nat) : Int))) ∧ (Sl az_ 2 (.int .i64 ((y : Nat) : Int))) ∧ (Sl az_ 3 (.int .i64 ((t : Nat) : Int))) ∧ (Sl az_ 8 (.bool wb)) ∧ (Sl az_ 9 (.bool wp)) ∧ (Sl az_ 10 (.int .i64 (((y - x) : Nat) : Int))) ∧ (Sl az_ 11 (.int .i64 ((B : Nat) : Int))) ∧ (Inv a b x y d G) ∧ (G.size = n) ∧ (w.grownBy w' v.ownBlock) ∧ (D.heap.size ≤ w'.heap.size) ∧ (Own w' base 57 1 v n (G.toList.map u64v))) (fun H => ?_) ?_
 ·
  refine zF fun _ c => zF fun _ s => zH (zG (zC e rfl k) (zG (zA e rfl) ?_))
  rcases Bool.eq_false_or_eq_true (wb) with D | D
  ·
   rw [D]
   refine zS (j := 1) (dj := 62) (b := true) rfl rfl rfl (zA e rfl) (zG (zC e rfl h) (zc (zA e rfl) (zA e rfl) (zG (zA e rfl) ?_)))
   rcases Bool.eq_false_or_eq_true (wp) with I | I
   ·
    rw [I]
    refine zS (j := 4) (dj := 65) (b := true) rfl rfl rfl (zA e rfl) (zG (zC e rfl F) (zS (j := 4) (dj := 65) (b := true) rfl rfl rfl (zA e rfl) (op_eql (zA e rfl) rfl (fun J => ?_) (fun J => ?_))))
    ·
     refine zc (zA e rfl) (zA e rfl) (zB ?_)
     refine s _ _ (wp_cond_true (zA e rfl) (zF fun _ s => zH (zG (zC e rfl g) (zG (zC e rfl o) (zG (zC e rfl l) (zj ok72 (partialW_ret E _ _ _ x y _ (by first | assumption | (simp only [Array.size_setIfInBounds, swp_sz, siftDown_size]; assumption)) zx u zx zx) ⟨(zA e rfl), ⟨(zA e rfl), ⟨(zA e rfl), trivial⟩⟩⟩ ?_))))))
     rintro _ K ⟨J, rfl, F⟩
     have := J.size
     have hb := grow_stepX hb J rfl
     rcases Bool.eq_false_or_eq_true ((partialInsertionSort ltT E x y).2) with J | J
     ·
      rw [J]
      refine zB (s _ _ (wp_cond_true (zA e rfl) (wp_ret (zO (zb (zO (zb ( (ret0 rfl m  ⟨_, rfl, ?_⟩)))))))))
      exact ⟨hb, rfl, _, ((f.pins zx).2 (by first | assumption | simpa using J)).1, ((f.pins zx).2 (by first | assumption | simpa using J)).2, F⟩
     rw [J]
     refine zB (s _ _ (wp_cond_false (zA e rfl) (wp_skip (c _ _ ?_))))
     exact H _ _ _ e m ⟨_, (zL e rfl g), (zL e rfl o), (zL e rfl l), (zL e rfl A), (zL e rfl k), (zL e rfl h), (zL e rfl p), (zL e rfl q), (f.pins zx).1, (by rw [Inv.sz (by first | exact (f.pins zx).1 | exact f)]; assumption), hb, zx, F⟩
    refine zc (zA e rfl) (zA e rfl) (zB (s _ _ (wp_cond_false (zA e rfl) (wp_skip (c _ _ ?_)))))
    exact H _ _ _ e m ⟨_, (zL e rfl g), (zL e rfl o), (zL e rfl l), (zL e rfl A), (zL e rfl k), (zL e rfl h), (zL e rfl p), (zL e rfl q), f, (by rw [Inv.sz (by first | exact (f.pins zx).1 | exact f)]; assumption), hb, zx, u⟩
   rw [I]
   refine zR (j := 4) (dj := 65) (b := true) rfl rfl rfl (zA e rfl) rfl rfl (zR (j := 4) (dj := 65) (b := true) rfl rfl rfl (zA e rfl) rfl rfl (zd (zA e rfl) rfl (zB (s _ _ (wp_cond_false (zA e rfl) (wp_skip (c _ _ ?_)))))))
   exact H _ _ _ e m ⟨_, (zL e rfl g), (zL e rfl o), (zL e rfl l), (zL e rfl A), (zL e rfl k), (zL e rfl h), (zL e rfl p), (zL e rfl q), f, (by rw [Inv.sz (by first | exact (f.pins zx).1 | exact f)]; assumption), hb, zx, u⟩
  rw [D]
  refine zR (j := 1) (dj := 62) (b := true) rfl rfl rfl (zA e rfl) rfl rfl (zd (zA e rfl) rfl (zG (zA e rfl) (zR (j := 4) (dj := 65) (b := true) rfl rfl rfl (zA e rfl) rfl rfl (zR (j := 4) (dj := 65) (b := true) rfl rfl rfl (zA e rfl) rfl rfl (zd (zA e rfl) rfl (zB (s _ _ (wp_cond_false (zA e rfl) (wp_skip (c _ _ ?_))))))))))
  exact H _ _ _ e m ⟨_, (zL e rfl g), (zL e rfl o), (zL e rfl l), (zL e rfl A), (zL e rfl k), (zL e rfl h), (zL e rfl p), (zL e rfl q), f, (by rw [Inv.sz (by first | exact (f.pins zx).1 | exact f)]; assumption), hb, zx, u⟩
 rintro H E e p ⟨G, g, h, l, q, u, o, D, m, A, k, hb, F, f⟩
 have := hb.size
 refine seq_join1 (N := 134) (fun az_ w' => (Sl az_ 0 v) ∧ (Sl az_ 2 (.int .i64 ((y : Nat) : Int))) ∧ (Sl az_ 3 (.int .i64 ((t : Nat) : Int))) ∧ (Sl az_ 8 (.bool wb)) ∧ (Sl az_ 9 (.bool wp)) ∧ (Sl az_ 10 (.int .i64 (((y - x) : Nat) : Int))) ∧ (Sl az_ 11 (.int .i64 ((B : Nat) : Int))) ∧ (Sl az_ 1 (.int .i64 ((x : Nat) : Int))) ∧ (w.grownBy w' v.ownBlock) ∧ (E.heap.size ≤ w'.heap.size) ∧ (Own w' base 57 1 v n (G.toList.map u64v))) (fun F => ?_) ?_
 ·
  refine zF fun _ c => zF fun _ s => reg_still mixed zy ?_
  intro H E
  have := E.size
  have f := f.keep0 E
  have hb := grow_step0 hb E
  refine st_step rfl (fun _ E => zG (zC e rfl h) E) ?_
  by_cases H : 0 < ((x : Nat) : Int)
  ·
   refine st_step rfl (fun _ E => op_cmp (b := true) (zA e rfl) rfl (b_gtr (decide_eq_true H)) E) (st_step rfl (fun _ E => zG (zA e rfl) E) (st_g_true (j := 2) (dj := 75) (b := true) rfl rfl rfl (zA e rfl) (st_step rfl (fun _ E => zG (zC e rfl g) E) (st_g_true (j := 2) (dj := 75) (b := true) rfl rfl rfl (zA e rfl) (st_step rfl (fun _ E => zG (zC e rfl h) E) (st_g_true (j := 2) (dj := 75) (b := true) rfl rfl rfl (zA e rfl) (st_step rfl (fun _ E => op_sub (r := (((x - 1) : Nat) : Int)) (zA e rfl) rfl (by rw [IntKind.wrap_i64]; omega) E) (st_g_true (j := 2) (dj := 75) (b := true) rfl rfl rfl (zA e rfl) (st_index_rd slt62 (zA e rfl) f.rdw (zA e rfl) zx zx ?_)))))))))
   intro J K L M I
   refine st_g_true (j := 2) (dj := 75) (b := true) rfl rfl rfl (zA e rfl) (st_step rfl (fun _ E => zN (v := (Value.int .u64 (G[(x - 1)]!.toNat : Int))) one57 (zA e rfl) (by have := I 0 (.int .u64 (G[(x - 1)]!.toNat : Int)) zz (el_arr (i := (x - 1)) zx (by first | omega | (simp only [Array.size_setIfInBounds, swp_sz, siftDown_size]; omega))); simpa using this) E) (st_g_true (j := 2) (dj := 75) (b := true) rfl rfl rfl (zA e rfl) (st_step rfl (fun _ E => zG (zC e rfl g) E) (st_g_true (j := 2) (dj := 75) (b := true) rfl rfl rfl (zA e rfl) (st_step rfl (fun _ E => zG (zC e rfl m) E) (st_g_true (j := 2) (dj := 75) (b := true) rfl rfl rfl (zA e rfl) (st_index_rd slt62 (zA e rfl) f.rdw (zA e rfl) zx zx ?_)))))))
   intro K L M J I
   refine st_g_true (j := 2) (dj := 75) (b := true) rfl rfl rfl (zA e rfl) (st_step rfl (fun _ E => zN (v := (Value.int .u64 (G[B]!.toNat : Int))) one57 (zA e rfl) (by have := I 0 (.int .u64 (G[B]!.toNat : Int)) zz (el_arr (i := B) zx (by first | omega | (simp only [Array.size_setIfInBounds, swp_sz, siftDown_size]; omega))); simpa using this) E) (st_g_true (j := 2) (dj := 75) (b := true) rfl rfl rfl (zA e rfl) (st_fn (vs := [(.int .u64 (G[(x - 1)]!.toNat : Int)), (.int .u64 (G[B]!.toNat : Int))]) ok73 (⟨(zA e rfl), ⟨(zA e rfl), trivial⟩⟩) (Less16_ret G[(x - 1)]! G[B]! _) (st_g_true (j := 2) (dj := 75) (b := true) rfl rfl rfl (zA e rfl) (st_step rfl (fun _ E => op_not (zA e rfl) E) (st_step rfl (fun _ E => zc (zA e rfl) (zA e rfl) E) (st_nil (s _ _ (wp_cond_split (zA e rfl) (fun J => ?_) (fun J => ?_))))))))))
   ·
    refine zF fun _ s => zH ?_
    have I := A.equal C.1 C.2 zx (not_t J)
    refine zG (zC e rfl g) (zG (zC e rfl h) (zG (zC e rfl l) (zG (zC e rfl m) (zj ok74 (partEqW_ret G _ _ _ x y B _ (by first | assumption | (simp only [Array.size_setIfInBounds, swp_sz, siftDown_size]; assumption)) zx f zx zx zx) ⟨(zA e rfl), ⟨(zA e rfl), ⟨(zA e rfl), ⟨(zA e rfl), trivial⟩⟩⟩⟩ ?_))))
    rintro _ L ⟨J, rfl, K⟩
    have := J.size
    have hb := grow_stepX hb J rfl
    refine zD (zA e rfl) (zB (s _ _ (zF fun _ s => zH (zG (zA e rfl) (zD (zA e rfl) (zB (s _ _ (wp_exit (then_exit (blk_hit ?_))))))))))
    -- round 23F 29F 74T 87T
    have J := I.2
    have I : (partitionEqual ltT G x y B).2.size = n := by rw [Inv.sz J]; assumption
    exact zg _ e p ⟨(partitionEqual ltT G x y B).1, y, t, wb, wp, _, rfl, (zL e rfl g), (zU e rfl).trans (congrArg (Value.int .i64) zx), (zL e rfl l).trans (congrArg (Value.int .i64) zx), (zL e rfl q).trans (congrArg (Value.int .i64) zx), (zL e rfl u), (zL e rfl o), (by first | assumption | (simp only [Array.size_setIfInBounds, swp_sz, siftDown_size]; assumption)), zx, J, hb, zx, K⟩ zx
   refine wp_skip (c _ _ ?_)
   exact F _ _ _ e p ⟨(zL e rfl g), (zL e rfl l), (zL e rfl q), (zL e rfl u), (zL e rfl o), (zL e rfl D), (zL e rfl m), (zL e rfl h), hb, zx, f⟩
  refine st_step rfl (fun _ E => op_cmp (b := false) (zA e rfl) rfl (b_gtr (decide_eq_false H)) E) (st_step rfl (fun _ E => zG (zA e rfl) E) (st_g_false (j := 2) (dj := 75) (b := true) rfl rfl rfl (zA e rfl) rfl rfl (st_g_false (j := 2) (dj := 75) (b := true) rfl rfl rfl (zA e rfl) rfl rfl (st_g_false (j := 2) (dj := 75) (b := true) rfl rfl rfl (zA e rfl) rfl rfl (st_g_false (j := 2) (dj := 75) (b := true) rfl rfl rfl (zA e rfl) rfl rfl ?_)))))
  refine st_g_false (j := 2) (dj := 75) (b := true) rfl rfl rfl (zA e rfl) rfl rfl (st_g_false (j := 2) (dj := 75) (b := true) rfl rfl rfl (zA e rfl) rfl rfl (st_g_false (j := 2) (dj := 75) (b := true) rfl rfl rfl (zA e rfl) rfl rfl (st_g_false (j := 2) (dj := 75) (b := true) rfl rfl rfl (zA e rfl) rfl rfl (st_g_false (j := 2) (dj := 75) (b := true) rfl rfl rfl (zA e rfl) rfl rfl (st_g_false (j := 2) (dj := 75) (b := true) rfl rfl rfl (zA e rfl) rfl rfl (st_g_false (j := 2) (dj := 75) (b := true) rfl rfl rfl (zA e rfl) rfl rfl (st_step rfl (fun _ E => zd (zA e rfl) rfl E) (st_nil (s _ _ (wp_cond_false (zA e rfl) (wp_skip (c _ _ ?_))))))))))))
  exact F _ _ _ e p ⟨(zL e rfl g), (zL e rfl l), (zL e rfl q), (zL e rfl u), (zL e rfl o), (zL e rfl D), (zL e rfl m), (zL e rfl h), hb, zx, f⟩
 rintro D F e o ⟨g, m, h, E, s, q, p, l, hb, u, f⟩
 have := hb.size
 refine zF fun _ c => zH ?_
 have hpt := A.part C.1 C.2
 refine zG (zC e rfl g) (zG (zC e rfl l) (zG (zC e rfl m) (zG (zC e rfl p) (zj ok75 (partW_ret G _ _ _ x y B _ (by first | assumption | (simp only [Array.size_setIfInBounds, swp_sz, siftDown_size]; assumption)) zx f zx zx zx) ⟨(zA e rfl), ⟨(zA e rfl), ⟨(zA e rfl), ⟨(zA e rfl), trivial⟩⟩⟩⟩ ?_))))
 rintro _ s ⟨p, rfl, f⟩
 have := p.size
 have hb := grow_stepX hb p rfl
 refine zG (zA e rfl) (zW (zA e rfl) rfl (zW (zA e rfl) rfl ?_))
 refine zD (zA e rfl) (zD (zA e rfl) (zB (c _ _ (zF fun _ c => zH (zG (zA e rfl) (zD (zA e rfl) (zB (c _ _ (zF fun _ c => zH ?_)))))))))
 refine zG (zA e rfl) (zG (zC e rfl l) (op_sub (r := ((((partition ltT G x y B).1 - x) : Nat) : Int)) (zA e rfl) (zA e rfl) (by rw [IntKind.wrap_i64]; omega) (zG (zC e rfl m) (zG (zA e rfl) (op_sub (r := (((y - (partition ltT G x y B).1) : Nat) : Int)) (zA e rfl) (zA e rfl) (by rw [IntKind.wrap_i64]; omega) (zD (zA e rfl) (zD (zA e rfl) (zB (c _ _ (zF fun _ c => ?_))))))))))
 refine zH (zG (zC e rfl q) (op_quo (r := ((((y - x) / 8) : Nat) : Int)) (zA e rfl) rfl zz (by rw [IntKind.wrap_i64, Int.tdiv_eq_ediv_of_nonneg zx]; omega) (zD (zA e rfl) (zB (c _ _ (zF fun _ c => zH (zG (zA e rfl) (zG (zA e rfl) (op_lss (zA e rfl) (zA e rfl) (fun p => ?_) (fun p => ?_))))))))))
 ·
  refine zB (c _ _ (wp_cond_true (zA e rfl) (zF fun _ c => zH (zG (zA e rfl) (zG (zA e rfl) (op_geq (zA e rfl) (zA e rfl) (fun p => ?_) (fun p => ?_)))))))
  ·
   refine zD (zA e rfl) (zB (c _ _ (zF fun _ c => zH ?_)))
   have hbl := hpt.2.2.2.1
   have hmz : (partition ltT G x y B).1 - x < z := by omega
   refine zG (zC e rfl g) (zG (zC e rfl l) (zG (zA e rfl) (zG (zC e rfl h) (zj ok63 (ih (partition ltT G x y B).2.2 x ((partition ltT G x y B).1) t _ (hpt.2.2.1.trans k) zx zx zx zx hbl f) ⟨(zA e rfl), ⟨(zA e rfl), ⟨(zA e rfl), ⟨(zA e rfl), trivial⟩⟩⟩⟩ ?_))))
   rintro _ C ⟨p, rfl, s, q, u, A⟩
   have := p.size
   have hb := grow_stepX hb p rfl
   refine zB (c _ _ (zH (zG (zA e rfl) (op_add (r := ((((partition ltT G x y B).1 + 1) : Nat) : Int)) (zA e rfl) rfl (by rw [IntKind.wrap_i64]; omega) (zD (zA e rfl) (zB (blk_normal ?_)))))))
   -- round 23F 29F 113T 116T
   have J := hpt.2.2.2.2.2.1 _ q u
   have I : s.size = n := by rw [Inv.sz J]; assumption
   exact zg _ e o ⟨((partition ltT G x y B).1 + 1), y, t, true, (partition ltT G x y B).2.1, _, rfl, (zL e rfl g), (zU e rfl).trans (congrArg (Value.int .i64) zx), (zL e rfl m).trans (congrArg (Value.int .i64) zx), (zL e rfl h).trans (congrArg (Value.int .i64) zx), (zU e rfl), (zU e rfl), (by first | assumption | (simp only [Array.size_setIfInBounds, swp_sz, siftDown_size]; assumption)), zx, J, hb, zx, A⟩ zx
  refine zD (zA e rfl) (zB (c _ _ (zF fun _ c => zH ?_)))
  have hbl := hpt.2.2.2.1
  have hmz : (partition ltT G x y B).1 - x < z := by omega
  refine zG (zC e rfl g) (zG (zC e rfl l) (zG (zA e rfl) (zG (zC e rfl h) (zj ok63 (ih (partition ltT G x y B).2.2 x ((partition ltT G x y B).1) t _ (hpt.2.2.1.trans k) zx zx zx zx hbl f) ⟨(zA e rfl), ⟨(zA e rfl), ⟨(zA e rfl), ⟨(zA e rfl), trivial⟩⟩⟩⟩ ?_))))
  rintro _ C ⟨p, rfl, A, u, q, s⟩
  have := p.size
  have hb := grow_stepX hb p rfl
  refine zB (c _ _ (zH (zG (zA e rfl) (op_add (r := ((((partition ltT G x y B).1 + 1) : Nat) : Int)) (zA e rfl) rfl (by rw [IntKind.wrap_i64]; omega) (zD (zA e rfl) (zB (blk_normal ?_)))))))
  -- round 23F 29F 113T 116F
  have J := hpt.2.2.2.2.2.1 _ u q
  have I : A.size = n := by rw [Inv.sz J]; assumption
  exact zg _ e o ⟨((partition ltT G x y B).1 + 1), y, t, false, (partition ltT G x y B).2.1, _, rfl, (zL e rfl g), (zU e rfl).trans (congrArg (Value.int .i64) zx), (zL e rfl m).trans (congrArg (Value.int .i64) zx), (zL e rfl h).trans (congrArg (Value.int .i64) zx), (zU e rfl), (zU e rfl), (by first | assumption | (simp only [Array.size_setIfInBounds, swp_sz, siftDown_size]; assumption)), zx, J, hb, zx, s⟩ zx
 refine zB (c _ _ (wp_cond_false (zA e rfl) (zF fun _ c => zH (zG (zA e rfl) (zG (zA e rfl) (op_geq (zA e rfl) (zA e rfl) (fun p => ?_) (fun p => ?_)))))))
 ·
  refine zD (zA e rfl) (zB (c _ _ (zF fun _ c => zH ?_)))
  have hbr := hpt.2.2.2.2.1
  have hmz : y - ((partition ltT G x y B).1 + 1) < z := by omega
  refine zG (zC e rfl g) (zG (zA e rfl) (op_add (r := ((((partition ltT G x y B).1 + 1) : Nat) : Int)) (zA e rfl) rfl (by rw [IntKind.wrap_i64]; omega) (zG (zC e rfl m) (zG (zC e rfl h) (zj ok63 (ih (partition ltT G x y B).2.2 ((partition ltT G x y B).1 + 1) y t _ (hpt.2.2.1.trans k) zx zx zx zx hbr f) ⟨(zA e rfl), ⟨(zA e rfl), ⟨(zA e rfl), ⟨(zA e rfl), trivial⟩⟩⟩⟩ ?_)))))
  rintro _ C ⟨p, rfl, u, A, s, q⟩
  have := p.size
  have hb := grow_stepX hb p rfl
  refine zB (c _ _ (zH (zG (zA e rfl) (zD (zA e rfl) (zB (blk_normal ?_))))))
  -- round 23F 29F 113F 126T
  have J := hpt.2.2.2.2.2.2 _ A s
  have I : u.size = n := by rw [Inv.sz J]; assumption
  exact zg _ e o ⟨x, (partition ltT G x y B).1, t, true, (partition ltT G x y B).2.1, _, rfl, (zL e rfl g), (zL e rfl l).trans (congrArg (Value.int .i64) zx), (zU e rfl).trans (congrArg (Value.int .i64) zx), (zL e rfl h).trans (congrArg (Value.int .i64) zx), (zU e rfl), (zU e rfl), (by first | assumption | (simp only [Array.size_setIfInBounds, swp_sz, siftDown_size]; assumption)), zx, J, hb, zx, q⟩ zx
 refine zD (zA e rfl) (zB (c _ _ (zF fun _ c => zH ?_)))
 have hbr := hpt.2.2.2.2.1
 have hmz : y - ((partition ltT G x y B).1 + 1) < z := by omega
 refine zG (zC e rfl g) (zG (zA e rfl) (op_add (r := ((((partition ltT G x y B).1 + 1) : Nat) : Int)) (zA e rfl) rfl (by rw [IntKind.wrap_i64]; omega) (zG (zC e rfl m) (zG (zC e rfl h) (zj ok63 (ih (partition ltT G x y B).2.2 ((partition ltT G x y B).1 + 1) y t _ (hpt.2.2.1.trans k) zx zx zx zx hbr f) ⟨(zA e rfl), ⟨(zA e rfl), ⟨(zA e rfl), ⟨(zA e rfl), trivial⟩⟩⟩⟩ ?_)))))
 rintro _ s ⟨f, rfl, m, q, p, k⟩
 have := f.size
 have hb := grow_stepX hb f rfl
 refine zB (c _ _ (zH (zG (zA e rfl) (zD (zA e rfl) (zB (blk_normal ?_))))))
 -- round 23F 29F 113F 126F
 have J := hpt.2.2.2.2.2.2 _ q p
 have I : m.size = n := by rw [Inv.sz J]; assumption
 exact zg _ e o ⟨x, (partition ltT G x y B).1, t, false, (partition ltT G x y B).2.1, _, rfl, (zL e rfl g), (zL e rfl l).trans (congrArg (Value.int .i64) zx), (zU e rfl).trans (congrArg (Value.int .i64) zx), (zL e rfl h).trans (congrArg (Value.int .i64) zx), (zU e rfl), (zU e rfl), (by first | assumption | (simp only [Array.size_setIfInBounds, swp_sz, siftDown_size]; assumption)), zx, J, hb, zx, k⟩ zx

theorem pdqW_ret (d : Ar) (v : Value) (n base a b lim : Nat) (w : World) (hd : d.size = n) (hn : n ≤ 4000000000000000000) (hab : a ≤ b) (hbn : b ≤ n) (hlim : lim ≤ 100) (hB : Go.Sort.Below ltT a b d) (O : Own w base 57 1 v n (d.toList.map u64v)) : Ret Try.prog 63 #[v, .int .i64 (a : Int), .int .i64 (b : Int), .int .i64 (lim : Int)] w (fun v' w' => w.grownBy w' v.ownBlock ∧ v' = .tuple #[] ∧ ∃ d', PI a b d d' ∧ SortedIn ltT a b d' ∧ Own w' base 57 1 v n (d'.toList.map u64v)) := by
  have key : ∀ z, PdqIH z v n base := by
    intro z
    induction z with
    | zero => intro d a b lim w _ _ _ _ h; omega
    | succ z ih =>
      intro d a b lim w hd hab hbn hlim hz hB O
      exact pdqW_step (b - a) v n base hn (fun d a b lim w g1 g2 g3 g4 g5 => ih d a b lim w g1 g2 g3 g4 zx) d a b lim w hd hab hbn hlim rfl hB O
  exact key (b - a + 1) d a b lim w hd hab hbn hlim zx hB O
open Go.Sort (insertionSort insOuter insInner swp siftDown heapSort heapBuild heapPop scanUp scanDown partition partLoop partitionEqual partEqLoop scanSorted partialIns bitsLen partialInsertionSort shiftDown shiftUp SortedIn reverseRange reverseLoop fixDown fixUp)
theorem sortW_ret (d : Ar) (v : Value) (n base : Nat) (z0 : Nat) (w : World) (hd : d.size = n) (hn : n ≤ 4000000000000000000) (O : Own w base 57 1 v n (d.toList.map u64v)) : Ret Try.prog 57 #[v] w (fun v' w' => w.grownBy w' v.ownBlock ∧ v' = .tuple #[] ∧ ∃ d', PI 0 n d d' ∧ SortedIn ltT 0 n d' ∧ Own w' base 57 1 v n (d'.toList.map u64v)) := by
 have hb := grown_refl w v.ownBlock
 refine enter (N := 11) Try.func57 rfl rfl (by simp) fun a hN hd hA => ?_
 have b : a.tmps.getD 0 undef = v := hA 0 (by simp)
 clear hA
 refine zF fun _ a => ?_
 refine zH (zG (zC hN rfl b) (op_len_rd Try.underlying62 (zA hN rfl) O.rdw (zD (zA hN rfl) (zB (a _ _ (zH (zG (zC hN rfl b) (zG (zA hN rfl) (zG (zA hN rfl) (op_conv (r := ((n : Nat) : Int)) (zA hN rfl) us3 Try.underlying90 (wrap_u64 zx) ?_))))))))))
 have hbl : bitsLen n ≤ 62 := (Go.Sort.bitsLen_le_iff n 62).2 zx
 refine zj ok64 (lenW_ret n _ zx) ⟨(zA hN rfl), trivial⟩ ?_
 rintro _ b ⟨a, rfl⟩
 have a := zQ a
 have := a.size
 have O := O.keep0 a
 have hb := grow_step0 hb a
 refine zj ok63 (pdqW_ret d _ _ _ 0 n ((bitsLen n)) _ (by first | assumption | (simp only [Array.size_setIfInBounds, swp_sz, siftDown_size]; assumption)) zx zx zx zx (.inl rfl) O) ⟨(zA hN rfl), ⟨rfl, ⟨(zA hN rfl), ⟨(zA hN rfl), trivial⟩⟩⟩⟩ ?_
 rintro _ g ⟨a, rfl, f, b, c, e⟩
 have := a.size
 have hb := grow_stepX hb a rfl
 refine zB (end_ret (ret0 rfl hd  ⟨_, rfl, ?_⟩))
 exact ⟨hb, rfl, _, b, c, e⟩

theorem sortedG_ret {V : Type} {vv : V → Value} {es : List (Int × V)} {m b t : Nat} {w : World} (hM : MapC (.int .u64) vv w m es) (hwf : ∀ p ∈ es, (Lit.int .u64 p.1).wf = true) (hn : es.length ≤ 1000000) (hB : Bx w b 69 [.map (some m)]) : Ret Try.prog 50 #[(.func (.func 58) #[] #[(ptr b 0)])] w (fun v' w' => Below w.heap.size w w' ∧ ∃ (ss : List Int) (d d' : Ar), ss.Perm (es.map Prod.fst) ∧ ss = d.toList.map toZ ∧ d.size = ss.length ∧ PI 0 ss.length d d' ∧ SortedIn ltT 0 ss.length d' ∧ Own w' w.heap.size 57 1 v' ss.length (d'.toList.map u64v)) := by
 have hb := Below.refl w.heap.size w
 refine enter (N := 9) Try.func50 rfl rfl (by simp) fun c hN hd hA => ?_
 have e : c.tmps.getD 0 undef = (.func (.func 58) #[] #[(ptr b 0)]) := hA 0 (by simp)
 clear hA
 refine zF fun _ c => zH ?_
 refine zD rfl (zB (c _ _ (zF fun _ c => zH (zG (zC hN rfl e) (zj ok56 (collectU_ret hM hwf zx hB) ⟨(zA hN rfl), trivial⟩ ?_)))))
 rintro g h ⟨f, ss, hpm, e⟩
 have f := zQ f
 obtain ⟨hb, _⟩ := yE hb f
 obtain ⟨dk, hsk, hzk, hck⟩ := u64_of (ss := ss) (fun x hx => by obtain ⟨a, ha, hq⟩ := List.mem_map.1 (hpm.mem_iff.1 hx); rw [← hq]; exact hwf a ha)
 have hln : ss.length = es.length := by rw [hpm.length_eq, List.length_map]
 rw [hck] at e
 have e := e.mono (base' := w.heap.size) zx
 refine zD (zA hN rfl) (zB (c _ _ (zF fun _ c => zH (zG (zA hN rfl) (zj ok57 (sortW_ret dk _ ss.length _ 0 _ (by first | assumption | omega) zx e) ⟨(zA hN rfl), trivial⟩ ?_)))))
 rintro _ j ⟨f, rfl, h, hpi, hso, g⟩
 have := f.size
 have hb := below_stepO hb e f hb.size zx
 refine zB (c _ _ (zF fun _ c => zH (zG (zA hN rfl) (zD (zA hN rfl) (zB (c _ _ (wp_ret (ret1 rfl hd (zA hN rfl) ⟨_, rfl, ?_⟩))))))))
 exact ⟨hb, ss, dk, _, hpm, hsk, hzk, hpi, hso, g⟩

theorem sortedU_ret {V : Type} {vv : V → Value} {es : List (Int × V)} {m b : Nat} {w : World} (hM : MapC (.int .u64) vv w m es) (hwf : ∀ p ∈ es, (Lit.int .u64 p.1).wf = true) (hn : es.length ≤ 1000000) (hB : Bx w b 69 [.map (some m)]) : Ret Try.prog 50 #[.func (.func 58) #[] #[ptr b 0]] w (fun v' w' => Below w.heap.size w w' ∧ Own w' w.heap.size 57 1 v' (sortI (es.map Prod.fst)).length ((sortI (es.map Prod.fst)).map (Value.int .u64))) :=
  (sortedG_ret (t := 69) hM hwf hn hB).mono fun v' w' ⟨hb, ss, d, d', hpm, hsk, hzk, hpi, hso, hO⟩ => by
    have e1 := sorted_u64 hzk hpi hso
    have e2 : d'.toList.map u64v = (d'.toList.map toZ).map (Value.int .u64) := by rw [List.map_map]; rfl
    have e3 : sortI ss = sortI (es.map Prod.fst) := sortI_perm hpm
    rw [← hsk, e3] at e1
    rw [e2, e1] at hO
    have e4 : (sortI (es.map Prod.fst)).length = ss.length := by unfold sortI; rw [List.length_mergeSort, hpm.length_eq]
    exact ⟨hb, hO.cast e4.symm rfl⟩

theorem sortedU12_ret {V : Type} {vv : V → Value} {es : List (Int × V)} {m b : Nat} {w : World} (hM : MapC (.int .u64) vv w m es) (hwf : ∀ p ∈ es, (Lit.int .u64 p.1).wf = true) (hn : es.length ≤ 12) (hB : Bx w b 69 [.map (some m)]) : Ret Try.prog 50 #[.func (.func 58) #[] #[ptr b 0]] w (fun v' w' => Below w.heap.size w w' ∧ Own w' w.heap.size 57 1 v' (sortI (es.map Prod.fst)).length ((sortI (es.map Prod.fst)).map (Value.int .u64))) := sortedU_ret hM hwf zx hB

theorem ukeys_ret {m : Nat} (w : World) : Ret Try.prog 51 #[(Value.map (some m))] w (fun v' w' => Below w.heap.size w w' ∧ ∃ b, w.heap.size ≤ b ∧ v' = .func (.func 58) #[] #[ptr b 0] ∧ Bx w' b 69 [.map (some m)]) := by
 have hb := Below.refl w.heap.size w
 refine enter (N := 4) Try.func51 rfl rfl (by simp) fun a hN hd hA => ?_
 have c : a.tmps.getD 0 undef = (Value.map (some m)) := hA 0 (by simp)
 clear hA
 refine zF fun _ a => zH (op_box (cs := [(Value.map (some m))]) (zC hN rfl c) rfl ?_)
 intro h c g f e d
 obtain ⟨hb, _⟩ := yE hb d
 refine zD rfl (zB (a _ _ (zF fun _ a => zH (op_mkfn (cv := [(ptr c 0)]) ⟨(zA hN rfl), trivial⟩ (zD (zA hN rfl) (zB (a _ _ (wp_ret (ret1 rfl hd (zA hN rfl) ⟨_, rfl, ?_⟩)))))))))
 exact ⟨hb, c, by omega, rfl, e⟩

theorem HIDs_m {base k pm mm : Nat} {P : PM} {ps : List Nat} {M : AM} {nx : Int} {F0 : Nat → Prop} {w : World} (hbase : base ≤ w.heap.size) (hk : Bx w k 71 [.map (some pm), .int .i64 nx, .map (some mm)]) (hA : PgAll w base P ps F0) (hPm : MapC (.int .i64) pv w pm (esP P ps)) (hMm : MapC (.int .u64) plv w mm M) (hne : pm ≠ mm) (hwf : ∀ p ∈ M, (Lit.int .u64 p.1).wf = true) (hn : M.length ≤ 12)  : Ret Try.prog 35 #[(ptr k 0)] w (fun v' w' => Below w.heap.size w w' ∧ Own w' w.heap.size 57 1 v' (sortI (M.map Prod.fst)).length ((sortI (M.map Prod.fst)).map (Value.int .u64))) := by
 have hb := Below.refl w.heap.size w
 refine enter (N := 11) Try.func35 rfl rfl (by simp) fun a hN hd hA => ?_
 have b : a.tmps.getD 0 undef = (ptr k 0) := hA 0 (by simp)
 clear hA
 refine zF fun _ a => zH (zD rfl (zB (a _ _ (zF fun _ a => zF fun _ c => zH (zG (zC hN rfl b) (op_peq_some ptrt53 (zA hN rfl) rfl (zB ?_)))))))
 refine c _ _ (wp_cond_false (zA hN rfl) (wp_skip (a _ _ (zF fun _ a => zH (zG (zC hN rfl b) (op_nil (zA hN rfl) (zM fld71_2 (zA hN rfl) (zN one69 (zA hN rfl) (hk.cell rfl) (zj ok51 (ukeys_ret _) ⟨(zA hN rfl), trivial⟩ ?_)))))))))
 rintro _ d ⟨b, e, f, rfl, c⟩
 have b := zQ b
 obtain ⟨hb, _⟩ := yE hb b
 have hMm := hMm.keep0 b
 refine zj ok50 (sortedU12_ret hMm hwf hn c) ⟨(zA hN rfl), trivial⟩ ?_
 rintro e d ⟨b, c⟩
 have b := zQ b
 obtain ⟨hb, _⟩ := yE hb b
 have c := c.mono (base' := w.heap.size) zx
 refine zD (zA hN rfl) (zB (a _ _ (wp_ret (ret1 rfl hd (zA hN rfl) ⟨_, rfl, ?_⟩))))
 exact ⟨hb, c⟩

theorem hIDs_few {base k m : Nat} {R : List (Int × By)} {F : Nat → Prop} {w : World} (h : HeapR w base k R m F) (hbase : base ≤ w.heap.size) (hwf : ∀ p ∈ R, (Lit.int .u64 p.1).wf = true) (hne : R ≠ []) (hn : R.length ≤ 12) :
    Ret Try.prog 35 #[ptr k 0] w (fun v' w' => Below w.heap.size w w' ∧ Own w' w.heap.size 57 1 v' (sortI (R.map Prod.fst)).length ((sortI (R.map Prod.fst)).map (Value.int .u64))) := by
  obtain ⟨P, nx, M, ⟨v1, v2, ps, F0, hk, hx, hA, hMs, hF⟩, hI, hn0, hnm, hMl, rfl⟩ := h
  rw [recs_keys]
  rcases hMs with ⟨rfl, rfl, rfl, rfl⟩ | ⟨pm, mm, rfl, rfl, hb1, hb2, hne2, h1, h2⟩
  · exact absurd rfl hne
  · exact HIDs_m hbase hx hA h1 h2 hne2 (fun p hp => hwf (p.1, gH P p.2) (List.mem_map.2 ⟨p, hp, rfl⟩)) (by rw [recs_len] at hn; exact hn)

end Go.Proofs.Ytdhpalioifjfbaa

namespace Go.Proofs.Ytdhpalioifjfbaa
open Go.Gx Go.RowKit Go.Maps Go.Sort Go.Shelf Go.Proofs
set_option maxRecDepth 100000 in
set_option maxHeartbeats 1000000 in
theorem Hq.KEYSN0 (F : Fence) (n : Nat) (h10 : F.fn 58) (hro : F.round = none) (l Bm : Nat) (J : List Int → World → Prop) (W : World) (hJ : AbidesFrom W.heap.size J)
    (hm : W.cell? ⟨Bm, 0, none⟩ = some (.map none)) (h0 : J [] W) :
    CallsIn F n Try.prog 58 #[.func (.yield l) #[] #[], .pointer (some ⟨Bm, 0, none⟩)] W fun e W' => (∃ v, e = .returned v) ∧ ∃ ss : List Int, ss = [] ∧ J ss W' := by
  refine callsIn_of_wp Try.func58 rfl h10 ?_ hro
  simp only [Try.ntmps58, List.size_toArray, List.length_cons, List.length_nil, Nat.reduceAdd, Nat.reduceSub, Array.replicate_succ, Array.replicate_zero, List.push_toArray, List.append_toArray, List.nil_append, List.cons_append]
  have hrg := run_range_nilMap (P := Try.prog) W 69 57 80 Try.underlying69
  have hnx : ∀ ty, (Instr.next (.pointer (some ⟨W.heap.size, 0, none⟩)) false ty).run Try.prog (W.alloc (.mapIter none 0 #[] 0)) = _ := fun ty => run_next_nilMap _ ty 0 0 #[]
  gi_wp2
  refine wpIn_loop_rounds 1 ?_
  rw [roundsIn_succ]
  gi_wp2
  go_end0
  exact ⟨⟨_, rfl⟩, [], rfl, hJ [] W _ none h0 (World.grownBy_alloc W _ none) (fun r e => by cases e)⟩
theorem Hq.KEYSG0 (F : Fence) (n : Nat) (h10 : F.fn 58) (hro : F.round = none) (Bm : Nat) (w : World) (hBm : Bm < w.heap.size) (hm : w.cell? ⟨Bm, 0, none⟩ = some (.map none)) :
    SeqGives F n Try.prog 58 #[.pointer (some ⟨Bm, 0, none⟩)] encU (fun ss : List Int => ss = []) 0 w := fun l J W hW hJ _ h0 =>
  Hq.KEYSN0 F n h10 hro l Bm J W hJ ((hW.cell (p := ⟨Bm, 0, none⟩) hBm).trans hm) h0
theorem collectN_ret {w : World} {b t : Nat} (hB : Bx w b t [.map none]) :
    Ret Try.prog 56 #[.func (.func 58) #[] #[ptr b 0]] w (fun v' w' => Below w.heap.size w w' ∧ v' = .slice none 0 0) := by
  refine (callsIn_wide (n := 5)).1 ?_
  have hseq : SeqGives Fence.wide (5 - 1 - 1) Try.prog 58 #[.pointer (some ⟨b, 0, none⟩)] encU (fun ss : List Int => ss = []) 0 w :=
    Hq.KEYSG0 Fence.wide _ trivial rfl b w hB.lt (hB.cell rfl)
  have cS := Hq.COLL Fence.wide 5 trivial trivial rfl (by omega) 58 #[.pointer (some ⟨b, 0, none⟩)] trivial (enters_of Try.func58 (by kernel_rfl) rfl) _ _ (by unfold maxLen; omega) (by omega) _ hseq
  refine cS.mono ?_
  rintro e w' ⟨v, ss, rfl, hS, hrow, hnil, hb⟩
  exact ⟨v, rfl, hb, hnil.2 hS⟩
end Go.Proofs.Ytdhpalioifjfbaa

namespace Go.Proofs.Ytdhpalioifjfbaa
open Go.Gx Go.RowKit
attribute [local irreducible] wpList wpStill Code.wp Calls

theorem ukeysN_ret (w : World) : Ret Try.prog 51 #[(Value.map none)] w (fun v' w' => Below w.heap.size w w' ∧ ∃ b, w.heap.size ≤ b ∧ v' = .func (.func 58) #[] #[ptr b 0] ∧ Bx w' b 69 [.map none]) := by
 have hb := Below.refl w.heap.size w
 refine enter (N := 4) Try.func51 rfl rfl (by simp) fun a hN hd hA => ?_
 have c : a.tmps.getD 0 undef = (Value.map none) := hA 0 (by simp)
 clear hA
 refine zF fun _ a => zH (op_box (cs := [(Value.map none)]) (zC hN rfl c) rfl ?_)
 intro h c g f e d
 obtain ⟨hb, _⟩ := yE hb d
 refine zD rfl (zB (a _ _ (zF fun _ a => zH (op_mkfn (cv := [(ptr c 0)]) ⟨(zA hN rfl), trivial⟩ (zD (zA hN rfl) (zB (a _ _ (wp_ret (ret1 rfl hd (zA hN rfl) ⟨_, rfl, ?_⟩)))))))))
 exact ⟨hb, c, by omega, rfl, e⟩

theorem sortN_ret {w : World} : Ret Try.prog 57 #[.slice none 0 0] w (fun v' w' => Below w.heap.size w w' ∧ v' = .tuple #[]) :=
  (sortW_ret (#[] : Ar) (.slice none 0 0) 0 0 0 w rfl zx (Own.nil _ _ _ _)).mono fun v' w' q => ⟨zP (Below.refl _ w) q.1 (Nat.le_refl _), q.2.1⟩

theorem sortedNU_ret {b : Nat} {w : World} (hB : Bx w b 69 [.map none]) : Ret Try.prog 50 #[(.func (.func 58) #[] #[(ptr b 0)])] w (fun v' w' => Below w.heap.size w w' ∧ v' = .slice none 0 0) := by
 have hb := Below.refl w.heap.size w
 refine enter (N := 9) Try.func50 rfl rfl (by simp) fun a hN hd hA => ?_
 have c : a.tmps.getD 0 undef = (.func (.func 58) #[] #[(ptr b 0)]) := hA 0 (by simp)
 clear hA
 refine zF fun _ a => zH ?_
 refine zD rfl (zB (a _ _ (zF fun _ a => zH (zG (zC hN rfl c) (zj ok56 (collectN_ret hB) ⟨(zA hN rfl), trivial⟩ ?_)))))
 rintro _ d ⟨c, rfl⟩
 have c := zQ c
 obtain ⟨hb, _⟩ := yE hb c
 refine zD (zA hN rfl) (zB (a _ _ (zF fun _ a => zH (zG (zA hN rfl) (zj ok57 (sortN_ret) ⟨(zA hN rfl), trivial⟩ ?_)))))
 rintro _ d ⟨c, rfl⟩
 have c := zQ c
 obtain ⟨hb, _⟩ := yE hb c
 refine zB (a _ _ (zF fun _ a => zH (zG (zA hN rfl) (zD (zA hN rfl) (zB (a _ _ (wp_ret (ret1 rfl hd (zA hN rfl) ⟨_, rfl, ?_⟩))))))))
 exact ⟨hb, rfl⟩

theorem HIDs_g {base k pm mm : Nat} {P : PM} {ps : List Nat} {M : AM} {nx : Int} {F0 : Nat → Prop} {w : World} (hbase : base ≤ w.heap.size) (hk : Bx w k 71 [.map (some pm), .int .i64 nx, .map (some mm)]) (hA : PgAll w base P ps F0) (hPm : MapC (.int .i64) pv w pm (esP P ps)) (hMm : MapC (.int .u64) plv w mm M) (hne : pm ≠ mm) (hwf : ∀ p ∈ M, (Lit.int .u64 p.1).wf = true) (hn : M.length ≤ 1000000)  : Ret Try.prog 35 #[(ptr k 0)] w (fun v' w' => Below w.heap.size w w' ∧ Own w' w.heap.size 57 1 v' (sortI (M.map Prod.fst)).length ((sortI (M.map Prod.fst)).map (Value.int .u64))) := by
 have hb := Below.refl w.heap.size w
 refine enter (N := 11) Try.func35 rfl rfl (by simp) fun a hN hd hA => ?_
 have b : a.tmps.getD 0 undef = (ptr k 0) := hA 0 (by simp)
 clear hA
 refine zF fun _ a => zH (zD rfl (zB (a _ _ (zF fun _ a => zF fun _ c => zH (zG (zC hN rfl b) (op_peq_some ptrt53 (zA hN rfl) rfl (zB ?_)))))))
 refine c _ _ (wp_cond_false (zA hN rfl) (wp_skip (a _ _ (zF fun _ a => zH (zG (zC hN rfl b) (op_nil (zA hN rfl) (zM fld71_2 (zA hN rfl) (zN one69 (zA hN rfl) (hk.cell rfl) (zj ok51 (ukeys_ret _) ⟨(zA hN rfl), trivial⟩ ?_)))))))))
 rintro _ f ⟨b, e, d, rfl, c⟩
 have b := zQ b
 obtain ⟨hb, _⟩ := yE hb b
 have hMm := hMm.keep0 b
 refine zj ok50 (sortedU_ret hMm hwf hn c) ⟨(zA hN rfl), trivial⟩ ?_
 rintro d e ⟨b, c⟩
 have b := zQ b
 obtain ⟨hb, _⟩ := yE hb b
 have c := c.mono (base' := w.heap.size) zx
 refine zD (zA hN rfl) (zB (a _ _ (wp_ret (ret1 rfl hd (zA hN rfl) ⟨_, rfl, ?_⟩))))
 exact ⟨hb, c⟩

theorem HIDs_n {base k : Nat} {nx : Int} {w : World} (hbase : base ≤ w.heap.size) (hk : Bx w k 71 [.map none, .int .i64 nx, .map none])  : Ret Try.prog 35 #[(ptr k 0)] w (fun v' w' => Below w.heap.size w w' ∧ v' = .slice none 0 0) := by
 have hb := Below.refl w.heap.size w
 refine enter (N := 11) Try.func35 rfl rfl (by simp) fun a hN hd hA => ?_
 have b : a.tmps.getD 0 undef = (ptr k 0) := hA 0 (by simp)
 clear hA
 refine zF fun _ a => zH (zD rfl (zB (a _ _ (zF fun _ a => zF fun _ c => zH (zG (zC hN rfl b) (op_peq_some ptrt53 (zA hN rfl) rfl (zB ?_)))))))
 refine c _ _ (wp_cond_false (zA hN rfl) (wp_skip (a _ _ (zF fun _ a => zH (zG (zC hN rfl b) (op_nil (zA hN rfl) (zM fld71_2 (zA hN rfl) (zN one69 (zA hN rfl) (hk.cell rfl) (zj ok51 (ukeysN_ret _) ⟨(zA hN rfl), trivial⟩ ?_)))))))))
 rintro _ e ⟨b, f, d, rfl, c⟩
 have b := zQ b
 obtain ⟨hb, _⟩ := yE hb b
 refine zj ok50 (sortedNU_ret c) ⟨(zA hN rfl), trivial⟩ ?_
 rintro _ c ⟨b, rfl⟩
 have b := zQ b
 obtain ⟨hb, _⟩ := yE hb b
 refine zD (zA hN rfl) (zB (a _ _ (wp_ret (ret1 rfl hd (zA hN rfl) ⟨_, rfl, ?_⟩))))
 exact ⟨hb, rfl⟩

theorem hIDs_ret {base k m : Nat} {R : List (Int × By)} {F : Nat → Prop} {w : World} (h : HeapR w base k R m F) (hbase : base ≤ w.heap.size) (hwf : ∀ p ∈ R, (Lit.int .u64 p.1).wf = true) (hm : m ≤ 1000000) :
    Ret Try.prog 35 #[ptr k 0] w (fun v' w' => Below w.heap.size w w' ∧ Own w' w.heap.size 57 1 v' (sortI (R.map Prod.fst)).length ((sortI (R.map Prod.fst)).map (Value.int .u64))) := by
  have hlen := h.len
  obtain ⟨P, nx, M, ⟨v1, v2, ps, F0, hk, hx, hA, hMs, hF⟩, hI, hn0, hnm, hMl, rfl⟩ := h
  rw [recs_keys]
  rcases hMs with ⟨rfl, rfl, rfl, rfl⟩ | ⟨pm, mm, rfl, rfl, hb1, hb2, hne2, h1, h2⟩
  · refine (HIDs_n hbase hx).mono fun v' w' q => ⟨q.1, ?_⟩
    have e : sortI (([] : AM).map Prod.fst) = [] := by unfold sortI; simp
    rw [e, q.2]; exact Own.nil _ _ _ _
  · exact HIDs_g hbase hx hA h1 h2 hne2 (fun p hp => hwf (p.1, gH P p.2) (List.mem_map.2 ⟨p, hp, rfl⟩)) zx

end Go.Proofs.Ytdhpalioifjfbaa

namespace Go.Proofs.Ytdhpalioifjfbaa
open Go.Gx Go.RowKit
theorem twin_copy (bl : List UInt8) : bl.map u8v ++ ((List.replicate (bl.length + 3) (0 : UInt8)).map u8v).drop (bl.map u8v).length = (bl ++ [0, 0, 0]).map u8v := by
  simp only [List.map_replicate, List.length_map, List.drop_replicate, List.map_append, Nat.add_sub_cancel_left]; rfl
theorem getD_tail (bl t : List UInt8) (k : Nat) : (bl ++ t).getD (bl.length + k) 0 = t.getD k 0 := by
  rw [List.getD_eq_getElem?_getD, List.getElem?_append_right (by omega), Nat.add_sub_cancel_left, List.getD_eq_getElem?_getD]
def Trim (L : List By) : Prop := ∀ m, L.length = m + 1 → L.getD m [] ≠ []
theorem Trim.nil : Trim [] := fun m h => by simp at h
theorem Trim.cut (L : List By) : Trim (cutL L) := by
  intro m hm
  have key : ∀ l : List By, ∀ m, (l.dropWhile (· == [])).length = m + 1 → (l.dropWhile (· == [])).getD 0 [] ≠ [] := by
    intro l
    induction l with
    | nil => intro m h; simp at h
    | cons a t ih =>
      intro m h
      rw [List.dropWhile_cons] at h ⊢
      split
      · rename_i ha; rw [if_pos ha] at h; exact ih m h
      · rename_i ha; simpa using ha
  unfold cutL at hm ⊢
  rw [List.length_reverse] at hm
  have := key L.reverse m hm
  simp only [List.getD_eq_getElem?_getD] at this ⊢
  rw [List.getElem?_reverse (by omega), hm]
  simpa using this
theorem Trim.drop {L : List By} (h : Trim L) (k : Int) : Trim (dropN L k) := by
  unfold dropN; split
  · exact h
  · exact Trim.cut _
theorem Trim.put {L : List By} (h : Trim L) (r : By) : Trim (putN L r) := by
  unfold putN
  split
  · exact h
  · rename_i hb
    split
    · exact h
    · intro m hm
      have hf := freeL_le L
      have hr : r ≠ [] := by
        intro hh; subst hh; exact hb (by decide)
      have hl := layL_len (r := r) hf
      by_cases hk : m = freeL L
      · rw [hk, layL_get hf]; exact hr
      · rw [layL_other hf hk]; exact h m (by omega)
theorem map_get {A : List ByV} {i : Nat} (h : i < A.length) : (A.map Prod.snd).getD i [] = (A.getD i D0).2 := by
  simp only [List.getD_eq_getElem?_getD, List.getElem?_map, List.getElem?_eq_getElem h, Option.map_some, Option.getD_some]
theorem has_eq {A : List ByV} {k : Int} (h0 : 0 ≤ k) (h1 : k < (A.length : Int)) : decide (sizeL (A.map Prod.snd) k ≠ 0) = decide ((A.getD k.toNat D0).2 ≠ []) := by
  have e : k = ((k.toNat : Nat) : Int) := by omega
  have hk : k.toNat < A.length := by omega
  rw [e, sizeL_in (by simpa using hk), Int.toNat_natCast, map_get hk]
  simp [List.length_eq_zero_iff]
theorem el_flat {α : Type} {f : α → List Value} {sz : Nat} (hf : ∀ u, (f u).length = sz) (hp : 0 < sz) {l : List α} {d : α} {e : Int} {i : Nat} (he : e = (i : Int)) (h : i < l.length) {j : Nat} {u : Value} (hu : (f (l.getD i d))[j]? = some u) :
    (l.flatMap f)[e.toNat * sz + j]? = some u := by
  have hj : j < sz := by rw [← hf (l.getD i d)]; exact (List.getElem?_eq_some_iff.1 hu).1
  subst he
  rw [flat_get hp l fun v _ => hf v]
  have e1 : ((i : Int).toNat * sz + j) / sz = i := by rw [Int.toNat_natCast, Nat.add_comm, Nat.add_mul_div_right _ _ hp, Nat.div_eq_of_lt hj, Nat.zero_add]
  have e2 : ((i : Int).toNat * sz + j) % sz = j := by rw [Int.toNat_natCast, Nat.add_comm, Nat.add_mul_mod_self_right, Nat.mod_eq_of_lt hj]
  rw [e1, e2, List.getElem?_eq_getElem h]
  simpa [List.getD_eq_getElem?_getD, h] using hu
structure OpV where
  k : Int
  s : Int
  z : Int
  x : UInt8
def O0 : OpV := ⟨0, 0, 0, 0⟩
structure OkOp (o : OpV) : Prop where
  k : -9223372036854775808 ≤ o.k ∧ o.k ≤ 9223372036854775807
  s : -9223372036854775808 ≤ o.s ∧ o.s ≤ 9223372036854775807
  z : -9223372036854775808 ≤ o.z ∧ o.z ≤ 9223372036854775807
theorem add_u8 {x y : UInt8} : IntKind.u8.wrap ((x.toNat : Int) + (y.toNat : Int)) = ((x + y).toNat : Int) := by
  rw [UInt8.toNat_add]; show ((((x.toNat : Int) + (y.toNat : Int)) % 256 : Int)) = _; omega
end Go.Proofs.Ytdhpalioifjfbaa

namespace Go.Proofs.Ytdhpalioifjfbaa
open Go.Gx Go.RowKit
attribute [local irreducible] wpList wpStill Code.wp Calls

theorem Twin_ret (bl : List UInt8) (v : Value) (w : World) (hl : bl.length ≤ 140000000000000) (hv : RdC w 0 w.heap.size 1 v bl.length (bl.map u8v)) : Ret Try.prog 16 #[v] w (fun v' w' => Below w.heap.size w w' ∧ ∃ g, v' = .slice (some ⟨g, 0, none⟩) bl.length (bl.length + 3) ∧ w.heap.size ≤ g ∧ g < w'.heap.size ∧ Bx w' g 5 ((bl ++ [229, 229, 229]).map u8v)) := by
 have hb := Below.refl w.heap.size w
 refine enter (N := 27) Try.func16 rfl rfl (by simp) fun a hN hd hA => ?_
 have b : a.tmps.getD 0 undef = v := hA 0 (by simp)
 clear hA
 refine zF fun _ a => zH (zD rfl (zB (a _ _ (zF fun _ a => zH (zG (zC hN rfl b) ?_)))))
 have hv' := hv.keep0 (zQ hb)
 refine op_len_rd Try.underlying22 (zA hN rfl) hv' (op_add (zA hN rfl) rfl (add64 zx) (op_make_row (n := (bl.length + 3)) slt22 ((zA hN rfl).trans (congrArg (Value.int _) zx)) ((zA hN rfl).trans (congrArg (Value.int _) zx)) rfl zx zx ?_))
 intro h e j k d f
 obtain ⟨hb, _⟩ := yE hb f
 have d : Bx h e 5 (((List.replicate (bl.length + 3) (0 : UInt8)).map u8v)) := by simpa [u8v] using d
 refine zD (zA hN rfl) (zB (a _ _ (zF fun _ a => zH (zG (zA hN rfl) (zG (zC hN rfl b) ?_)))))
 have hv' := hv.keep0 (zQ hb)
 refine op_copy_row slt22 (zA hN rfl) d (by simp) (zA hN rfl) (m := ((bl.length : Nat) : Int)) hv' (by simp) (by simp [Value.oneCell', u8v]) ?_
 intro h d f
 have := f.size
 have hb := below_step1 hb f hb.size zx
 have d : Bx h e 5 (((bl ++ [0, 0, 0]).map u8v)) := by rw [twin_copy] at d; exact d
 refine zB (a _ _ (zF fun _ a => zF fun _ f => zH (zG (zC hN rfl b) ?_)))
 have hv' := hv.keep0 (zQ hb)
 refine op_len_rd Try.underlying22 (zA hN rfl) hv' (zD (zA hN rfl) (zB ?_))
 refine f _ _ (wp_block (wp_loop_rounds 4 (rounds_any fun _ f => zF fun _ j => zF fun _ k => zH (zG (zA hN rfl) (zG (zA hN rfl) (op_len_rd Try.underlying22 (zA hN rfl) (show RdC h e (e + 1) 1 (.slice (some ⟨e, 0, none⟩) (bl.length + 3) (bl.length + 3)) (bl.length + 3) (((bl ++ [0, 0, 0]).map u8v)) from RdC.ofRowAll (c := (bl.length + 3)) d (by simp) zx (by unfold maxLen; omega)) (op_lss (zA hN rfl) (zA hN rfl) (fun l => ?_) (fun l => ?_))))))))
 ·
  refine zB (k _ _ (wp_cond_true (zA hN rfl) (wp_skip (j _ _ (zF fun _ j => wp_block (zH (zG (zA hN rfl) (zG (zA hN rfl) (op_index_row (i := (bl.length)) slt22 (zA hN rfl) (zA hN rfl) zx zx (op_store_row (v := (Value.int .u8 229)) size5 (zA hN rfl) rfl rfl rfl d (by first | (simp; done) | (simp; omega)) ?_))))))))))
  intro o d h
  have := h.size
  have hb := below_step1 hb h hb.size zx
  have d : Bx o e 5 (((bl ++ [229, 0, 0]).map u8v)) := by exact (congrArg (Bx _ _ _) (set_tail bl [0, 0, 0] 0 229)).mp d
  refine zB (j _ _ (zH (zG (zA hN rfl) (op_add (zA hN rfl) rfl (add64 zx) ?_))))
  refine zD (zA hN rfl) (zB (f _ _ (rounds_any fun _ f => zF fun _ j => zF fun _ k => zH (zG (zA hN rfl) (zG (zA hN rfl) (op_len_rd Try.underlying22 (zA hN rfl) (show RdC o e (e + 1) 1 (.slice (some ⟨e, 0, none⟩) (bl.length + 3) (bl.length + 3)) (bl.length + 3) (((bl ++ [229, 0, 0]).map u8v)) from RdC.ofRowAll (c := (bl.length + 3)) d (by simp) zx (by unfold maxLen; omega)) (op_lss (zA hN rfl) (zA hN rfl) (fun l => ?_) (fun l => ?_))))))))
  ·
   refine zB (k _ _ (wp_cond_true (zA hN rfl) (wp_skip (j _ _ (zF fun _ j => wp_block (zH (zG (zA hN rfl) (zG (zA hN rfl) (op_index_row (i := ((bl.length) + 1)) slt22 (zA hN rfl) (zA hN rfl) zx zx (op_store_row (v := (Value.int .u8 229)) size5 (zA hN rfl) rfl rfl rfl d (by first | (simp; done) | (simp; omega)) ?_))))))))))
   intro h d o
   have := o.size
   have hb := below_step1 hb o hb.size zx
   have d : Bx h e 5 (((bl ++ [229, 229, 0]).map u8v)) := by exact (congrArg (Bx _ _ _) (set_tail bl [229, 0, 0] 1 229)).mp d
   refine zB (j _ _ (zH (zG (zA hN rfl) (op_add (zA hN rfl) rfl (add64 zx) ?_))))
   refine zD (zA hN rfl) (zB (f _ _ (rounds_any fun _ f => zF fun _ j => zF fun _ k => zH (zG (zA hN rfl) (zG (zA hN rfl) (op_len_rd Try.underlying22 (zA hN rfl) (show RdC h e (e + 1) 1 (.slice (some ⟨e, 0, none⟩) (bl.length + 3) (bl.length + 3)) (bl.length + 3) (((bl ++ [229, 229, 0]).map u8v)) from RdC.ofRowAll (c := (bl.length + 3)) d (by simp) zx (by unfold maxLen; omega)) (op_lss (zA hN rfl) (zA hN rfl) (fun l => ?_) (fun l => ?_))))))))
   ·
    refine zB (k _ _ (wp_cond_true (zA hN rfl) (wp_skip (j _ _ (zF fun _ j => wp_block (zH (zG (zA hN rfl) (zG (zA hN rfl) (op_index_row (i := (((bl.length) + 1) + 1)) slt22 (zA hN rfl) (zA hN rfl) zx zx (op_store_row (v := (Value.int .u8 229)) size5 (zA hN rfl) rfl rfl rfl d (by first | (simp; done) | (simp; omega)) ?_))))))))))
    intro h d o
    have := o.size
    have hb := below_step1 hb o hb.size zx
    have d : Bx h e 5 (((bl ++ [229, 229, 229]).map u8v)) := by exact (congrArg (Bx _ _ _) (set_tail bl [229, 229, 0] 2 229)).mp d
    refine zB (j _ _ (zH (zG (zA hN rfl) (op_add (zA hN rfl) rfl (add64 zx) ?_))))
    refine zD (zA hN rfl) (zB (f _ _ (rounds_any fun _ f => zF fun _ j => zF fun _ k => zH (zG (zA hN rfl) (zG (zA hN rfl) (op_len_rd Try.underlying22 (zA hN rfl) (show RdC h e (e + 1) 1 (.slice (some ⟨e, 0, none⟩) (bl.length + 3) (bl.length + 3)) (bl.length + 3) (((bl ++ [229, 229, 229]).map u8v)) from RdC.ofRowAll (c := (bl.length + 3)) d (by simp) zx (by unfold maxLen; omega)) (op_lss (zA hN rfl) (zA hN rfl) (fun l => ?_) (fun l => ?_))))))))
    ·
     exfalso; omega
    refine zB (k _ _ (wp_cond_false (zA hN rfl) (wp_exit (then_exit (then_exit (blk_hit (a _ _ (zF fun _ a => zH (zG (zA hN rfl) (zG (zC hN rfl b) ?_))))))))))
    have hv' := hv.keep0 (zQ hb)
    refine op_len_rd Try.underlying22 (zA hN rfl) hv' (op_slice_row (m := bl.length) slt22 (zA hN rfl) (zA hN rfl) zx zx (zD (zA hN rfl) (zB (a _ _ (wp_ret (ret1 rfl hd (zA hN rfl) ⟨_, rfl, ?_⟩))))))
    exact ⟨hb, _, rfl, by omega, by have := d.lt; omega, d⟩
   exfalso; omega
  exfalso; omega
 exfalso; omega

theorem Kept_ret (tl bl : List UInt8) (g : Nat) (v : Value) (w : World) (htl : tl.length ≤ 140000000000000) (hl : bl.length ≤ 140000000000000) (hg : Bx w g 5 ((tl ++ [229, 229, 229]).map u8v)) (hv : RdC w 0 w.heap.size 1 v bl.length (bl.map u8v)) : Ret Try.prog 22 #[(.slice (some ⟨g, 0, none⟩) tl.length (tl.length + 3)), v] w (fun v' w' => Below w.heap.size w w' ∧ v' = .bool (decide (tl = bl))) := by
 have hg_lt := hg.lt
 have hlen : (tl ++ [229, 229, 229]).length = tl.length + 3 := by simp
 have hb := Below.refl w.heap.size w
 refine enter (N := 38) Try.func22 rfl rfl (by simp) fun a hN hd hA => ?_
 have d : a.tmps.getD 0 undef = (.slice (some ⟨g, 0, none⟩) tl.length (tl.length + 3)) := hA 0 (by simp)
 have e : a.tmps.getD 1 undef = v := hA 1 (by simp)
 clear hA
 refine zF fun _ a => zH (zD rfl (zB (a _ _ (zF fun _ a => zH (zG (zC hN rfl d) (zG (zC hN rfl d) ?_))))))
 refine op_cap (c := (tl.length + 3)) Try.underlying22 (.inr ⟨_, _, (zA hN rfl)⟩) (op_slice_row (m := (tl.length + 3)) slt22 (zA hN rfl) (zA hN rfl) zx zx (zD (zA hN rfl) (zB (a _ _ (zF fun _ a => zF fun _ f => zH (zG (zC hN rfl d) (op_str_of (bl := tl) Try.underlying22 Try.underlying5 Try.underlying9 (zA hN rfl) (show RdC w g (g + 1) 1 (.slice (some ⟨g, 0, none⟩) tl.length (tl.length + 3)) tl.length ((tl.map u8v)) from by simpa using (RdC.ofRow (sz := 1) (m := tl.length) (c := (tl.length + 3)) hg (by simp) zx (by unfold maxLen; omega))) (zG (zC hN rfl e) ?_))))))))
 have hv' := hv.keep0 (zQ hb)
 refine op_str_of (bl := bl) Try.underlying22 Try.underlying5 Try.underlying9 (zA hN rfl) hv' (op_sneq (zA hN rfl) (zA hN rfl) (fun d => ?_) (fun d => ?_))
 ·
  refine zG (zA hN rfl) (zR (j := 5) (dj := 16) (b := false) rfl rfl rfl (zA hN rfl) rfl rfl (zR (j := 5) (dj := 16) (b := false) rfl rfl rfl (zA hN rfl) rfl rfl (zR (j := 5) (dj := 16) (b := false) rfl rfl rfl (zA hN rfl) rfl rfl (zR (j := 5) (dj := 16) (b := false) rfl rfl rfl (zA hN rfl) rfl rfl ?_))))
  refine zR (j := 5) (dj := 16) (b := false) rfl rfl rfl (zA hN rfl) rfl rfl (zR (j := 5) (dj := 16) (b := false) rfl rfl rfl (zA hN rfl) rfl rfl (zc (zA hN rfl) rfl (zB (f _ _ (wp_cond_true (zA hN rfl) (zF fun _ f => zH (zD rfl (zB (f _ _ (wp_ret (zO ( (ret1 rfl hd (zA hN rfl) ⟨_, rfl, ?_⟩)))))))))))))
  exact ⟨hb, congrArg Value.bool (by simp [*])⟩
 refine zG (zA hN rfl) (zS (j := 5) (dj := 16) (b := false) rfl rfl rfl (zA hN rfl) (zG (zA hN rfl) ?_))
 refine zS (j := 5) (dj := 16) (b := false) rfl rfl rfl (zA hN rfl) (op_len_rd Try.underlying22 (zA hN rfl) (show RdC w g (g + 1) 1 (.slice (some ⟨g, 0, none⟩) (tl.length + 3) (tl.length + 3)) (tl.length + 3) (((tl ++ [229, 229, 229]).map u8v)) from RdC.ofRowAll (c := (tl.length + 3)) hg (by simp) zx (by unfold maxLen; omega)) (zS (j := 5) (dj := 16) (b := false) rfl rfl rfl (zA hN rfl) (zG (zC hN rfl e) (zS (j := 5) (dj := 16) (b := false) rfl rfl rfl (zA hN rfl) (op_len_rd Try.underlying22 (zA hN rfl) hv' (zS (j := 5) (dj := 16) (b := false) rfl rfl rfl (zA hN rfl) (op_add (zA hN rfl) rfl (add64 zx) (zS (j := 5) (dj := 16) (b := false) rfl rfl rfl (zA hN rfl) (op_lss (zA hN rfl) (zA hN rfl) (fun h => ?_) (fun h => ?_))))))))))
 ·
  exfalso; have := congrArg List.length d; omega
 refine zd (zA hN rfl) (zA hN rfl) (zB (f _ _ (wp_cond_false (zA hN rfl) (wp_skip (a _ _ (zF fun _ a => zF fun _ f => zH (zG (zC hN rfl e) (op_len_rd Try.underlying22 (zA hN rfl) hv' (zD (zA hN rfl) (zB (f _ _ (wp_block ?_))))))))))))
 refine wp_loop_rounds 4 (rounds_any fun _ f => zF fun _ k => zF fun _ h => zH (zG (zA hN rfl) (zG (zC hN rfl e) (op_len_rd Try.underlying22 (zA hN rfl) hv' (op_add (zA hN rfl) rfl (add64 zx) (op_lss (zA hN rfl) (zA hN rfl) (fun l => ?_) (fun l => ?_)))))))
 ·
  refine zB (h _ _ (wp_cond_true (zA hN rfl) (wp_skip (k _ _ (zF fun _ k => wp_block (zF fun _ h => zH ?_))))))
  have n := congrArg List.length d
  refine zG (zA hN rfl) (zG (zA hN rfl) (zh slt22 (zA hN rfl) (show RdC w g (g + 1) 1 (.slice (some ⟨g, 0, none⟩) (tl.length + 3) (tl.length + 3)) (tl.length + 3) (((tl ++ [229, 229, 229]).map u8v)) from RdC.ofRowAll (c := (tl.length + 3)) hg (by simp) zx (by unfold maxLen; omega)) (zA hN rfl) zx zx ?_))
  intro p t s r o
  refine zN (v := (Value.int .u8 (((tl ++ [229, 229, 229]).getD (bl.length) 0).toNat : Int))) one5 (zA hN rfl) (by have := o 0 (.int .u8 (((tl ++ [229, 229, 229]).getD (bl.length) 0).toNat : Int)) zz (el_u8 (i := (bl.length)) zx zx); simpa using this) (op_neq (zA hN rfl) rfl (fun p => ?_) (fun p => ?_))
  ·
   exfalso; subst d; exact p (congrArg (fun q : UInt8 => ((q.toNat : Nat) : Int)) (getD_tail tl [229, 229, 229] 0))
  refine zB (h _ _ (wp_cond_false (zA hN rfl) (wp_skip (k _ _ (zH ?_)))))
  have n := congrArg List.length d
  refine zG (zA hN rfl) (op_add (zA hN rfl) rfl (add64 zx) (zD (zA hN rfl) ?_))
  refine zB (f _ _ (rounds_any fun _ f => zF fun _ k => zF fun _ h => zH (zG (zA hN rfl) (zG (zC hN rfl e) (op_len_rd Try.underlying22 (zA hN rfl) hv' (op_add (zA hN rfl) rfl (add64 zx) (op_lss (zA hN rfl) (zA hN rfl) (fun l => ?_) (fun l => ?_))))))))
  ·
   refine zB (h _ _ (wp_cond_true (zA hN rfl) (wp_skip (k _ _ (zF fun _ k => wp_block (zF fun _ h => zH ?_))))))
   have n := congrArg List.length d
   refine zG (zA hN rfl) (zG (zA hN rfl) (zh slt22 (zA hN rfl) (show RdC w g (g + 1) 1 (.slice (some ⟨g, 0, none⟩) (tl.length + 3) (tl.length + 3)) (tl.length + 3) (((tl ++ [229, 229, 229]).map u8v)) from RdC.ofRowAll (c := (tl.length + 3)) hg (by simp) zx (by unfold maxLen; omega)) (zA hN rfl) zx zx ?_))
   intro s r t u o
   refine zN (v := (Value.int .u8 (((tl ++ [229, 229, 229]).getD ((bl.length) + 1) 0).toNat : Int))) one5 (zA hN rfl) (by have := o 0 (.int .u8 (((tl ++ [229, 229, 229]).getD ((bl.length) + 1) 0).toNat : Int)) zz (el_u8 (i := ((bl.length) + 1)) zx zx); simpa using this) (op_neq (zA hN rfl) rfl (fun p => ?_) (fun p => ?_))
   ·
    exfalso; subst d; exact p (congrArg (fun q : UInt8 => ((q.toNat : Nat) : Int)) (getD_tail tl [229, 229, 229] 1))
   refine zB (h _ _ (wp_cond_false (zA hN rfl) (wp_skip (k _ _ (zH ?_)))))
   have n := congrArg List.length d
   refine zG (zA hN rfl) (op_add (zA hN rfl) rfl (add64 zx) (zD (zA hN rfl) ?_))
   refine zB (f _ _ (rounds_any fun _ f => zF fun _ k => zF fun _ h => zH (zG (zA hN rfl) (zG (zC hN rfl e) (op_len_rd Try.underlying22 (zA hN rfl) hv' (op_add (zA hN rfl) rfl (add64 zx) (op_lss (zA hN rfl) (zA hN rfl) (fun l => ?_) (fun l => ?_))))))))
   ·
    refine zB (h _ _ (wp_cond_true (zA hN rfl) (wp_skip (k _ _ (zF fun _ k => wp_block (zF fun _ h => zH ?_))))))
    have n := congrArg List.length d
    refine zG (zA hN rfl) (zG (zA hN rfl) (zh slt22 (zA hN rfl) (show RdC w g (g + 1) 1 (.slice (some ⟨g, 0, none⟩) (tl.length + 3) (tl.length + 3)) (tl.length + 3) (((tl ++ [229, 229, 229]).map u8v)) from RdC.ofRowAll (c := (tl.length + 3)) hg (by simp) zx (by unfold maxLen; omega)) (zA hN rfl) zx zx ?_))
    intro t s r u o
    refine zN (v := (Value.int .u8 (((tl ++ [229, 229, 229]).getD (((bl.length) + 1) + 1) 0).toNat : Int))) one5 (zA hN rfl) (by have := o 0 (.int .u8 (((tl ++ [229, 229, 229]).getD (((bl.length) + 1) + 1) 0).toNat : Int)) zz (el_u8 (i := (((bl.length) + 1) + 1)) zx zx); simpa using this) (op_neq (zA hN rfl) rfl (fun p => ?_) (fun p => ?_))
    ·
     exfalso; subst d; exact p (congrArg (fun q : UInt8 => ((q.toNat : Nat) : Int)) (getD_tail tl [229, 229, 229] 2))
    refine zB (h _ _ (wp_cond_false (zA hN rfl) (wp_skip (k _ _ (zH ?_)))))
    have n := congrArg List.length d
    refine zG (zA hN rfl) (op_add (zA hN rfl) rfl (add64 zx) (zD (zA hN rfl) ?_))
    refine zB (f _ _ (rounds_any fun _ f => zF fun _ k => zF fun _ h => zH (zG (zA hN rfl) (zG (zC hN rfl e) (op_len_rd Try.underlying22 (zA hN rfl) hv' (op_add (zA hN rfl) rfl (add64 zx) (op_lss (zA hN rfl) (zA hN rfl) (fun l => ?_) (fun l => ?_))))))))
    ·
     exfalso; omega
    refine zB (h _ _ (wp_cond_false (zA hN rfl) (wp_exit (then_exit (then_exit (blk_hit (a _ _ (zF fun _ a => zH (zD rfl (zB (a _ _ (wp_ret (ret1 rfl hd (zA hN rfl) ⟨_, rfl, ?_⟩)))))))))))))
    exact ⟨hb, congrArg Value.bool (by simp [*])⟩
   exfalso; omega
  exfalso; omega
 exfalso; omega

theorem Spoil_ret (v : Value) (n base : Nat) (cs : List Value) (w : World) (O : Own w base 5 1 v n cs) : Ret Try.prog 23 #[v] w (fun v' w' => w.grownBy w' v.ownBlock ∧ v' = .tuple #[]) := by
 have hb := grown_refl w v.ownBlock
 refine enter (N := 17) Try.func23 rfl rfl (by simp) fun a hN hd hA => ?_
 have b : a.tmps.getD 0 undef = v := hA 0 (by simp)
 clear hA
 refine zF fun _ a => zH (zG (zC hN rfl b) (zG (zC hN rfl b) ?_))
 obtain ⟨b, f, e, d⟩ := O.capOf
 have f : b ≤ 9223372036854775807 := e
 refine op_cap (c := b) Try.underlying22 (by rw [(zA hN rfl)]; exact d) (op_slice_cap slt22 (zA hN rfl) O d (zA hN rfl) ?_)
 intro d g e f
 refine zD (zA hN rfl) (zB (a _ _ (zF fun _ a => zH (zD rfl (zB (a _ _ (wp_block (loop_m (fun mz_ az_ w' => ∃ (i : Nat) (g : List Value), mz_ = b - i ∧ (Sl az_ 2 d) ∧ (Sl az_ 3 (.int .i64 ((i : Nat) : Int))) ∧ (i ≤ b) ∧ (w.grownBy w' v.ownBlock) ∧ (w.heap.size ≤ w'.heap.size) ∧ (Own w' base 5 1 d b (g))) _ hN hd ⟨0, _, rfl, (zU hN rfl), (zU hN rfl), Nat.zero_le _, hb, (Nat.le_refl _), e⟩ ?_))))))))
 rintro _ m o e l ⟨i, g, rfl, h, k, hi, hb, p, j⟩
 have := hb.size
 refine zF fun _ a => zF fun _ m => zH (zG (zC e rfl k) (zG (zC e rfl h) (op_len_rd Try.underlying22 (zA e rfl) j.rdw (op_lss (zA e rfl) (zA e rfl) (fun o => ?_) (fun o => ?_)))))
 ·
  refine zB (m _ _ (wp_cond_true (zA e rfl) (wp_skip (a _ _ (zF fun _ a => wp_block (zH (zG (zC e rfl h) (zG (zC e rfl k) (op_index_own (i := i) slt22 (zA e rfl) j (zA e rfl) zx zx ?_)))))))))
  intro p q r o
  have o : AtV d (i) p q := by simpa using o
  have p := j
  refine op_store_own (vs := [(.int .u8 90)]) size5 (zA e rfl) rfl rfl rfl rfl p o (by have := p.1; simp; omega) ?_
  intro p j o
  have := o.size
  have hb := grow_stepX hb o (f.trans rfl)
  have j : Own p base 5 1 d b ((g.take (i) ++ [(.int .u8 90)] ++ g.drop (i + 1))) := by simpa using j
  refine zB (a _ _ (zH (zG (zC e rfl k) (op_add (zA e rfl) rfl (add64 zx) (zD (zA e rfl) (zB ?_))))))
  -- round 11T
  exact zg _ e l ⟨i + 1, _, rfl, (zL e rfl h), (zU e rfl).trans (congrArg (Value.int .i64) zx), zx, hb, zx, j⟩ zx
 refine zB (m _ _ (wp_cond_false (zA e rfl) (wp_exit (then_exit (then_exit (blk_hit (end_ret (ret0 rfl l  ⟨_, rfl, ?_⟩))))))))
 exact ⟨hb, rfl⟩

theorem same14_ret {base k m : Nat} {R : List (Int × By)} {F : Nat → Prop} {L : List Int} {X : List By} {vl vx : Value} {z : Int} {bl bx : Nat} {w : World} (hbase : base ≤ w.heap.size) (hH : HeapR w base k R m F) (hS : SameOk R L X) (hm : m ≤ 1000000) (hl : Own w bl 57 1 vl L.length (L.map (Value.int .u64))) (hx : Own w bx 9 1 vx X.length (X.map sv)) : Ret Try.prog 34 #[(ptr k 0), vl, vx, (.int .u64 z)] w (fun v' w' => Gr w w' F ∧ v' = .bool true ∧ ∃ F', HeapR w' base k R m F' ∧ NewF w.heap.size F F') := by
 have a := hH
 have hrl := hS.rlen hH.nodup
 have hxl := hS.len
 have hml := hH.len
 have hb := Gr.refl w F
 refine enter (N := 113) Try.func34 rfl rfl (by simp) fun c hN hd hA => ?_
 have d : c.tmps.getD 0 undef = (ptr k 0) := hA 0 (by simp)
 have e : c.tmps.getD 1 undef = vl := hA 1 (by simp)
 have f : c.tmps.getD 2 undef = vx := hA 2 (by simp)
 have g : c.tmps.getD 3 undef = (.int .u64 z) := hA 3 (by simp)
 clear hA
 refine zF fun _ c => zH ?_
 refine zD rfl (zB (c _ _ (zF fun _ c => zH (zG (zC hN rfl d) (ze (vs := [(ptr k 0)]) ok35 ⟨(zA hN rfl), trivial⟩ (hIDs_ret hH zx hS.wfR hm) ?_)))))
 rintro n o ⟨l, h⟩
 have l := zQ l
 obtain ⟨hb, _⟩ := yG hb l
 have hH := hH.kz l
 have hl := hl.keep0 l
 have hx := hx.keep0 l
 rw [hS.sort a.nodup] at h
 have h := h.mono (base' := w.heap.size) zx
 refine zD (zA hN rfl) (zB (c _ _ (zF fun _ c => zF fun _ a => zH (zG (zA hN rfl) (op_len_rd Try.underlying62 (zA hN rfl) h.rdw (zG (zC hN rfl e) (op_len_rd Try.underlying62 (zA hN rfl) hl.rdw (op_neq (zA hN rfl) (zA hN rfl) (fun l => ?_) (fun l => ?_)))))))))
 ·
  exfalso; omega
 refine zG (zA hN rfl) (zS (j := 5) (dj := 23) (b := false) rfl rfl rfl (zA hN rfl) (zG (zC hN rfl d) (zS (j := 5) (dj := 23) (b := false) rfl rfl rfl (zA hN rfl) (ze (vs := [(ptr k 0)]) ok31 ⟨(zA hN rfl), trivial⟩ (hLen_ret hH zx) ?_))))
 rintro _ o ⟨l, rfl⟩
 have l := zQ l
 obtain ⟨hb, _⟩ := yG hb l
 have hH := hH.kz l
 have hl := hl.keep0 l
 have hx := hx.keep0 l
 have h := h.keep0 l
 refine zS (j := 5) (dj := 23) (b := false) rfl rfl rfl (zA hN rfl) (zG (zC hN rfl e) (zS (j := 5) (dj := 23) (b := false) rfl rfl rfl (zA hN rfl) (op_len_rd Try.underlying62 (zA hN rfl) hl.rdw (zS (j := 5) (dj := 23) (b := false) rfl rfl rfl (zA hN rfl) (op_neq (zA hN rfl) (zA hN rfl) (fun l => ?_) (fun l => ?_))))))
 ·
  exfalso; omega
 refine zd (zA hN rfl) (zA hN rfl) (zG (zA hN rfl) (zS (j := 12) (dj := 30) (b := false) rfl rfl rfl (zA hN rfl) (zG (zC hN rfl d) (zS (j := 12) (dj := 30) (b := false) rfl rfl rfl (zA hN rfl) (ze (vs := [(ptr k 0)]) ok32 ⟨(zA hN rfl), trivial⟩ (hPages_ret hH zx) ?_)))))
 rintro _ o ⟨l, p, rfl, r⟩
 have l := zQ l
 obtain ⟨hb, _⟩ := yG hb l
 have hH := hH.kz l
 have hl := hl.keep0 l
 have hx := hx.keep0 l
 have h := h.keep0 l
 refine zS (j := 12) (dj := 30) (b := false) rfl rfl rfl (zA hN rfl) (zG (zC hN rfl e) (zS (j := 12) (dj := 30) (b := false) rfl rfl rfl (zA hN rfl) (op_len_rd Try.underlying62 (zA hN rfl) hl.rdw (zS (j := 12) (dj := 30) (b := false) rfl rfl rfl (zA hN rfl) (op_add (zA hN rfl) rfl (add64 zx) (zS (j := 12) (dj := 30) (b := false) rfl rfl rfl (zA hN rfl) (op_gtr (zA hN rfl) (zA hN rfl) (fun l => ?_) (fun l => ?_))))))))
 ·
  exfalso; omega
 refine zd (zA hN rfl) (zA hN rfl) (zG (zA hN rfl) (zS (j := 20) (dj := 38) (b := false) rfl rfl rfl (zA hN rfl) (zG (zC hN rfl e) (zS (j := 20) (dj := 38) (b := false) rfl rfl rfl (zA hN rfl) (op_len_rd Try.underlying62 (zA hN rfl) hl.rdw (zS (j := 20) (dj := 38) (b := false) rfl rfl rfl (zA hN rfl) (op_eql (zA hN rfl) rfl (fun l => ?_) (fun l => ?_))))))))
 ·
  refine zS (j := 20) (dj := 38) (b := false) rfl rfl rfl (zA hN rfl) (zG (zA hN rfl) (zS (j := 24) (dj := 42) (b := true) rfl rfl rfl (zA hN rfl) (zG (zC hN rfl d) (zS (j := 24) (dj := 42) (b := true) rfl rfl rfl (zA hN rfl) (ze (vs := [(ptr k 0)]) ok32 ⟨(zA hN rfl), trivial⟩ (hPages_ret hH zx) ?_)))))
  rintro _ p ⟨l, s, rfl, r⟩
  have l := zQ l
  obtain ⟨hb, _⟩ := yG hb l
  have hH := hH.kz l
  have hl := hl.keep0 l
  have hx := hx.keep0 l
  have h := h.keep0 l
  refine zS (j := 24) (dj := 42) (b := true) rfl rfl rfl (zA hN rfl) (op_neq (zA hN rfl) rfl (fun l => ?_) (fun l => ?_))
  ·
   exfalso; omega
  refine zS (j := 20) (dj := 38) (b := false) rfl rfl rfl (zA hN rfl) (zc (zA hN rfl) (zA hN rfl) (zd (zA hN rfl) (zA hN rfl) (zB (a _ _ (wp_cond_false (zA hN rfl) (wp_skip (c _ _ (zF fun _ c => ?_))))))))
  refine zH (zD rfl (zB (c _ _ (zF fun _ c => zF fun _ a => zH (zD rfl (zB (a _ _ (wp_block (loop_m (fun mz_ az_ w' => ∃ (i : Nat) (FQ : Nat → Prop), mz_ = L.length - i ∧ (Sl az_ 0 (ptr k 0)) ∧ (Sl az_ 1 vl) ∧ (Sl az_ 2 vx) ∧ (Sl az_ 3 (.int .u64 z)) ∧ (Sl az_ 9 n) ∧ (Sl az_ 11 (.int .i64 ((i : Nat) : Int))) ∧ (Sl az_ 10 (.bool (decide (z ∈ L.take i)))) ∧ (i ≤ L.length) ∧ (NewF w.heap.size F FQ) ∧ (Gr w w' F) ∧ (p.heap.size ≤ w'.heap.size) ∧ (Own w' bl 57 1 vl L.length (L.map (Value.int .u64))) ∧ (Own w' bx 9 1 vx X.length (X.map sv)) ∧ (Own w' w.heap.size 57 1 n L.length (L.map (Value.int .u64))) ∧ (HeapR w' base k R m FQ)) _ hN hd ⟨0, F, rfl, (zL hN rfl d), (zL hN rfl e), (zL hN rfl f), (zL hN rfl g), (zU hN rfl), (zU hN rfl), (zU hN rfl).trans rfl, (Nat.zero_le _), (NewF.refl _ _), hb, (Nat.le_refl _), hl, hx, h, hH⟩ ?_)))))))))
  rintro _ C D l s ⟨i, FQ, rfl, t, r, B, x, A, p, u, hi, hNQ, hb, E, hl, hx, h, hQ⟩
  have := hb.size
  refine zF fun _ a => zF fun _ C => zH (zG (zC l rfl p) (zG (zC l rfl r) (op_len_rd Try.underlying62 (zA l rfl) hl.rdw (op_lss (zA l rfl) (zA l rfl) (fun D => ?_) (fun D => ?_)))))
  ·
   refine zB (C _ _ (wp_cond_true (zA l rfl) (wp_skip (a _ _ (zF fun _ a => wp_block (zF fun _ C => zH (zG (zC l rfl t) (zG (zC l rfl r) (zG (zC l rfl p) (zh slt62 (zA l rfl) hl.rdw (zA l rfl) zx zx ?_))))))))))
   intro I H J G E
   refine zN (v := (Value.int .u64 (L.getD i 0))) one57 (zA l rfl) (by have := E 0 (.int .u64 (L.getD i 0)) zz (el_i (.int .u64) (i := i) zx zx); simpa using this) (ze (vs := [(ptr k 0), (.int .u64 (L.getD i 0))]) ok30 ⟨(zA l rfl), ⟨(zA l rfl), trivial⟩⟩ (hGet_hit (id := (L.getD i 0)) (b := (X.getD i [])) hQ zx (hS.at_ i zx)) ?_)
   rintro _ O ⟨H, M, I, rfl, E, G, K, J⟩
   have O := hl.lt
   have O := hx.lt
   have O := h.lt
   have O := E.mono (base' := w.heap.size) zx
   have hQ_old := hQ
   have := H.size
   have hl := hl.keepG H (hQ_old.notOwn hl zz zz zz)
   have hx := hx.keepG H (hQ_old.notOwn hx zz zz zz)
   have h := h.keepG H (hQ_old.notOwn h zz zz zz)
   have hb := hb.stepF H (fun y hy P => (hNQ y P).resolve_right zx)
   have E := O
   have H : NewF w.heap.size F I := NewF.trans hNQ K zx
   refine zG (zA l rfl) (zW (zA l rfl) rfl (zW (zA l rfl) rfl (zD (zA l rfl) (zD (zA l rfl) (zB (C _ _ (zF fun _ C => zF fun _ K => reg_still mixed zy ?_)))))))
   intro Q O
   obtain ⟨hb, _⟩ := yG hb O
   have hl := hl.keep0 O
   have hx := hx.keep0 O
   have h := h.keep0 O
   have E := E.keep0 O
   have G := G.kz O
   refine st_step rfl (fun _ P => zG (zC l rfl A) P) (st_step rfl (fun _ P => zG (zC l rfl p) P) (st_index_rd slt62 (zA l rfl) h.rdw (zA l rfl) zx zx ?_))
   intro Q U S T O
   refine st_step rfl (fun _ P => zN (v := (Value.int .u64 (L.getD i 0))) one57 (zA l rfl) (by have := O 0 (.int .u64 (L.getD i 0)) zz (el_i (.int .u64) (i := i) zx zx); simpa using this) P) (st_step rfl (fun _ P => zG (zC l rfl r) P) (st_step rfl (fun _ P => zG (zC l rfl p) P) (st_index_rd slt62 (zA l rfl) hl.rdw (zA l rfl) zx zx ?_)))
   intro U T S Q O
   refine st_step rfl (fun _ P => zN (v := (Value.int .u64 (L.getD i 0))) one57 (zA l rfl) (by have := O 0 (.int .u64 (L.getD i 0)) zz (el_i (.int .u64) (i := i) zx zx); simpa using this) P) ?_
   by_cases O : (L.getD i 0) ≠ (L.getD i 0)
   ·
    exact absurd rfl O
   refine st_step rfl (fun _ P => op_cmp (b := false) (zA l rfl) (zA l rfl) (b_neq (decide_eq_false O)) P) (st_step rfl (fun _ P => zG (zA l rfl) P) (st_g_true (j := 9) (dj := 72) (b := false) rfl rfl rfl (zA l rfl) (st_step rfl (fun _ P => zG (zA l rfl) P) (st_g_true (j := 9) (dj := 72) (b := false) rfl rfl rfl (zA l rfl) (st_step rfl (fun _ P => op_bin (v := .bool false) (zA l rfl) rfl (by rw [binOp_neq]; rfl) P) (st_step rfl (fun _ P => zd (zA l rfl) (zA l rfl) P) (st_step rfl (fun _ P => zG (zA l rfl) P) ?_)))))))
   refine st_g_true (j := 13) (dj := 76) (b := false) rfl rfl rfl (zA l rfl) (st_step rfl (fun _ P => zG (zA l rfl) P) (st_g_true (j := 13) (dj := 76) (b := false) rfl rfl rfl (zA l rfl) (st_step rfl (fun _ P => op_str_of (bl := ((X.getD i []) : By)) Try.underlying22 Try.underlying5 Try.underlying9 (zA l rfl) E.rdw P) (st_g_true (j := 13) (dj := 76) (b := false) rfl rfl rfl (zA l rfl) (st_step rfl (fun _ P => zG (zC l rfl B) P) (st_g_true (j := 13) (dj := 76) (b := false) rfl rfl rfl (zA l rfl) (st_step rfl (fun _ P => zG (zC l rfl p) P) (st_g_true (j := 13) (dj := 76) (b := false) rfl rfl rfl (zA l rfl) (st_index_rd slt63 (zA l rfl) hx.rdw (zA l rfl) zx zx ?_)))))))))
   intro S U V T Q
   refine st_g_true (j := 13) (dj := 76) (b := false) rfl rfl rfl (zA l rfl) (st_step rfl (fun _ P => zN (v := (Value.string (bs (X.getD i [])))) one9 (zA l rfl) (by have := Q 0 (.string (bs (X.getD i []))) zz (el_sv (i := i) zx zx); simpa using this) P) (st_g_true (j := 13) (dj := 76) (b := false) rfl rfl rfl (zA l rfl) (st_step rfl (fun _ P => op_sneqb (b := (decide (((X.getD i []) : By) ≠ (X.getD i [])))) (zA l rfl) (zA l rfl) rfl P) (st_step rfl (fun _ P => zd (zA l rfl) (zA l rfl) P) (st_nil (K _ _ (wp_cond_split (zA l rfl) (fun S => ?_) (fun S => ?_))))))))
   ·
    have S := of_decide_eq_true S
    first | exact absurd rfl S | (exfalso; simp at S)
   have S := of_decide_eq_false S
   refine wp_skip (C _ _ (zF fun _ C => zH (zG (zA l rfl) (zj ok23 (Spoil_ret M _ _ _ _ E) ⟨(zA l rfl), trivial⟩ ?_))))
   rintro _ Q ⟨M, rfl⟩
   have := M.size
   have hl := hl.keepT E M zz
   have hx := hx.keepT E M zz
   have h := h.keepT E M zz
   have G := G.keepG (Gr.of M) J.symm
   have hb := hb.stepO E M zx
   refine zB (C _ _ (zH (zG (zC l rfl u) (zG (zA l rfl) ?_))))
   rcases Bool.eq_false_or_eq_true ((decide (z ∈ L.take i))) with E | E
   ·
    rw [E]
    refine zR (j := 1) (dj := 88) (b := false) rfl rfl rfl (zA l rfl) rfl rfl (zR (j := 1) (dj := 88) (b := false) rfl rfl rfl (zA l rfl) rfl rfl (zR (j := 1) (dj := 88) (b := false) rfl rfl rfl (zA l rfl) rfl rfl (zR (j := 1) (dj := 88) (b := false) rfl rfl rfl (zA l rfl) rfl rfl ?_)))
    refine zR (j := 1) (dj := 88) (b := false) rfl rfl rfl (zA l rfl) rfl rfl (zR (j := 1) (dj := 88) (b := false) rfl rfl rfl (zA l rfl) rfl rfl (zc (zA l rfl) rfl (zD (zA l rfl) (zB (a _ _ (zH (zG (zC l rfl p) (op_add (zA l rfl) rfl (add64 zx) (zD (zA l rfl) (zB ?_))))))))))
    -- round 22F 28F 36F 41T 45F 51T 71F 84F 88T
    exact zg _ l s ⟨(i + 1), I, rfl, (zL l rfl t), (zL l rfl r), (zL l rfl B), (zL l rfl x), (zL l rfl A), (zU l rfl).trans (congrArg (Value.int .i64) zx), (zU l rfl).trans (congrArg Value.bool (decide_eq_true ((memT zx).2 (.inl (of_decide_eq_true E)))).symm), zx, H, hb, zx, hl, hx, h, G⟩ zx
   rw [E]
   refine zS (j := 1) (dj := 88) (b := false) rfl rfl rfl (zA l rfl) (zG (zC l rfl r) (zS (j := 1) (dj := 88) (b := false) rfl rfl rfl (zA l rfl) (zG (zC l rfl p) (zS (j := 1) (dj := 88) (b := false) rfl rfl rfl (zA l rfl) (zh slt62 (zA l rfl) hl.rdw (zA l rfl) zx zx ?_)))))
   intro U Q M T J
   refine zS (j := 1) (dj := 88) (b := false) rfl rfl rfl (zA l rfl) (zN (v := (Value.int .u64 (L.getD i 0))) one57 (zA l rfl) (by have := J 0 (.int .u64 (L.getD i 0)) zz (el_i (.int .u64) (i := i) zx zx); simpa using this) (zS (j := 1) (dj := 88) (b := false) rfl rfl rfl (zA l rfl) (zG (zC l rfl x) (zS (j := 1) (dj := 88) (b := false) rfl rfl rfl (zA l rfl) (op_eql (zA l rfl) (zA l rfl) (fun M => ?_) (fun M => ?_))))))
   ·
    refine zd (zA l rfl) (zA l rfl) (zD (zA l rfl) (zB (a _ _ (zH (zG (zC l rfl p) (op_add (zA l rfl) rfl (add64 zx) (zD (zA l rfl) (zB ?_))))))))
    -- round 22F 28F 36F 41T 45F 51T 71F 84F 88F 94T
    exact zg _ l s ⟨(i + 1), I, rfl, (zL l rfl t), (zL l rfl r), (zL l rfl B), (zL l rfl x), (zL l rfl A), (zU l rfl).trans (congrArg (Value.int .i64) zx), (zU l rfl).trans (congrArg Value.bool (decide_eq_true ((memT zx).2 (.inr (by first | exact M | exact g94)))).symm), zx, H, hb, zx, hl, hx, h, G⟩ zx
   refine zd (zA l rfl) (zA l rfl) (zD (zA l rfl) (zB (a _ _ (zH (zG (zC l rfl p) (op_add (zA l rfl) rfl (add64 zx) (zD (zA l rfl) (zB ?_))))))))
   -- round 22F 28F 36F 41T 45F 51T 71F 84F 88F 94F
   exact zg _ l s ⟨(i + 1), I, rfl, (zL l rfl t), (zL l rfl r), (zL l rfl B), (zL l rfl x), (zL l rfl A), (zU l rfl).trans (congrArg (Value.int .i64) zx), (zU l rfl).trans (congrArg Value.bool (decide_eq_false (fun q => ((memT zx).1 q).elim (of_decide_eq_false E) (by first | exact M | exact g94))).symm), zx, H, hb, zx, hl, hx, h, G⟩ zx
  refine zB (C _ _ (wp_cond_false (zA l rfl) (wp_exit (then_exit (then_exit (blk_hit (c _ _ (zF fun _ c => zH ?_))))))))
  have htk : L.take i = L := List.take_of_length_le zx
  refine zG (zC l rfl t) (zG (zC l rfl x) ?_)
  rcases Bool.eq_false_or_eq_true (decide (z ∈ L)) with p | p
  ·
   have r := of_decide_eq_true p
   obtain ⟨t, x⟩ := hS.hit r
   refine ze (vs := [(ptr k 0), (.int .u64 z)]) ok30 ⟨(zA l rfl), ⟨(zA l rfl), trivial⟩⟩ (hGet_hit (id := z) (b := t) hQ zx x) ?_
   rintro _ J ⟨A, Q, G, rfl, T, H, B, I⟩
   have I := hl.lt
   have I := hx.lt
   have I := h.lt
   have hQ_old := hQ
   have := A.size
   have hl := hl.keepG A (hQ_old.notOwn hl zz zz zz)
   have hb := hb.stepF A (fun y hy P => (hNQ y P).resolve_right zx)
   have A : NewF w.heap.size F G := NewF.trans hNQ B zx
   refine zG (zA l rfl) ?_
   refine zW (zA l rfl) rfl (zW (zA l rfl) rfl (zD (zA l rfl) (zD (zA l rfl) (zB (c _ _ (zF fun _ c => zH (zG (zA l rfl) (op_bin (v := .bool true) (zA l rfl) rfl (by rw [binOp_eql]; rfl) (zG (zC l rfl u) (op_eqb Try.underlying4 (zA l rfl) (zA l rfl) ?_))))))))))
   rcases Bool.eq_false_or_eq_true ((true == (decide (z ∈ L.take i)))) with B | B
   ·
    rw [B]
    refine zG (zA l rfl) (zS (j := 4) (dj := 106) (b := true) rfl rfl rfl (zA l rfl) (zG (zC l rfl u) (zS (j := 4) (dj := 106) (b := true) rfl rfl rfl (zA l rfl) (zG (zA l rfl) ?_))))
    rcases Bool.eq_false_or_eq_true ((decide (z ∈ L.take i))) with G | G
    ·
     rw [G]
     refine zR (j := 6) (dj := 108) (b := false) rfl rfl rfl (zA l rfl) rfl rfl (zR (j := 6) (dj := 108) (b := false) rfl rfl rfl (zA l rfl) rfl rfl (zS (j := 4) (dj := 106) (b := true) rfl rfl rfl (zA l rfl) (zc (zA l rfl) rfl (zc (zA l rfl) (zA l rfl) (zD (zA l rfl) (zB (c _ _ (wp_ret (ret1 rfl s (zA l rfl) ⟨_, rfl, ?_⟩)))))))))
     exact ⟨hb, rfl, _, H, A⟩
    have r := of_decide_eq_true p
    rw [htk, decide_eq_true r] at G; exact absurd G zz
   have r := of_decide_eq_true p
   rw [htk, decide_eq_true r] at B; exact absurd B zz
  refine ze (vs := [(ptr k 0), (.int .u64 z)]) ok30 ⟨(zA l rfl), ⟨(zA l rfl), trivial⟩⟩ (hGet_miss (id := z) hQ zx (hS.miss (of_decide_eq_false p))) ?_
  rintro _ H ⟨A, rfl⟩
  have A := zQ A
  obtain ⟨hb, _⟩ := yG hb A
  have hl := hl.keep0 A
  have hQ := hQ.kz A
  refine zG (zA l rfl) ?_
  refine zW (zA l rfl) rfl (zW (zA l rfl) rfl (zD (zA l rfl) (zD (zA l rfl) (zB (c _ _ (zF fun _ c => zH (zG (zA l rfl) (op_bin (v := .bool false) (zA l rfl) rfl (by rw [binOp_eql]; rfl) (zG (zC l rfl u) (op_eqb Try.underlying4 (zA l rfl) (zA l rfl) ?_))))))))))
  rcases Bool.eq_false_or_eq_true ((false == (decide (z ∈ L.take i)))) with B | B
  ·
   rw [B]
   refine zG (zA l rfl) (zS (j := 4) (dj := 106) (b := true) rfl rfl rfl (zA l rfl) (zG (zC l rfl u) (zS (j := 4) (dj := 106) (b := true) rfl rfl rfl (zA l rfl) (zG (zA l rfl) ?_))))
   rcases Bool.eq_false_or_eq_true ((decide (z ∈ L.take i))) with G | G
   ·
    have r := of_decide_eq_false p
    rw [htk, decide_eq_false r] at G; exact absurd G zz
   rw [G]
   refine zS (j := 6) (dj := 108) (b := false) rfl rfl rfl (zA l rfl) (zG (zA l rfl) (zS (j := 6) (dj := 108) (b := false) rfl rfl rfl (zA l rfl) (op_bin (v := .bool true) (zA l rfl) rfl (by rw [binOp_eql]; rfl) (zS (j := 4) (dj := 106) (b := true) rfl rfl rfl (zA l rfl) (zd (zA l rfl) (zA l rfl) (zc (zA l rfl) (zA l rfl) (zD (zA l rfl) (zB (c _ _ (wp_ret (ret1 rfl s (zA l rfl) ⟨_, rfl, ?_⟩)))))))))))
   exact ⟨hb, rfl, _, hQ, hNQ⟩
  have r := of_decide_eq_false p
  rw [htk, decide_eq_false r] at B; exact absurd B zz
 refine zS (j := 20) (dj := 38) (b := false) rfl rfl rfl (zA hN rfl) (zG (zA hN rfl) (zR (j := 24) (dj := 42) (b := true) rfl rfl rfl (zA hN rfl) rfl rfl (zR (j := 24) (dj := 42) (b := true) rfl rfl rfl (zA hN rfl) rfl rfl (zR (j := 24) (dj := 42) (b := true) rfl rfl rfl (zA hN rfl) rfl rfl (zS (j := 20) (dj := 38) (b := false) rfl rfl rfl (zA hN rfl) (zd (zA hN rfl) rfl (zd (zA hN rfl) (zA hN rfl) (zB (a _ _ (wp_cond_false (zA hN rfl) (wp_skip (c _ _ (zF fun _ c => ?_)))))))))))))
 refine zH (zD rfl (zB (c _ _ (zF fun _ c => zF fun _ a => zH (zD rfl (zB (a _ _ (wp_block (loop_m (fun mz_ az_ w' => ∃ (i : Nat) (FQ : Nat → Prop), mz_ = L.length - i ∧ (Sl az_ 0 (ptr k 0)) ∧ (Sl az_ 1 vl) ∧ (Sl az_ 2 vx) ∧ (Sl az_ 3 (.int .u64 z)) ∧ (Sl az_ 9 n) ∧ (Sl az_ 11 (.int .i64 ((i : Nat) : Int))) ∧ (Sl az_ 10 (.bool (decide (z ∈ L.take i)))) ∧ (i ≤ L.length) ∧ (NewF w.heap.size F FQ) ∧ (Gr w w' F) ∧ (o.heap.size ≤ w'.heap.size) ∧ (Own w' bl 57 1 vl L.length (L.map (Value.int .u64))) ∧ (Own w' bx 9 1 vx X.length (X.map sv)) ∧ (Own w' w.heap.size 57 1 n L.length (L.map (Value.int .u64))) ∧ (HeapR w' base k R m FQ)) _ hN hd ⟨0, F, rfl, (zL hN rfl d), (zL hN rfl e), (zL hN rfl f), (zL hN rfl g), (zU hN rfl), (zU hN rfl), (zU hN rfl).trans rfl, (Nat.zero_le _), (NewF.refl _ _), hb, (Nat.le_refl _), hl, hx, h, hH⟩ ?_)))))))))
 rintro _ H I d l ⟨i, FQ, rfl, g, f, s, o, u, e, n, hi, hNQ, hb, A, hl, hx, h, hQ⟩
 have := hb.size
 refine zF fun _ a => zF fun _ C => zH (zG (zC d rfl e) (zG (zC d rfl f) (op_len_rd Try.underlying62 (zA d rfl) hl.rdw (op_lss (zA d rfl) (zA d rfl) (fun D => ?_) (fun D => ?_)))))
 ·
  refine zB (C _ _ (wp_cond_true (zA d rfl) (wp_skip (a _ _ (zF fun _ a => wp_block (zF fun _ C => zH (zG (zC d rfl g) (zG (zC d rfl f) (zG (zC d rfl e) (zh slt62 (zA d rfl) hl.rdw (zA d rfl) zx zx ?_))))))))))
  intro I H J D A
  refine zN (v := (Value.int .u64 (L.getD i 0))) one57 (zA d rfl) (by have := A 0 (.int .u64 (L.getD i 0)) zz (el_i (.int .u64) (i := i) zx zx); simpa using this) (ze (vs := [(ptr k 0), (.int .u64 (L.getD i 0))]) ok30 ⟨(zA d rfl), ⟨(zA d rfl), trivial⟩⟩ (hGet_hit (id := (L.getD i 0)) (b := (X.getD i [])) hQ zx (hS.at_ i zx)) ?_)
  rintro _ U ⟨H, T, I, rfl, A, D, Q, J⟩
  have U := hl.lt
  have U := hx.lt
  have U := h.lt
  have U := A.mono (base' := w.heap.size) zx
  have hQ_old := hQ
  have := H.size
  have hl := hl.keepG H (hQ_old.notOwn hl zz zz zz)
  have hx := hx.keepG H (hQ_old.notOwn hx zz zz zz)
  have h := h.keepG H (hQ_old.notOwn h zz zz zz)
  have hb := hb.stepF H (fun y hy P => (hNQ y P).resolve_right zx)
  have A := U
  have H : NewF w.heap.size F I := NewF.trans hNQ Q zx
  refine zG (zA d rfl) (zW (zA d rfl) rfl (zW (zA d rfl) rfl (zD (zA d rfl) (zD (zA d rfl) (zB (C _ _ (zF fun _ C => zF fun _ K => reg_still mixed zy ?_)))))))
  intro U Q
  obtain ⟨hb, _⟩ := yG hb Q
  have hl := hl.keep0 Q
  have hx := hx.keep0 Q
  have h := h.keep0 Q
  have A := A.keep0 Q
  have D := D.kz Q
  refine st_step rfl (fun _ P => zG (zC d rfl u) P) (st_step rfl (fun _ P => zG (zC d rfl e) P) (st_index_rd slt62 (zA d rfl) h.rdw (zA d rfl) zx zx ?_))
  intro V W Y U Q
  refine st_step rfl (fun _ P => zN (v := (Value.int .u64 (L.getD i 0))) one57 (zA d rfl) (by have := Q 0 (.int .u64 (L.getD i 0)) zz (el_i (.int .u64) (i := i) zx zx); simpa using this) P) (st_step rfl (fun _ P => zG (zC d rfl f) P) (st_step rfl (fun _ P => zG (zC d rfl e) P) (st_index_rd slt62 (zA d rfl) hl.rdw (zA d rfl) zx zx ?_)))
  intro U Y V W Q
  refine st_step rfl (fun _ P => zN (v := (Value.int .u64 (L.getD i 0))) one57 (zA d rfl) (by have := Q 0 (.int .u64 (L.getD i 0)) zz (el_i (.int .u64) (i := i) zx zx); simpa using this) P) ?_
  by_cases O : (L.getD i 0) ≠ (L.getD i 0)
  ·
   exact absurd rfl O
  refine st_step rfl (fun _ P => op_cmp (b := false) (zA d rfl) (zA d rfl) (b_neq (decide_eq_false O)) P) (st_step rfl (fun _ P => zG (zA d rfl) P) (st_g_true (j := 9) (dj := 72) (b := false) rfl rfl rfl (zA d rfl) (st_step rfl (fun _ P => zG (zA d rfl) P) (st_g_true (j := 9) (dj := 72) (b := false) rfl rfl rfl (zA d rfl) (st_step rfl (fun _ P => op_bin (v := .bool false) (zA d rfl) rfl (by rw [binOp_neq]; rfl) P) (st_step rfl (fun _ P => zd (zA d rfl) (zA d rfl) P) (st_step rfl (fun _ P => zG (zA d rfl) P) ?_)))))))
  refine st_g_true (j := 13) (dj := 76) (b := false) rfl rfl rfl (zA d rfl) (st_step rfl (fun _ P => zG (zA d rfl) P) (st_g_true (j := 13) (dj := 76) (b := false) rfl rfl rfl (zA d rfl) (st_step rfl (fun _ P => op_str_of (bl := ((X.getD i []) : By)) Try.underlying22 Try.underlying5 Try.underlying9 (zA d rfl) A.rdw P) (st_g_true (j := 13) (dj := 76) (b := false) rfl rfl rfl (zA d rfl) (st_step rfl (fun _ P => zG (zC d rfl s) P) (st_g_true (j := 13) (dj := 76) (b := false) rfl rfl rfl (zA d rfl) (st_step rfl (fun _ P => zG (zC d rfl e) P) (st_g_true (j := 13) (dj := 76) (b := false) rfl rfl rfl (zA d rfl) (st_index_rd slt63 (zA d rfl) hx.rdw (zA d rfl) zx zx ?_)))))))))
  intro V U Q W O
  refine st_g_true (j := 13) (dj := 76) (b := false) rfl rfl rfl (zA d rfl) (st_step rfl (fun _ P => zN (v := (Value.string (bs (X.getD i [])))) one9 (zA d rfl) (by have := O 0 (.string (bs (X.getD i []))) zz (el_sv (i := i) zx zx); simpa using this) P) (st_g_true (j := 13) (dj := 76) (b := false) rfl rfl rfl (zA d rfl) (st_step rfl (fun _ P => op_sneqb (b := (decide (((X.getD i []) : By) ≠ (X.getD i [])))) (zA d rfl) (zA d rfl) rfl P) (st_step rfl (fun _ P => zd (zA d rfl) (zA d rfl) P) (st_nil (K _ _ (wp_cond_split (zA d rfl) (fun S => ?_) (fun S => ?_))))))))
  ·
   have S := of_decide_eq_true S
   first | exact absurd rfl S | (exfalso; simp at S)
  have S := of_decide_eq_false S
  refine wp_skip (C _ _ (zF fun _ C => zH (zG (zA d rfl) (zj ok23 (Spoil_ret T _ _ _ _ A) ⟨(zA d rfl), trivial⟩ ?_))))
  rintro _ O ⟨K, rfl⟩
  have := K.size
  have hl := hl.keepT A K zz
  have hx := hx.keepT A K zz
  have h := h.keepT A K zz
  have D := D.keepG (Gr.of K) J.symm
  have hb := hb.stepO A K zx
  refine zB (C _ _ (zH (zG (zC d rfl n) (zG (zA d rfl) ?_))))
  rcases Bool.eq_false_or_eq_true ((decide (z ∈ L.take i))) with E | E
  ·
   rw [E]
   refine zR (j := 1) (dj := 88) (b := false) rfl rfl rfl (zA d rfl) rfl rfl (zR (j := 1) (dj := 88) (b := false) rfl rfl rfl (zA d rfl) rfl rfl (zR (j := 1) (dj := 88) (b := false) rfl rfl rfl (zA d rfl) rfl rfl (zR (j := 1) (dj := 88) (b := false) rfl rfl rfl (zA d rfl) rfl rfl ?_)))
   refine zR (j := 1) (dj := 88) (b := false) rfl rfl rfl (zA d rfl) rfl rfl (zR (j := 1) (dj := 88) (b := false) rfl rfl rfl (zA d rfl) rfl rfl (zc (zA d rfl) rfl (zD (zA d rfl) (zB (a _ _ (zH (zG (zC d rfl e) (op_add (zA d rfl) rfl (add64 zx) (zD (zA d rfl) (zB ?_))))))))))
   -- round 22F 28F 36F 41F 51T 71F 84F 88T
   exact zg _ d l ⟨(i + 1), I, rfl, (zL d rfl g), (zL d rfl f), (zL d rfl s), (zL d rfl o), (zL d rfl u), (zU d rfl).trans (congrArg (Value.int .i64) zx), (zU d rfl).trans (congrArg Value.bool (decide_eq_true ((memT zx).2 (.inl (of_decide_eq_true E)))).symm), zx, H, hb, zx, hl, hx, h, D⟩ zx
  rw [E]
  refine zS (j := 1) (dj := 88) (b := false) rfl rfl rfl (zA d rfl) (zG (zC d rfl f) (zS (j := 1) (dj := 88) (b := false) rfl rfl rfl (zA d rfl) (zG (zC d rfl e) (zS (j := 1) (dj := 88) (b := false) rfl rfl rfl (zA d rfl) (zh slt62 (zA d rfl) hl.rdw (zA d rfl) zx zx ?_)))))
  intro Q J K O A
  refine zS (j := 1) (dj := 88) (b := false) rfl rfl rfl (zA d rfl) (zN (v := (Value.int .u64 (L.getD i 0))) one57 (zA d rfl) (by have := A 0 (.int .u64 (L.getD i 0)) zz (el_i (.int .u64) (i := i) zx zx); simpa using this) (zS (j := 1) (dj := 88) (b := false) rfl rfl rfl (zA d rfl) (zG (zC d rfl o) (zS (j := 1) (dj := 88) (b := false) rfl rfl rfl (zA d rfl) (op_eql (zA d rfl) (zA d rfl) (fun M => ?_) (fun M => ?_))))))
  ·
   refine zd (zA d rfl) (zA d rfl) (zD (zA d rfl) (zB (a _ _ (zH (zG (zC d rfl e) (op_add (zA d rfl) rfl (add64 zx) (zD (zA d rfl) (zB ?_))))))))
   -- round 22F 28F 36F 41F 51T 71F 84F 88F 94T
   exact zg _ d l ⟨(i + 1), I, rfl, (zL d rfl g), (zL d rfl f), (zL d rfl s), (zL d rfl o), (zL d rfl u), (zU d rfl).trans (congrArg (Value.int .i64) zx), (zU d rfl).trans (congrArg Value.bool (decide_eq_true ((memT zx).2 (.inr (by first | exact M | exact g94)))).symm), zx, H, hb, zx, hl, hx, h, D⟩ zx
  refine zd (zA d rfl) (zA d rfl) (zD (zA d rfl) (zB (a _ _ (zH (zG (zC d rfl e) (op_add (zA d rfl) rfl (add64 zx) (zD (zA d rfl) (zB ?_))))))))
  -- round 22F 28F 36F 41F 51T 71F 84F 88F 94F
  exact zg _ d l ⟨(i + 1), I, rfl, (zL d rfl g), (zL d rfl f), (zL d rfl s), (zL d rfl o), (zL d rfl u), (zU d rfl).trans (congrArg (Value.int .i64) zx), (zU d rfl).trans (congrArg Value.bool (decide_eq_false (fun q => ((memT zx).1 q).elim (of_decide_eq_false E) (by first | exact M | exact g94))).symm), zx, H, hb, zx, hl, hx, h, D⟩ zx
 refine zB (C _ _ (wp_cond_false (zA d rfl) (wp_exit (then_exit (then_exit (blk_hit (c _ _ (zF fun _ c => zH ?_))))))))
 have htk : L.take i = L := List.take_of_length_le zx
 refine zG (zC d rfl g) (zG (zC d rfl o) ?_)
 rcases Bool.eq_false_or_eq_true (decide (z ∈ L)) with p | p
 ·
  have r := of_decide_eq_true p
  obtain ⟨t, x⟩ := hS.hit r
  refine ze (vs := [(ptr k 0), (.int .u64 z)]) ok30 ⟨(zA d rfl), ⟨(zA d rfl), trivial⟩⟩ (hGet_hit (id := z) (b := t) hQ zx x) ?_
  rintro _ t ⟨a, o, g, rfl, u, f, e, s⟩
  have o := hl.lt
  have o := hx.lt
  have o := h.lt
  have hQ_old := hQ
  have := a.size
  have hl := hl.keepG a (hQ_old.notOwn hl zz zz zz)
  have hb := hb.stepF a (fun y hy P => (hNQ y P).resolve_right zx)
  have a : NewF w.heap.size F g := NewF.trans hNQ e zx
  refine zG (zA d rfl) ?_
  refine zW (zA d rfl) rfl (zW (zA d rfl) rfl (zD (zA d rfl) (zD (zA d rfl) (zB (c _ _ (zF fun _ c => zH (zG (zA d rfl) (op_bin (v := .bool true) (zA d rfl) rfl (by rw [binOp_eql]; rfl) (zG (zC d rfl n) (op_eqb Try.underlying4 (zA d rfl) (zA d rfl) ?_))))))))))
  rcases Bool.eq_false_or_eq_true ((true == (decide (z ∈ L.take i)))) with B | B
  ·
   rw [B]
   refine zG (zA d rfl) (zS (j := 4) (dj := 106) (b := true) rfl rfl rfl (zA d rfl) (zG (zC d rfl n) (zS (j := 4) (dj := 106) (b := true) rfl rfl rfl (zA d rfl) (zG (zA d rfl) ?_))))
   rcases Bool.eq_false_or_eq_true ((decide (z ∈ L.take i))) with G | G
   ·
    rw [G]
    refine zR (j := 6) (dj := 108) (b := false) rfl rfl rfl (zA d rfl) rfl rfl (zR (j := 6) (dj := 108) (b := false) rfl rfl rfl (zA d rfl) rfl rfl (zS (j := 4) (dj := 106) (b := true) rfl rfl rfl (zA d rfl) (zc (zA d rfl) rfl (zc (zA d rfl) (zA d rfl) (zD (zA d rfl) (zB (c _ _ (wp_ret (ret1 rfl l (zA d rfl) ⟨_, rfl, ?_⟩)))))))))
    exact ⟨hb, rfl, _, f, a⟩
   have r := of_decide_eq_true p
   rw [htk, decide_eq_true r] at G; exact absurd G zz
  have r := of_decide_eq_true p
  rw [htk, decide_eq_true r] at B; exact absurd B zz
 refine ze (vs := [(ptr k 0), (.int .u64 z)]) ok30 ⟨(zA d rfl), ⟨(zA d rfl), trivial⟩⟩ (hGet_miss (id := z) hQ zx (hS.miss (of_decide_eq_false p))) ?_
 rintro _ e ⟨a, rfl⟩
 have a := zQ a
 obtain ⟨hb, _⟩ := yG hb a
 have hl := hl.keep0 a
 have hQ := hQ.kz a
 refine zG (zA d rfl) ?_
 refine zW (zA d rfl) rfl (zW (zA d rfl) rfl (zD (zA d rfl) (zD (zA d rfl) (zB (c _ _ (zF fun _ c => zH (zG (zA d rfl) (op_bin (v := .bool false) (zA d rfl) rfl (by rw [binOp_eql]; rfl) (zG (zC d rfl n) (op_eqb Try.underlying4 (zA d rfl) (zA d rfl) ?_))))))))))
 rcases Bool.eq_false_or_eq_true ((false == (decide (z ∈ L.take i)))) with B | B
 ·
  rw [B]
  refine zG (zA d rfl) (zS (j := 4) (dj := 106) (b := true) rfl rfl rfl (zA d rfl) (zG (zC d rfl n) (zS (j := 4) (dj := 106) (b := true) rfl rfl rfl (zA d rfl) (zG (zA d rfl) ?_))))
  rcases Bool.eq_false_or_eq_true ((decide (z ∈ L.take i))) with G | G
  ·
   have r := of_decide_eq_false p
   rw [htk, decide_eq_false r] at G; exact absurd G zz
  rw [G]
  refine zS (j := 6) (dj := 108) (b := false) rfl rfl rfl (zA d rfl) (zG (zA d rfl) (zS (j := 6) (dj := 108) (b := false) rfl rfl rfl (zA d rfl) (op_bin (v := .bool true) (zA d rfl) rfl (by rw [binOp_eql]; rfl) (zS (j := 4) (dj := 106) (b := true) rfl rfl rfl (zA d rfl) (zd (zA d rfl) (zA d rfl) (zc (zA d rfl) (zA d rfl) (zD (zA d rfl) (zB (c _ _ (wp_ret (ret1 rfl l (zA d rfl) ⟨_, rfl, ?_⟩)))))))))))
  exact ⟨hb, rfl, _, hQ, hNQ⟩
 have r := of_decide_eq_false p
 rw [htk, decide_eq_false r] at B; exact absurd B zz

theorem begun14_ret (w : World) : Ret Try.prog 26 #[] w (fun v' w' => Below w.heap.size w w' ∧ v' = .bool true) := by
 have hb := Below.refl w.heap.size w
 refine enter (N := 52) Try.func26 rfl rfl (by simp) fun a hN hd hA => ?_
 clear hA
 refine zF fun _ a => ?_
 refine zH (zD rfl (zB (a _ _ (zF fun _ a => zH (ze (vs := []) ok27 trivial (hNew_ret _) ?_)))))
 rintro _ h ⟨g, c, f, rfl, d⟩
 have l : ∀ x, f x → w.heap.size ≤ x := fun x hx => (d.lt x hx).1
 have g := zQ g
 obtain ⟨hb, _⟩ := yE hb g
 have d : HeapR h w.heap.size c ([] : List (Int × By)) 0 f := d.mono zx
 refine zD (zA hN rfl) (zB (a _ _ (zF fun _ a => zH (zG (zA hN rfl) (op_bslice (e := 5) (pv := [(0, (.int .u8 1))]) (cs := [(.int .u8 1)]) ⟨rfl, rfl, trivial⟩ zy ?_)))))
 intro m h o q g l
 have o : ¬ f h := fun hf => by have := (d.lt _ hf).2; omega
 obtain ⟨hb, _⟩ := yE hb l
 have d := d.kz l
 have f : RdC m h (h + 1) 1 (.slice (some ⟨h, 0, none⟩) 1 1) ([1] : By).length (([1] : By).map u8v) := (RdC.ofBx (sz := 1) (n := 1) g rfl zz)
 refine ze (vs := [(ptr c 0), (.int .u64 5), (.slice (some ⟨h, 0, none⟩) 1 1)]) ok28 ⟨(zA hN rfl), ⟨rfl, ⟨(zA hN rfl), trivial⟩⟩⟩ (hPut_good (r := [1]) 5 zz d zx zx f (fun x hx => Nat.lt_or_gt_of_ne (fun e => o (e ▸ hx))) g.lt) ?_
 rintro _ s ⟨m, rfl, l, f, q⟩
 have t := g.lt
 have u := d
 have := m.size
 have hb := below_stepG hb m hb.size (fun k hk => (u.lt k hk).1)
 have d : ¬ l h := ne_stepF q t o
 have f : HeapR s w.heap.size c ([(5, [1])] : List (Int × By)) 1 l := f
 refine zD (zA hN rfl) (zB (a _ _ (zF fun _ a => zH (zG (zA hN rfl) (op_bslice (e := 5) (pv := [(0, (.int .u8 2)), (1, (.int .u8 2))]) (cs := [(.int .u8 2), (.int .u8 2)]) ⟨rfl, rfl, ⟨rfl, rfl, trivial⟩⟩ zy ?_)))))
 intro t q y u h s
 have u : ¬ l q := fun hf => by have := (f.lt _ hf).2; omega
 obtain ⟨hb, _⟩ := yE hb s
 have g := (g.keepG m o).keep0 s
 have f := f.kz s
 have l : RdC t q (q + 1) 1 (.slice (some ⟨q, 0, none⟩) 2 2) ([2, 2] : By).length (([2, 2] : By).map u8v) := (RdC.ofBx (sz := 1) (n := 2) h rfl zz)
 refine ze (vs := [(ptr c 0), (.int .u64 3), (.slice (some ⟨q, 0, none⟩) 2 2)]) ok28 ⟨(zA hN rfl), ⟨rfl, ⟨(zA hN rfl), trivial⟩⟩⟩ (hPut_good (r := [2, 2]) 3 zz f zx zx l (fun x hx => Nat.lt_or_gt_of_ne (fun e => u (e ▸ hx))) h.lt) ?_
 rintro _ q ⟨m, rfl, o, l, s⟩
 have s := g.lt
 have s := h.lt
 have s := f
 have := m.size
 have hb := below_stepG hb m hb.size (fun k hk => (s.lt k hk).1)
 have l : HeapR q w.heap.size c ([(5, [1]), (3, [2, 2])] : List (Int × By)) 2 o := l
 refine zD (zA hN rfl) (zB (a _ _ (zF fun _ a => zH (zG (zA hN rfl) (ze (vs := [(ptr c 0)]) ok35 ⟨(zA hN rfl), trivial⟩ (hIDs_few l zx (fun p hp => by simp only [List.mem_cons, List.mem_nil_iff, or_false] at hp; rcases hp with rfl | rfl <;> decide) zz zz) ?_)))))
 rintro s t ⟨q, f⟩
 have t : Dj o (Bl s) := Dj.fresh (fun k hk => (l.lt k hk).2) (fun k hk => (f.lt k hk).1)
 have q := zQ q
 obtain ⟨hb, _⟩ := yE hb q
 have g := (g.keepG m d).keep0 q
 have h := (h.keepG m u).keep0 q
 have l := l.kz q
 have d : (sortI (([(5, [1]), (3, [2, 2])] : List (Int × By)).map Prod.fst)) = ([3, 5] : List Int) := sortI_eq zz zz
 rw [d] at f
 have f := f.mono (base' := w.heap.size) zx
 refine zD (zA hN rfl) (zB (a _ _ (zF fun _ a => zH (zG (zA hN rfl) (ze (vs := [(ptr c 0), (.int .u64 3)]) ok30 ⟨(zA hN rfl), ⟨rfl, trivial⟩⟩ (hGet_hit (id := 3) (b := [2, 2]) l zx zz) ?_)))))
 rintro _ s ⟨d, z, u, rfl, m, o, q, y⟩
 have q := g.lt
 have g := h.lt
 have g := f.lt
 have g := m.mono (base' := w.heap.size) zx
 have h := l
 have := d.size
 have f := f.keepG d t.symm
 have hb := below_stepG hb d hb.size (fun k hk => (h.lt k hk).1)
 have m := g
 refine zG (zA hN rfl) ?_
 refine zW (zA hN rfl) rfl (zW (zA hN rfl) rfl (zD (zA hN rfl) (zD (zA hN rfl) (zB (a _ _ (zF fun _ a => zH (zG (zA hN rfl) (op_bin (v := .bool true) (zA hN rfl) rfl (by rw [binOp_eql]; rfl) (zG (zA hN rfl) (zS (j := 2) (dj := 23) (b := true) rfl rfl rfl (zA hN rfl) ?_))))))))))
 refine zG (zA hN rfl) (zS (j := 2) (dj := 23) (b := true) rfl rfl rfl (zA hN rfl) (op_bin (v := .bool true) (zA hN rfl) rfl (by rw [binOp_eql]; rfl) (zc (zA hN rfl) (zA hN rfl) (zG (zA hN rfl) (zS (j := 6) (dj := 27) (b := true) rfl rfl rfl (zA hN rfl) (zG (zA hN rfl) (zS (j := 6) (dj := 27) (b := true) rfl rfl rfl (zA hN rfl) (op_len_rd Try.underlying62 (zA hN rfl) f.rdw (zS (j := 6) (dj := 27) (b := true) rfl rfl rfl (zA hN rfl) (op_eql (zA hN rfl) rfl (fun d => ?_) (fun d => ?_)))))))))))
 ·
  refine zc (zA hN rfl) (zA hN rfl) (zG (zA hN rfl) (zS (j := 11) (dj := 32) (b := true) rfl rfl rfl (zA hN rfl) (zG (zA hN rfl) (zS (j := 11) (dj := 32) (b := true) rfl rfl rfl (zA hN rfl) (zh slt62 (zA hN rfl) f.rdw rfl zx zx ?_)))))
  intro h g q l f
  refine zS (j := 11) (dj := 32) (b := true) rfl rfl rfl (zA hN rfl) (zN (v := (Value.int .u64 (([3, 5] : List Int).getD 0 0))) one57 (zA hN rfl) (by have := f 0 (.int .u64 (([3, 5] : List Int).getD 0 0)) zz (el_i (.int .u64) (i := 0) zx zx); simpa using this) (zS (j := 11) (dj := 32) (b := true) rfl rfl rfl (zA hN rfl) (op_eql (zA hN rfl) rfl (fun g => ?_) (fun g => ?_))))
  ·
   refine zc (zA hN rfl) (zA hN rfl) (zG (zA hN rfl) (zS (j := 17) (dj := 38) (b := true) rfl rfl rfl (zA hN rfl) ?_))
   refine zG (zA hN rfl) (zS (j := 17) (dj := 38) (b := true) rfl rfl rfl (zA hN rfl) (op_bin (v := .bool true) (zA hN rfl) rfl (by rw [binOp_eql]; rfl) (zc (zA hN rfl) (zA hN rfl) (zG (zA hN rfl) (zS (j := 21) (dj := 42) (b := true) rfl rfl rfl (zA hN rfl) (zG (zA hN rfl) (zS (j := 21) (dj := 42) (b := true) rfl rfl rfl (zA hN rfl) (op_len_rd Try.underlying22 (zA hN rfl) m.rdw (zS (j := 21) (dj := 42) (b := true) rfl rfl rfl (zA hN rfl) (op_eql (zA hN rfl) rfl (fun f => ?_) (fun f => ?_)))))))))))
   ·
    refine zc (zA hN rfl) (zA hN rfl) (zG (zA hN rfl) (zS (j := 26) (dj := 47) (b := true) rfl rfl rfl (zA hN rfl) (zG (zA hN rfl) (zS (j := 26) (dj := 47) (b := true) rfl rfl rfl (zA hN rfl) (ze (vs := [(ptr c 0)]) ok31 ⟨(zA hN rfl), trivial⟩ (hLen_ret o zx) ?_)))))
    rintro _ h ⟨c, rfl⟩
    have c := zQ c
    obtain ⟨hb, _⟩ := yE hb c
    refine zS (j := 26) (dj := 47) (b := true) rfl rfl rfl (zA hN rfl) (op_eql (zA hN rfl) rfl (fun c => ?_) (fun c => ?_))
    ·
     refine zc (zA hN rfl) (zA hN rfl) (zD (zA hN rfl) (zB (a _ _ (wp_ret (ret1 rfl hd (zA hN rfl) ⟨_, rfl, ?_⟩)))))
     exact ⟨hb, rfl⟩
    exact absurd zz c
   exact absurd zz f
  exact absurd zz g
 exact absurd zz d

end Go.Proofs.Ytdhpalioifjfbaa

namespace Go.Proofs.Ytdhpalioifjfbaa
open Go.Gx Go.RowKit
structure OpH where
  k : Int
  s : Int
  z : Int
  x : UInt8
def OH0 : OpH := ⟨0, 0, 0, 0⟩
def cellsH (o : OpH) : List Value := [.int .i64 o.k, .int .i64 o.s, .int .u64 o.z, .int .u8 (o.x.toNat : Int)]
structure OkH (o : OpH) : Prop where
  k : -9223372036854775808 ≤ o.k ∧ o.k ≤ 9223372036854775807
  s : -9223372036854775808 ≤ o.s ∧ o.s ≤ 9223372036854775807
  z : (Lit.int .u64 o.z).wf = true
theorem el_oh {l : List OpH} {e : Int} {i j : Nat} {u : Value} (he : e = (i : Int)) (h : i < l.length) (hu : (cellsH (l.getD i OH0))[j]? = some u) : (l.flatMap cellsH)[e.toNat * 4 + j]? = some u :=
  el_flat (f := cellsH) (sz := 4) (fun _ => rfl) (by decide) he h hu
theorem tmod8 (k : Int) : -8 < k.tmod 8 ∧ k.tmod 8 < 8 := by
  rw [Int.tmod_eq_emod]; split <;> omega
structure PosI (L : List Int) (z : Int) (j : Nat) : Prop where
  le : j ≤ L.length
  lo : ∀ q, q < j → L.getD q 0 < z
  hi : j < L.length → z ≤ L.getD j 0
section
variable {R : List (Int × By)} {L : List Int} {X : List By} {z : Int} {i j : Nat} {r : By}
theorem up_lt (h : L.Pairwise (fun x y => x < y)) {a b : Nat} (hab : a < b) (hb : b < L.length) : L.getD a 0 < L.getD b 0 := by
  have := List.pairwise_iff_getElem.1 h a b (by omega) hb hab
  simpa [List.getD_eq_getElem?_getD, hb, show a < L.length by omega] using this
theorem up_eq (h : L.Pairwise (fun x y => x < y)) {a b : Nat} (ha : a < L.length) (hb : b < L.length) (e : L.getD a 0 = L.getD b 0) : a = b := by
  rcases Nat.lt_trichotomy a b with q | q | q
  · have := up_lt h q hb; omega
  · exact q
  · have := up_lt h q ha; omega
theorem mem_at (h : z ∈ L) : ∃ q, q < L.length ∧ L.getD q 0 = z := by
  obtain ⟨q, hq, e⟩ := List.getElem_of_mem h
  exact ⟨q, hq, by simpa [List.getD_eq_getElem?_getD, hq] using e⟩
theorem at_mem (h : i < L.length) : L.getD i 0 ∈ L := by simp [List.getD_eq_getElem?_getD, h]
theorem PosI.mem (hp : PosI L z j) (h : L.Pairwise (fun x y => x < y)) : z ∈ L ↔ j < L.length ∧ L.getD j 0 = z := by
  constructor
  · intro hz
    obtain ⟨q, hq, e⟩ := mem_at hz
    rcases Nat.lt_trichotomy q j with c | c | c
    · have := hp.lo q c; omega
    · subst c; exact ⟨hq, e⟩
    · have := up_lt h c hq; have := hp.hi (by omega); omega
  · rintro ⟨h1, rfl⟩; exact at_mem h1
theorem PosI.step (hj : j < L.length) (hlo : ∀ q, q < j → L.getD q 0 < z) (h : L.getD j 0 < z) : ∀ q, q < j + 1 → L.getD q 0 < z := fun q hq => by
  by_cases e : q = j
  · subst e; exact h
  · exact hlo q (by omega)
theorem SameOk.nil : SameOk [] [] [] := ⟨.nil, fun _ => ⟨(fun h => (by cases h)), (fun h => (by cases h))⟩, rfl, (fun _ h => by simp at h), (fun _ h => (by cases h))⟩
theorem ins_getD {α : Type} {l : List α} {x d : α} (hj : j ≤ l.length) : (l.take j ++ [x] ++ l.drop j).getD i d = if i < j then l.getD i d else if i = j then x else l.getD (i - 1) d := by
  simp only [List.getD_eq_getElem?_getD]
  by_cases h1 : i < j
  · rw [if_pos h1, List.append_assoc, List.getElem?_append_left (by rw [List.length_take]; omega), List.getElem?_take_of_lt h1]
  · rw [if_neg h1]
    by_cases h2 : i = j
    · subst h2
      rw [if_pos rfl, List.append_assoc, List.getElem?_append_right (by rw [List.length_take]; omega)]
      simp [List.length_take, Nat.min_eq_left hj]
    · rw [if_neg h2, List.getElem?_append_right (by simp; omega), List.getElem?_drop]
      congr 2
      simp only [List.length_append, List.length_take, List.length_cons, List.length_nil]; omega
theorem ins_len {α : Type} {l : List α} {x : α} (hj : j ≤ l.length) : (l.take j ++ [x] ++ l.drop j).length = l.length + 1 := by simp; omega
theorem SameOk.old (h : SameOk R L X) (hd : (R.map Prod.fst).Nodup) (hj : j < L.length) (hz : L.getD j 0 = z) : SameOk (mput R z r) L (X.set j r) := by
  have hx := h.len
  refine ⟨h.up, fun k => ?_, by simpa using hx, fun i hi => ?_, h.wf⟩
  · rw [keys_put, ← h.keys]
    exact ⟨.inl, fun q => q.elim id fun q => by subst q; rw [← hz]; exact at_mem hj⟩
  · rw [mget_mput hd]
    by_cases e : i = j
    · subst e; rw [if_pos hz]; simp [List.getD_eq_getElem?_getD, show i < X.length by omega]
    · rw [if_neg (fun q => e (up_eq h.up hi hj (q.trans hz.symm))), h.at_ i hi]
      simp [List.getD_eq_getElem?_getD, List.getElem?_set_ne (Ne.symm e)]
theorem SameOk.new (h : SameOk R L X) (hd : (R.map Prod.fst).Nodup) (hp : PosI L z j) (hz : z ∉ L) (hw : (Lit.int .u64 z).wf = true) : SameOk (mput R z r) (L.take j ++ [z] ++ L.drop j) (X.take j ++ [r] ++ X.drop j) := by
  have hx := h.len
  have hm := hp.mem h.up
  have hle := hp.le
  have hgt : ∀ q, j ≤ q → q < L.length → z < L.getD q 0 := fun q hq hql => by
    have h1 := hp.hi (by omega)
    have h2 : L.getD j 0 ≠ z := fun e => hz (hm.2 ⟨by omega, e⟩)
    by_cases e : q = j
    · subst e; omega
    · have := up_lt h.up (show j < q by omega) hql; omega
  refine ⟨?_, fun k => ?_, by rw [ins_len hle, ins_len (by omega), hx], fun i hi => ?_, fun k hk => ?_⟩
  · refine List.pairwise_iff_getElem.2 fun a b ha hb hab => ?_
    have e1 := ins_getD (i := a) (x := z) (d := 0) hle
    have e2 := ins_getD (i := b) (x := z) (d := 0) hle
    rw [List.getD_eq_getElem?_getD, List.getElem?_eq_getElem ha, Option.getD_some] at e1
    rw [List.getD_eq_getElem?_getD, List.getElem?_eq_getElem hb, Option.getD_some] at e2
    rw [e1, e2]
    have hl := ins_len (x := z) hle
    rw [hl] at ha hb
    by_cases a1 : a < j
    · rw [if_pos a1]
      by_cases b1 : b < j
      · rw [if_pos b1]; exact up_lt h.up hab (by omega)
      · rw [if_neg b1]
        by_cases b2 : b = j
        · rw [if_pos b2]; exact hp.lo a a1
        · rw [if_neg b2]; have := hp.lo a a1; have := hgt (b - 1) (by omega) (by omega); omega
    · rw [if_neg a1, if_neg (show ¬ b < j by omega), if_neg (show ¬ b = j by omega)]
      by_cases a2 : a = j
      · rw [if_pos a2]; exact hgt (b - 1) (by omega) (by omega)
      · rw [if_neg a2]; exact up_lt h.up (by omega) (by omega)
  · rw [keys_put, ← h.keys]
    have e : L = L.take j ++ L.drop j := (List.take_append_drop j L).symm
    constructor
    · intro q
      rw [List.mem_append, List.mem_append, List.mem_singleton] at q
      rcases q with (q | q) | q
      · exact .inl (by rw [e]; exact List.mem_append.2 (.inl q))
      · exact .inr q
      · exact .inl (by rw [e]; exact List.mem_append.2 (.inr q))
    · rintro (q | q)
      · rw [e] at q
        rcases List.mem_append.1 q with q | q
        · exact List.mem_append.2 (.inl (List.mem_append.2 (.inl q)))
        · exact List.mem_append.2 (.inr q)
      · exact List.mem_append.2 (.inl (List.mem_append.2 (.inr (by simp [q]))))
  · rw [ins_len hle] at hi
    rw [mget_mput hd, ins_getD hle, ins_getD (by omega)]
    by_cases a1 : i < j
    · rw [if_pos a1, if_pos a1, if_neg (fun q => by have := hp.lo i a1; omega), h.at_ i (by omega)]
    · rw [if_neg a1, if_neg a1]
      by_cases a2 : i = j
      · rw [if_pos a2, if_pos rfl, if_pos a2]
      · rw [if_neg a2, if_neg (fun q => by have := hgt (i - 1) (by omega) (by omega); omega), if_neg a2, h.at_ _ (by omega)]
  · rw [List.mem_append, List.mem_append, List.mem_singleton] at hk
    rcases hk with (q | q) | q
    · exact h.wf k (List.mem_of_mem_take q)
    · rw [q]; exact hw
    · exact h.wf k (List.mem_of_mem_drop q)
theorem SameOk.del (h : SameOk R L X) (hd : (R.map Prod.fst).Nodup) (hj : j < L.length) (hz : L.getD j 0 = z) : SameOk (mdel R z) (L.take j ++ L.drop (j + 1)) (X.take j ++ X.drop (j + 1)) := by
  have hx := h.len
  rw [← List.eraseIdx_eq_take_drop_succ, ← List.eraseIdx_eq_take_drop_succ]
  have hne : ∀ i, i < (L.eraseIdx j).length → (L.eraseIdx j).getD i 0 ≠ z := fun i hi => by
    rw [List.length_eraseIdx, if_pos hj] at hi
    rw [getD_erase, ← hz]
    split
    · intro q; have := up_eq h.up (by omega) hj q; omega
    · intro q; have := up_eq h.up (by omega) hj q; omega
  refine ⟨h.up.sublist (List.eraseIdx_sublist _ _), fun k => ?_, by rw [List.length_eraseIdx, List.length_eraseIdx, if_pos hj, if_pos (by omega), hx], fun i hi => ?_, fun k hk => h.wf k ((List.eraseIdx_sublist _ _).subset hk)⟩
  · rw [mdel_keys hd, ← h.keys]
    constructor
    · intro q
      refine ⟨(List.eraseIdx_sublist _ _).subset q, fun e => ?_⟩
      obtain ⟨i, hi, hq⟩ := mem_at q
      exact hne i hi (hq.trans e)
    · rintro ⟨q, e⟩
      obtain ⟨i, hi, hq⟩ := mem_at q
      have hij : i ≠ j := fun c => e (by rw [← hq, c, hz])
      by_cases c : i < j
      · have := at_mem (L := L.eraseIdx j) (i := i) (by rw [List.length_eraseIdx, if_pos hj]; omega)
        rw [getD_erase, if_pos c, hq] at this; exact this
      · have := at_mem (L := L.eraseIdx j) (i := i - 1) (by rw [List.length_eraseIdx, if_pos hj]; omega)
        rw [getD_erase, if_neg (by omega), show i - 1 + 1 = i by omega, hq] at this; exact this
  · rw [mget_mdel hd, if_neg (hne i hi), getD_erase, getD_erase]
    rw [List.length_eraseIdx, if_pos hj] at hi
    split
    · exact h.at_ i (by omega)
    · exact h.at_ (i + 1) (by omega)
theorem SameOk.del_none (h : SameOk R L X) (hz : z ∉ L) : mdel R z = R := by
  unfold mdel
  rw [mlook_none.2 fun q => hz ((h.keys z).2 q)]
theorem SameOk.some_ (h : SameOk R L X) : (mget R z).isSome = decide (z ∈ L) := by
  by_cases hz : z ∈ L
  · obtain ⟨b, hb⟩ := h.hit hz; rw [hb, decide_eq_true hz]; rfl
  · rw [h.miss hz, decide_eq_false hz]; rfl
end
end Go.Proofs.Ytdhpalioifjfbaa

namespace Go.Gx
open Go.RowKit
section
variable {P : Program} {ol : List Oper} {Q : Exit → Act → World → Prop} {E : Type} {Φ : E → Nat → Value → Prop} {C : E → Nat → World → Prop} {ch : Chain} {a0 : Act} {N : Nat}
end

section
variable {P : Program} {ol : List Oper} {Q : Exit → Act → World → Prop} {ops : List Nat} {φ : Nat → Value → Prop} {G : Nat → World → Prop} {a0 : Act} {N : Nat}
def PhK (ops : List Nat) (φ : Nat → Value → Prop) (e : List Value) (j : Nat) (u : Value) : Prop := (∀ c : Nat, ops[c]? = some j → e[c]? = some u) ∧ (ops.contains j = false → φ j u)
theorem PhK.mono {e : List Value} {v : Value} {j : Nat} {u : Value} (h : PhK ops φ e j u) : PhK ops φ (e ++ [v]) j u :=
  ⟨fun c hc => by have h1 := h.1 c hc; have hl := (List.getElem?_eq_some_iff.1 h1).1; rw [List.getElem?_append_left hl]; exact h1, h.2⟩
theorem PhK.light {j : Nat} {e : List Value} {u : Value} (hh : ops.contains j = false) (h : φ j u) : PhK ops φ e j u :=
  ⟨fun c hc => by have : ops.contains j = true := by simpa using List.mem_of_getElem? hc
                  exact absurd (this.symm.trans hh) (by decide), fun _ => h⟩
def KK (P : Program) (ol : List Oper) (ops : List Nat) (φ : Nat → Value → Prop) (G : Nat → World → Prop) (a0 : Act) (N : Nat) (Q : Exit → Act → World → Prop) : List Nat → List Value → World → Prop
  | [], e, w => ∀ w1, w.grownBy w1 none → ∀ a', a'.tmps.size = N → a'.defers = a0.defers → (∀ t, (ol.all fun o => o.dst != some t) = true → a'.tmps.getD t undef = a0.tmps.getD t undef) →
      (∀ j oj d, ol[j]? = some oj → oj.dst = some d → PhK ops φ e j (a'.tmps.getD d undef)) → Q .normal (putsL a' []) w1
  | i :: r, e, w => ∀ w1, w.grownBy w1 none → G e.length w1 → ∀ a, a.tmps.size = N → (∀ t, safeB ol i t = true → a.tmps.getD t undef = a0.tmps.getD t undef) → (∀ j oj d, depB ol i j = true → ol[j]? = some oj → oj.dst = some d → PhK ops φ e j (a.tmps.getD d undef)) →
      ∀ o, ol[i]? = some o → wpList P ol.toArray (fun ex a' w' => ex = .normal ∧ ∃ e', (∀ j u, PhK ops φ e j u → PhK ops φ e' j u) ∧ ((o.dst = none ∧ a' = a) ∨ ∃ d v, o.dst = some d ∧ a' = putsL a [(d, v)] ∧ PhK ops φ e' i v) ∧ (e'.length = e.length + 1 ∧ KK P ol ops φ G a0 N Q r e' w' ∧ G (e.length + 1) w')) [o] (putsL a []) w1
theorem KK.stable : ∀ {rs : List Nat} {e : List Value} {w w2 : World}, KK P ol ops φ G a0 N Q rs e w → w.grownBy w2 none → KK P ol ops φ G a0 N Q rs e w2
  | [], _, _, _, h, E => fun w1 E1 => h w1 (grown_trans E E1)
  | _ :: _, _, _, _, h, E => fun w1 E1 => h w1 (grown_trans E E1)
def ObK (P : Program) (ol : List Oper) (ops : List Nat) (φ : Nat → Value → Prop) (G : Nat → World → Prop) (a0 : Act) (N : Nat) (i : Nat) (o : Oper) : Prop :=
  ∀ (e : List Value) (a : Act) (w : World), a.tmps.size = N → (∀ m k, ops[m]? = some k → depB ol k i = true → e.length ≤ m) → G e.length w → (∀ t, safeB ol i t = true → a.tmps.getD t undef = a0.tmps.getD t undef) → (∀ j oj d, depB ol i j = true → ol[j]? = some oj → oj.dst = some d → PhK ops φ e j (a.tmps.getD d undef)) →
    wpList P ol.toArray (fun ex a' w' => ex = .normal ∧ (∃ d v, o.dst = some d ∧ a' = putsL a [(d, v)] ∧ PhK ops φ e i v) ∧ w.grownBy w' none) [o] (putsL a []) w
def ObKs (P : Program) (ol : List Oper) (ops : List Nat) (φ : Nat → Value → Prop) (G : Nat → World → Prop) (a0 : Act) (N : Nat) : Nat → List Oper → Prop
  | _, [] => True
  | i, o :: r => (ops.contains i = false → ObK P ol ops φ G a0 N i o) ∧ ObKs P ol ops φ G a0 N (i + 1) r
theorem ObKs.nil {i : Nat} : ObKs P ol ops φ G a0 N i [] := trivial
theorem ObKs.cons {i : Nat} {o : Oper} {r : List Oper} (h : ObK P ol ops φ G a0 N i o) (h' : ObKs P ol ops φ G a0 N (i + 1) r) : ObKs P ol ops φ G a0 N i (o :: r) := ⟨fun _ => h, h'⟩
theorem ObKs.pass {i : Nat} {o : Oper} {r : List Oper} (hh : ops.contains i = true) (h' : ObKs P ol ops φ G a0 N (i + 1) r) : ObKs P ol ops φ G a0 N i (o :: r) := ⟨fun h => absurd (hh.symm.trans h) (by decide), h'⟩
theorem ObKs.getx : ∀ {l : List Oper} {i : Nat}, ObKs P ol ops φ G a0 N i l → ∀ j o, l[j]? = some o → ops.contains (i + j) = false → ObK P ol ops φ G a0 N (i + j) o
  | [], _, _, j, o, h, _ => by simp at h
  | o' :: r, i, h, 0, o, hj, hs => by simp at hj; subst hj; exact h.1 hs
  | o' :: r, i, h, j + 1, o, hj, hs => by
    have := ObKs.getx h.2 j o (by simpa using hj) (by rwa [show i + 1 + j = i + (j + 1) by omega])
    rwa [show i + 1 + j = i + (j + 1) by omega] at this
end
end Go.Gx
