/- Walks, written by a program: what each function of the translation hands back. -/
import Derived.Test.YtcpfdfejojghbaaB4
namespace Go.Proofs.Ytcpfdfejojghbaa
open Go.Gx Go.RowKit
attribute [local irreducible] wpList wpStill Code.wp Calls
open Go.Bt
theorem newI {w : World} : Ret Try.prog 22 #[] w (fun v' w' => Below w.heap.size w w' ∧ ∃ p, v' = ptr p 0 ∧ TopR kI 71 w.heap.size w' p none (fun j => j = p)) := by
 have hb := Below.refl w.heap.size w
 refine enter (N := 3) Try.func22 rfl rfl (by simp) fun a0 hN hd hA => ?_
 clear hA
 refine seq_any fun K2665 hK2665 => ?_
 refine one_reg ?_
 refine op_assign rfl ?_
 refine reg_nil ?_
 refine hK2665 _ _ ?_
 refine seq_any fun K2666 hK2666 => ?_
 refine one_reg ?_
 refine op_build (pv := []) (v := (Value.agg #[(Value.pointer none)])) trivial (by kernel_rfl) ?_
 refine op_box (cs := [(Value.pointer none)]) (ev_hit hN rfl) rfl ?_
 intro w2667 b2668 lo_b2668 hi_b2668 hB2670 E2669
 have z_w2667 := E2669.size
 have hb := below_step0 hb E2669 hb.size
 refine op_assign (ev_hit hN rfl) ?_
 refine reg_nil ?_
 refine hK2666 _ _ ?_
 refine wp_ret ?_
 refine ret1 rfl hd (ev_hit hN rfl) ⟨_, rfl, ?_⟩
 -- path
 exact ⟨hb, b2668, rfl, rfl, fun j hj => ⟨by rw [hj]; omega, by rw [hj]; exact hB2670.lt⟩, trivial, _, hB2670, .inl ⟨rfl, rfl⟩⟩

theorem newS {w : World} : Ret Try.prog 12 #[] w (fun v' w' => Below w.heap.size w w' ∧ ∃ p, v' = ptr p 0 ∧ TopR kS 88 w.heap.size w' p none (fun j => j = p)) := by
 have hb := Below.refl w.heap.size w
 refine enter (N := 3) Try.func12 rfl rfl (by simp) fun a0 hN hd hA => ?_
 clear hA
 refine seq_any fun K2671 hK2671 => ?_
 refine one_reg ?_
 refine op_assign rfl ?_
 refine reg_nil ?_
 refine hK2671 _ _ ?_
 refine seq_any fun K2672 hK2672 => ?_
 refine one_reg ?_
 refine op_build (pv := []) (v := (Value.agg #[(Value.pointer none)])) trivial (by kernel_rfl) ?_
 refine op_box (cs := [(Value.pointer none)]) (ev_hit hN rfl) rfl ?_
 intro w2673 b2674 lo_b2674 hi_b2674 hB2676 E2675
 have z_w2673 := E2675.size
 have hb := below_step0 hb E2675 hb.size
 refine op_assign (ev_hit hN rfl) ?_
 refine reg_nil ?_
 refine hK2672 _ _ ?_
 refine wp_ret ?_
 refine ret1 rfl hd (ev_hit hN rfl) ⟨_, rfl, ?_⟩
 -- path
 exact ⟨hb, b2674, rfl, rfl, fun j hj => ⟨by rw [hj]; omega, by rw [hj]; exact hB2676.lt⟩, trivial, _, hB2676, .inl ⟨rfl, rfl⟩⟩

theorem putT0I {k : List UInt8} {xv : Value} {x : Int} {F : Nat → Prop} {p : Nat} {R : Nat → Prop} {w : World} (hx : Bx w p 71 [.pointer none]) (hFp : F p) {L B : Nat} (hk : RdC w L B 1 xv k.length (k.map u8v)) (hB : B ≤ w.heap.size) (hap : ∀ j, F j → j < L ∨ B ≤ j) (hkn : k.length ≤ 1000000000) : Ret Try.prog 23 #[(ptr p 0), xv, (Value.int .i64 x)] w (fun v' w' => Gr w w' F ∧ v' = .bool (putT 0 k x (([] : List (Ky × (Int))) : Tr (Int) 0)).1 ∧ ∃ q2 W2, Bx w' p 71 [ptr q2 0] ∧ TreeO kI (fun j => R j ∨ w.heap.size ≤ j) w' (grown 0 (putT 0 k x (([] : List (Ky × (Int))) : Tr (Int) 0)).2.1 (putT 0 k x (([] : List (Ky × (Int))) : Tr (Int) 0)).2.2) q2 W2 ∧ ∀ j, W2 j → F j ∨ w.heap.size ≤ j) := by
 have hi_p := hx.lt
 have hb := Gr.refl w F
 refine enter (N := 51) Try.func23 rfl rfl (by simp) fun a0 hN hd hA => ?_
 have s0 : a0.tmps.getD 0 undef = (ptr p 0) := hA 0 (by simp)
 have s1 : a0.tmps.getD 1 undef = xv := hA 1 (by simp)
 have s2 : a0.tmps.getD 2 undef = (Value.int .i64 x) := hA 2 (by simp)
 clear hA
 refine seq_any fun K2683 hK2683 => ?_
 refine one_reg ?_
 refine op_assign rfl ?_
 refine reg_nil ?_
 refine hK2683 _ _ ?_
 refine seq_any fun K2684 hK2684 => ?_
 refine seq_any fun K2685 hK2685 => ?_
 refine one_reg ?_
 refine op_move (ev_base hN rfl s0) ?_
 refine op_peq_some ptrt45 (ev_hit hN rfl) rfl ?_
 refine reg_nil ?_
 refine hK2685 _ _ ?_
 refine wp_cond_false (ev_hit hN rfl) ?_
 refine wp_skip ?_
 refine hK2684 _ _ ?_
 refine seq_any fun K2686 hK2686 => ?_
 refine seq_any fun K2687 hK2687 => ?_
 refine one_reg ?_
 refine op_move (ev_base hN rfl s0) ?_
 refine op_nil (ev_hit hN rfl) ?_
 refine op_field fld71_0 (ev_hit hN rfl) ?_
 refine op_load1 (v := (Value.pointer none)) one69 (ev_hit hN rfl) (hx.cell rfl) ?_
 refine op_peq_none ptrt69 (ev_hit hN rfl) rfl ?_
 refine reg_nil ?_
 refine hK2687 _ _ ?_
 refine wp_cond_true (ev_hit hN rfl) ?_
 refine one_reg ?_
 refine op_move (ev_base hN rfl s0) ?_
 refine op_build (pv := []) (v := (Value.agg #[(Value.slice none 0 0), (Value.slice none 0 0), (Value.slice none 0 0)])) trivial (by kernel_rfl) ?_
 refine op_box (cs := [(Value.slice none 0 0), (Value.slice none 0 0), (Value.slice none 0 0)]) (ev_hit hN rfl) rfl ?_
 intro w2688 b2689 lo_b2689 hi_b2689 hB2691 E2690
 have z_w2688 := E2690.size
 have hx := hx.keep0 E2690
 have hk := hk.keep0 E2690
 have hb := hb.step0 E2690
 refine op_nil (ev_hit hN rfl) ?_
 refine op_field fld71_0 (ev_hit hN rfl) ?_
 have hx_old := hx
 refine op_store (vs := [(ptr b2689 0)]) (cs' := [(ptr b2689 0)]) size69 (ev_hit hN rfl) (ev_hit hN rfl) rfl rfl rfl hx (Nat.le_of_ble_eq_true rfl) rfl ?_
 intro w2694 hx E2695
 have z_w2694 := E2695.size
 have hk := hk.keep E2695 (fun k hk => by have e9 := Option.some.inj hk; subst e9; exact hap _ hFp)
 have hB2691 := hB2691.keep E2695 (fun hh => hB2691.ne hx_old (by decide) (Option.some.inj hh))
 have hb := hb.stepB E2695 hFp
 refine reg_nil ?_
 refine hK2686 _ _ ?_
 refine seq_any fun K2696 hK2696 => ?_
 have hT2697 : TreeR kI (fun j => R j ∨ w.heap.size ≤ j) w2694 0 b2689 (([] : List (Ky × (Int))) : Tr (Int) 0) (leafW b2689 nilV) := mkLeaf (D := []) hB2691 (Own.nil _ 0 _ _) (fun _ h => (by cases h)) (fun _ h => (by cases h)) rfl
 have hlo : ∀ j, leafW b2689 nilV j → w.heap.size ≤ j := leafW_fresh (e := 0) (sz := 0) (b := 0) (cs := []) (by omega) (Own.nil w2694 _ 0 0)
 refine reg_split (hd := [_, _, _, _, _, _, _, _, _]) (tl := _) 9 mixed (by kernel_rfl) rfl rfl ?_
 refine any_env (φ := phiV [(fun uz => uz = (ptr p 0)), (fun uz => uz = (ptr p 0)), (fun uz => uz = (ptr p 0)), (fun uz => uz = (ptr b2689 0)), (fun uz => uz = xv), (fun _ => True), (fun uz => uz = (Value.int .i64 x)), (fun _ => True), (fun _ => True)]) (G := fun w' => Bx w' p 71 [(ptr b2689 0)]) [5, 7, 8] (by kernel_rfl) (by kernel_rfl) (by kernel_rfl) (by kernel_rfl) hN (fun w1 w2 E h => h.keep0 E) hx (ObEs.cons ?_ (ObEs.cons ?_ (ObEs.cons ?_ (ObEs.cons ?_ (ObEs.cons ?_ (ObEs.pass rfl (ObEs.cons ?_ (ObEs.pass rfl (ObEs.pass rfl (ObEs.nil)))))))))) (by simp only [putsL_defers]) ?_
 ·
  intro eA aA wA hNA hGA hbsA hdpA
  have qA_0 := (hbsA 0 rfl).trans (sl_base hN rfl s0)
  refine op_move (ev_base hNA rfl qA_0) ?_
  exact obE_end rfl rfl rfl
 ·
  intro eA aA wA hNA hGA hbsA hdpA
  have qA_23 : Sl aA 23 (ptr p 0) := (hdpA 0 _ 23 (by kernel_rfl) rfl rfl).2 rfl
  refine op_nil (ev_base hNA rfl qA_23) ?_
  exact obE_end rfl rfl rfl
 ·
  intro eA aA wA hNA hGA hbsA hdpA
  have qA_24 : Sl aA 24 (ptr p 0) := (hdpA 1 _ 24 (by kernel_rfl) rfl rfl).2 rfl
  refine op_field fld71_0 (ev_base hNA rfl qA_24) ?_
  exact obE_end rfl rfl rfl
 ·
  intro eA aA wA hNA hGA hbsA hdpA
  have qA_25 : Sl aA 25 (ptr p 0) := (hdpA 2 _ 25 (by kernel_rfl) rfl rfl).2 rfl
  refine op_load1 (v := (ptr b2689 0)) one69 (ev_base hNA rfl qA_25) (hGA.cell rfl) ?_
  exact obE_end rfl rfl rfl
 ·
  intro eA aA wA hNA hGA hbsA hdpA
  have qA_1 := (hbsA 1 rfl).trans (sl_base hN rfl s1)
  refine op_move (ev_base hNA rfl qA_1) ?_
  exact obE_end rfl rfl rfl
 ·
  intro eA aA wA hNA hGA hbsA hdpA
  have qA_2 := (hbsA 2 rfl).trans (sl_base hN rfl s2)
  refine op_move (ev_base hNA rfl qA_2) ?_
  exact obE_end rfl rfl rfl
 ·
  intro w2698 E2698 _ a2698 hN2698 hbs2698 hdp2698 o_ ho_; obtain rfl := Option.some.inj ho_
  have z_w2698 := E2698.size
  have hk := hk.keep0 E2698
  have hx := hx.keep0 E2698
  have hT2697 := hT2697.keepG (Gr.of0 E2698 NoB) (fun _ _ h => h) (NoK.no _)
  have hb := hb.step0 E2698
  have q2698_27 : Sl a2698 27 xv := (hdp2698 4 _ 27 (by kernel_rfl) rfl rfl).2 rfl
  refine op_fn (vs := [xv]) ok41 ⟨(ev_base hN2698 rfl q2698_27), trivial⟩ (clB (hk.mono (Nat.zero_le _) (by omega)) (by omega)) ?_
  rintro v2699 w2700 ⟨E2701, hO2699⟩
  have dj2702 : Dj (leafW b2689 nilV) (Bl v2699) := Dj.fresh (fun k hk => (hT2697.lt k hk).2) (fun k hk => (hO2699.lt k hk).1)
  have E2701 := grown_of_below E2701
  have z_w2700 := E2701.size
  have hk := hk.keep0 E2701
  have hx := hx.keep0 E2701
  have hT2697 := hT2697.keepG (Gr.of0 E2701 NoB) (fun _ _ h => h) (NoK.no _)
  have hb := hb.step0 E2701
  have hO2699 := hO2699.mono (base' := w.heap.size) (by omega)
  skip
  refine ke_end rfl (by decide) rfl hx ?_
  intro w2703 E2703 _ a2703 hN2703 hbs2703 hdp2703 o_ ho_; obtain rfl := Option.some.inj ho_
  have z_w2703 := E2703.size
  have hk := hk.keep0 E2703
  have hx := hx.keep0 E2703
  have hT2697 := hT2697.keepG (Gr.of0 E2703 NoB) (fun _ _ h => h) (NoK.no _)
  have hO2699 := hO2699.keep0 E2703
  have hb := hb.step0 E2703
  have q2703_28 : Sl a2703 28 v2699 := (Option.some.inj ((hdp2703 5 _ 28 (by kernel_rfl) rfl rfl).1 0 rfl)).symm
  have q2703_29 : Sl a2703 29 (Value.int .i64 x) := (hdp2703 6 _ 29 (by kernel_rfl) rfl rfl).2 rfl
  refine op_build (pv := [(0, v2699), (1, (Value.int .i64 x))]) (v := (Value.agg #[v2699, (Value.int .i64 x)])) ⟨rfl, (ev_base hN2703 rfl q2703_28), ⟨rfl, (ev_base hN2703 rfl q2703_29), trivial⟩⟩ (by obtain ⟨_, _, _, rfl⟩ := hO2699.sl; kernel_rfl) ?_
  refine ke_end rfl (by decide) rfl hx ?_
  intro w2704 E2704 _ a2704 hN2704 hbs2704 hdp2704 o_ ho_; obtain rfl := Option.some.inj ho_
  have z_w2704 := E2704.size
  have hk := hk.keep0 E2704
  have hx := hx.keep0 E2704
  have hT2697 := hT2697.keepG (Gr.of0 E2704 NoB) (fun _ _ h => h) (NoK.no _)
  have hO2699 := hO2699.keep0 E2704
  have hb := hb.step0 E2704
  have q2704_26 : Sl a2704 26 (ptr b2689 0) := (hdp2704 3 _ 26 (by kernel_rfl) rfl rfl).2 rfl
  have q2704_30 : Sl a2704 30 (Value.agg #[v2699, (Value.int .i64 x)]) := (Option.some.inj ((hdp2704 7 _ 30 (by kernel_rfl) rfl rfl).1 1 rfl)).symm
  rcases Bool.eq_false_or_eq_true (((putT 0 k x (([] : List (Ky × (Int))) : Tr (Int) 0)).2.2.isSome)) with k31 | k31
  · -- 31T
   cases (show false = true from k31)
  · -- 31F
   refine op_fn (vs := [(ptr b2689 0), (Value.agg #[v2699, (Value.int .i64 x)])]) ok48 ⟨(ev_base hN2704 rfl q2704_26), ⟨(ev_base hN2704 rfl q2704_30), trivial⟩⟩ (putAllI 0 hT2697 (show Sorted ([] : List Ky) from List.Pairwise.nil) (Nat.zero_le 6) (hO2699.mono (Nat.zero_le _)) (fun j hj => .inr (hO2699.lt j hj).1)) ?_
   rintro _ w2706 ⟨E2707, u2705, m2705, rfl, ho2705⟩
   have bd2708 := hx.lt
   have bd2709 := hO2699.lt
   have dj2710 := (hT2697.notBx hx (by decide) (by decide) (by decide) (by decide))
   have dj2711 := dj2702.symm
   obtain ⟨hr2705, rfl, rfl, W1_2705, hT2705, hN1_2705⟩ := outR_none k31 ho2705
   have hT2697_old := hT2697
   have z_w2706 := E2707.size
   have hx := hx.keepG E2707 dj2710
   have hO2699 := hO2699.keepG E2707 dj2711
   have hb := hb.stepF E2707 (fun k hk h => absurd (hlo k h) (by omega))
   have dj2712 : ¬ W1_2705 p := ne_stepF hN1_2705 bd2708 dj2710
   have dj2713 : Dj (Bl v2699) W1_2705 := Dj.stepF hN1_2705 (fun k hk => (bd2709 k hk).2) dj2711
   have hin2714 : ∀ j, W1_2705 j → F j ∨ w.heap.size ≤ j := fun j hj => (hN1_2705 j hj).elim (fun h => .inr (hlo j h)) (fun h => .inr (by omega))
   refine ke_end rfl (by decide) rfl hx ?_
   intro w2715 E2715 a2715 hN2715 hd2715 hbs2715 hph2715
   have hd2715 := hd2715.trans ((by simp only [putsL_defers] : _ = _).trans hd)
   have z_w2715 := E2715.size
   have hx := hx.keep0 E2715
   have hO2699 := hO2699.keep0 E2715
   have hT2705 := hT2705.keepG (Gr.of0 E2715 NoB) (fun _ _ h => h) (NoK.no _)
   have hb := hb.step0 E2715
   have s2715_0 := (hbs2715 0 rfl).trans (sl_base hN rfl s0)
   have s2715_6 := (hbs2715 6 rfl).trans (sl_hit hN rfl)
   have s2715_31 : Sl a2715 31 (Value.tuple #[(Value.bool (putT 0 k x (([] : List (Ky × (Int))) : Tr (Int) 0)).1), (Value.slice none 0 0), (Value.pointer none)]) := (Option.some.inj ((hph2715 8 _ 31 rfl rfl).1 2 rfl)).symm
   refine split_end ?_
   refine from_still (m := 16) 7 (hd := [_, _, _, _, _, _, _]) (by kernel_rfl) rfl rfl ?_
   refine st_step rfl (fun _ h9 => op_move (ev_base hN2715 rfl s2715_31) h9) ?_
   refine st_step rfl (fun _ h9 => op_extract (ev_hit hN2715 rfl) rfl h9) ?_
   refine st_step rfl (fun _ h9 => op_extract (ev_hit hN2715 rfl) rfl h9) ?_
   refine st_step rfl (fun _ h9 => op_extract (ev_hit hN2715 rfl) rfl h9) ?_
   refine st_step rfl (fun _ h9 => op_assign (ev_hit hN2715 rfl) h9) ?_
   refine st_step rfl (fun _ h9 => op_assign (ev_hit hN2715 rfl) h9) ?_
   refine st_step rfl (fun _ h9 => op_assign (ev_hit hN2715 rfl) h9) ?_
   refine st_nil ?_
   refine from_end ?_ rfl
   refine hK2696 _ _ ?_
   refine seq_any fun K2716 hK2716 => ?_
   refine seq_any fun K2717 hK2717 => ?_
   refine one_reg ?_
   refine op_move (ev_hit hN2715 rfl) ?_
   refine op_pne_none ptrt69 (ev_hit hN2715 rfl) rfl ?_
   refine reg_nil ?_
   refine hK2717 _ _ ?_
   refine wp_cond_false (ev_hit hN2715 rfl) ?_
   refine wp_skip ?_
   refine hK2716 _ _ ?_
   refine seq_any fun K2718 hK2718 => ?_
   refine one_reg ?_
   refine op_move (ev_hit hN2715 rfl) ?_
   refine op_assign (ev_hit hN2715 rfl) ?_
   refine reg_nil ?_
   refine hK2718 _ _ ?_
   refine wp_ret ?_
   refine ret1 rfl hd2715 (ev_hit hN2715 rfl) ⟨_, rfl, ?_⟩
   -- path 31F
   exact ⟨hb, rfl, b2689, W1_2705, hx, (by rw [hr2705]; exact hT2705), hin2714⟩

theorem putT1I {k : List UInt8} {xv : Value} {x : Int} {F : Nat → Prop} {p : Nat} {h q : Nat} {t : Tr (Int) h} {W : Nat → Prop} {R : Nat → Prop} {w : World} (hx : Bx w p 71 [ptr q 0]) (hFp : F p) (hT : TreeR kI R w h q t W) (hFW : ∀ j, W j → F j) (hO : Ok h t) (h6 : szT h t ≤ 6) {L B : Nat} (hk : RdC w L B 1 xv k.length (k.map u8v)) (hB : B ≤ w.heap.size) (hap : ∀ j, F j → j < L ∨ B ≤ j) (hkn : k.length ≤ 1000000000) : Ret Try.prog 23 #[(ptr p 0), xv, (Value.int .i64 x)] w (fun v' w' => Gr w w' F ∧ v' = .bool (putT h k x t).1 ∧ ∃ q2 W2, Bx w' p 71 [ptr q2 0] ∧ TreeO kI (fun j => R j ∨ w.heap.size ≤ j) w' (grown h (putT h k x t).2.1 (putT h k x t).2.2) q2 W2 ∧ ∀ j, W2 j → F j ∨ w.heap.size ≤ j) := by
 have hi_p := hx.lt
 have hT1 : TreeR kI (fun j => R j ∨ w.heap.size ≤ j) w h q t W := hT.monoR (fun j h => .inl h)
 have hb := Gr.refl w F
 refine enter (N := 51) Try.func23 rfl rfl (by simp) fun a0 hN hd hA => ?_
 have s0 : a0.tmps.getD 0 undef = (ptr p 0) := hA 0 (by simp)
 have s1 : a0.tmps.getD 1 undef = xv := hA 1 (by simp)
 have s2 : a0.tmps.getD 2 undef = (Value.int .i64 x) := hA 2 (by simp)
 clear hA
 refine seq_any fun K2719 hK2719 => ?_
 refine one_reg ?_
 refine op_assign rfl ?_
 refine reg_nil ?_
 refine hK2719 _ _ ?_
 refine seq_any fun K2720 hK2720 => ?_
 refine seq_any fun K2721 hK2721 => ?_
 refine one_reg ?_
 refine op_move (ev_base hN rfl s0) ?_
 refine op_peq_some ptrt45 (ev_hit hN rfl) rfl ?_
 refine reg_nil ?_
 refine hK2721 _ _ ?_
 refine wp_cond_false (ev_hit hN rfl) ?_
 refine wp_skip ?_
 refine hK2720 _ _ ?_
 refine seq_any fun K2722 hK2722 => ?_
 refine seq_any fun K2723 hK2723 => ?_
 refine one_reg ?_
 refine op_move (ev_base hN rfl s0) ?_
 refine op_nil (ev_hit hN rfl) ?_
 refine op_field fld71_0 (ev_hit hN rfl) ?_
 refine op_load1 (v := (ptr q 0)) one69 (ev_hit hN rfl) (hx.cell rfl) ?_
 refine op_peq_some ptrt69 (ev_hit hN rfl) rfl ?_
 refine reg_nil ?_
 refine hK2723 _ _ ?_
 refine wp_cond_false (ev_hit hN rfl) ?_
 refine wp_skip ?_
 refine hK2722 _ _ ?_
 refine seq_any fun K2724 hK2724 => ?_
 refine reg_split (hd := [_, _, _, _, _, _, _, _, _]) (tl := _) 9 mixed (by kernel_rfl) rfl rfl ?_
 refine any_env (φ := phiV [(fun uz => uz = (ptr p 0)), (fun uz => uz = (ptr p 0)), (fun uz => uz = (ptr p 0)), (fun uz => uz = (ptr q 0)), (fun uz => uz = xv), (fun _ => True), (fun uz => uz = (Value.int .i64 x)), (fun _ => True), (fun _ => True)]) (G := fun w' => Bx w' p 71 [(ptr q 0)]) [5, 7, 8] (by kernel_rfl) (by kernel_rfl) (by kernel_rfl) (by kernel_rfl) hN (fun w1 w2 E h => h.keep0 E) hx (ObEs.cons ?_ (ObEs.cons ?_ (ObEs.cons ?_ (ObEs.cons ?_ (ObEs.cons ?_ (ObEs.pass rfl (ObEs.cons ?_ (ObEs.pass rfl (ObEs.pass rfl (ObEs.nil)))))))))) (by simp only [putsL_defers]) ?_
 ·
  intro eA aA wA hNA hGA hbsA hdpA
  have qA_0 := (hbsA 0 rfl).trans (sl_base hN rfl s0)
  refine op_move (ev_base hNA rfl qA_0) ?_
  exact obE_end rfl rfl rfl
 ·
  intro eA aA wA hNA hGA hbsA hdpA
  have qA_23 : Sl aA 23 (ptr p 0) := (hdpA 0 _ 23 (by kernel_rfl) rfl rfl).2 rfl
  refine op_nil (ev_base hNA rfl qA_23) ?_
  exact obE_end rfl rfl rfl
 ·
  intro eA aA wA hNA hGA hbsA hdpA
  have qA_24 : Sl aA 24 (ptr p 0) := (hdpA 1 _ 24 (by kernel_rfl) rfl rfl).2 rfl
  refine op_field fld71_0 (ev_base hNA rfl qA_24) ?_
  exact obE_end rfl rfl rfl
 ·
  intro eA aA wA hNA hGA hbsA hdpA
  have qA_25 : Sl aA 25 (ptr p 0) := (hdpA 2 _ 25 (by kernel_rfl) rfl rfl).2 rfl
  refine op_load1 (v := (ptr q 0)) one69 (ev_base hNA rfl qA_25) (hGA.cell rfl) ?_
  exact obE_end rfl rfl rfl
 ·
  intro eA aA wA hNA hGA hbsA hdpA
  have qA_1 := (hbsA 1 rfl).trans (sl_base hN rfl s1)
  refine op_move (ev_base hNA rfl qA_1) ?_
  exact obE_end rfl rfl rfl
 ·
  intro eA aA wA hNA hGA hbsA hdpA
  have qA_2 := (hbsA 2 rfl).trans (sl_base hN rfl s2)
  refine op_move (ev_base hNA rfl qA_2) ?_
  exact obE_end rfl rfl rfl
 ·
  intro w2725 E2725 _ a2725 hN2725 hbs2725 hdp2725 o_ ho_; obtain rfl := Option.some.inj ho_
  have z_w2725 := E2725.size
  have hx := hx.keep0 E2725
  have hk := hk.keep0 E2725
  have hT1 := hT1.keepG (Gr.of0 E2725 NoB) (fun _ _ h => h) (NoK.no _)
  have hb := hb.step0 E2725
  have q2725_27 : Sl a2725 27 xv := (hdp2725 4 _ 27 (by kernel_rfl) rfl rfl).2 rfl
  refine op_fn (vs := [xv]) ok41 ⟨(ev_base hN2725 rfl q2725_27), trivial⟩ (clB (hk.mono (Nat.zero_le _) (by omega)) (by omega)) ?_
  rintro v2726 w2727 ⟨E2728, hO2726⟩
  have dj2729 : Dj W (Bl v2726) := Dj.fresh (fun k hk => (hT1.lt k hk).2) (fun k hk => (hO2726.lt k hk).1)
  have E2728 := grown_of_below E2728
  have z_w2727 := E2728.size
  have hx := hx.keep0 E2728
  have hk := hk.keep0 E2728
  have hT1 := hT1.keepG (Gr.of0 E2728 NoB) (fun _ _ h => h) (NoK.no _)
  have hb := hb.step0 E2728
  have hO2726 := hO2726.mono (base' := w.heap.size) (by omega)
  skip
  refine ke_end rfl (by decide) rfl hx ?_
  intro w2730 E2730 _ a2730 hN2730 hbs2730 hdp2730 o_ ho_; obtain rfl := Option.some.inj ho_
  have z_w2730 := E2730.size
  have hx := hx.keep0 E2730
  have hk := hk.keep0 E2730
  have hT1 := hT1.keepG (Gr.of0 E2730 NoB) (fun _ _ h => h) (NoK.no _)
  have hO2726 := hO2726.keep0 E2730
  have hb := hb.step0 E2730
  have q2730_28 : Sl a2730 28 v2726 := (Option.some.inj ((hdp2730 5 _ 28 (by kernel_rfl) rfl rfl).1 0 rfl)).symm
  have q2730_29 : Sl a2730 29 (Value.int .i64 x) := (hdp2730 6 _ 29 (by kernel_rfl) rfl rfl).2 rfl
  refine op_build (pv := [(0, v2726), (1, (Value.int .i64 x))]) (v := (Value.agg #[v2726, (Value.int .i64 x)])) ⟨rfl, (ev_base hN2730 rfl q2730_28), ⟨rfl, (ev_base hN2730 rfl q2730_29), trivial⟩⟩ (by obtain ⟨_, _, _, rfl⟩ := hO2726.sl; kernel_rfl) ?_
  refine ke_end rfl (by decide) rfl hx ?_
  intro w2731 E2731 _ a2731 hN2731 hbs2731 hdp2731 o_ ho_; obtain rfl := Option.some.inj ho_
  have z_w2731 := E2731.size
  have hx := hx.keep0 E2731
  have hk := hk.keep0 E2731
  have hT1 := hT1.keepG (Gr.of0 E2731 NoB) (fun _ _ h => h) (NoK.no _)
  have hO2726 := hO2726.keep0 E2731
  have hb := hb.step0 E2731
  have q2731_26 : Sl a2731 26 (ptr q 0) := (hdp2731 3 _ 26 (by kernel_rfl) rfl rfl).2 rfl
  have q2731_30 : Sl a2731 30 (Value.agg #[v2726, (Value.int .i64 x)]) := (Option.some.inj ((hdp2731 7 _ 30 (by kernel_rfl) rfl rfl).1 1 rfl)).symm
  rcases Bool.eq_false_or_eq_true (((putT h k x t).2.2.isSome)) with k31 | k31
  · -- 31T
   refine op_fn (vs := [(ptr q 0), (Value.agg #[v2726, (Value.int .i64 x)])]) ok48 ⟨(ev_base hN2731 rfl q2731_26), ⟨(ev_base hN2731 rfl q2731_30), trivial⟩⟩ (putAllI h hT1 hO h6 (hO2726.mono (Nat.zero_le _)) (fun j hj => .inr (hO2726.lt j hj).1)) ?_
   rintro _ w2733 ⟨E2734, u2732, m2732, rfl, ho2732⟩
   have bd2735 := hx.lt
   have bd2736 := hO2726.lt
   have dj2737 := (hT1.notBx hx (by decide) (by decide) (by decide) (by decide))
   have dj2738 := dj2729.symm
   obtain ⟨y2732, t2_2732, q2732, W1_2732, W2_2732, hr2732, rfl, hu2732, hur2732, hT2732, hT2_2732, hN1_2732, hN2_2732, hd2732⟩ := outR_some k31 ho2732
   have hT1_old := hT1
   have z_w2733 := E2734.size
   have hx := hx.keepG E2734 dj2737
   have hO2726 := hO2726.keepG E2734 dj2738
   have hb := hb.stepF E2734 (fun k _ h => hFW k h)
   have dj2739 : ¬ W1_2732 p := ne_stepF hN1_2732 bd2735 dj2737
   have dj2740 : Dj (Bl v2726) W1_2732 := Dj.stepF hN1_2732 (fun k hk => (bd2736 k hk).2) dj2738
   have hin2741 : ∀ j, W1_2732 j → F j ∨ w.heap.size ≤ j := fun j hj => (hN1_2732 j hj).elim (fun h => .inl (hFW j h)) (fun h => .inr (by omega))
   have dj2742 : ¬ W2_2732 p := ne_stepF hN2_2732 bd2735 dj2737
   have dj2743 : Dj (Bl v2726) W2_2732 := Dj.stepF hN2_2732 (fun k hk => (bd2736 k hk).2) dj2738
   have hin2744 : ∀ j, W2_2732 j → F j ∨ w.heap.size ≤ j := fun j hj => (hN2_2732 j hj).elim (fun h => .inl (hFW j h)) (fun h => .inr (by omega))
   refine ke_end rfl (by decide) rfl hx ?_
   intro w2745 E2745 a2745 hN2745 hd2745 hbs2745 hph2745
   have hd2745 := hd2745.trans ((by simp only [putsL_defers] : _ = _).trans hd)
   have z_w2745 := E2745.size
   have hx := hx.keep0 E2745
   have hO2726 := hO2726.keep0 E2745
   have hT2732 := hT2732.keepG (Gr.of0 E2745 NoB) (fun _ _ h => h) (NoK.no _)
   have hT2_2732 := hT2_2732.keepG (Gr.of0 E2745 NoB) (fun _ _ h => h) (NoK.no _)
   have hu2732 := hu2732.keep0 E2745
   have hb := hb.step0 E2745
   have s2745_0 := (hbs2745 0 rfl).trans (sl_base hN rfl s0)
   have s2745_6 := (hbs2745 6 rfl).trans (sl_hit hN rfl)
   have s2745_31 : Sl a2745 31 (Value.tuple #[(Value.bool (putT h k x t).1), u2732, (ptr q2732 0)]) := (Option.some.inj ((hph2745 8 _ 31 rfl rfl).1 2 rfl)).symm
   refine split_end ?_
   refine from_still (m := 16) 7 (hd := [_, _, _, _, _, _, _]) (by kernel_rfl) rfl rfl ?_
   refine st_step rfl (fun _ h9 => op_move (ev_base hN2745 rfl s2745_31) h9) ?_
   refine st_step rfl (fun _ h9 => op_extract (ev_hit hN2745 rfl) rfl h9) ?_
   refine st_step rfl (fun _ h9 => op_extract (ev_hit hN2745 rfl) rfl h9) ?_
   refine st_step rfl (fun _ h9 => op_extract (ev_hit hN2745 rfl) rfl h9) ?_
   refine st_step rfl (fun _ h9 => op_assign (ev_hit hN2745 rfl) h9) ?_
   refine st_step rfl (fun _ h9 => op_assign (ev_hit hN2745 rfl) h9) ?_
   refine st_step rfl (fun _ h9 => op_assign (ev_hit hN2745 rfl) h9) ?_
   refine st_nil ?_
   refine from_end ?_ rfl
   refine hK2724 _ _ ?_
   refine seq_any fun K2746 hK2746 => ?_
   refine seq_any fun K2747 hK2747 => ?_
   refine one_reg ?_
   refine op_move (ev_hit hN2745 rfl) ?_
   refine op_pne_some ptrt69 (ev_hit hN2745 rfl) rfl ?_
   refine reg_nil ?_
   refine hK2747 _ _ ?_
   refine wp_cond_true (ev_hit hN2745 rfl) ?_
   refine one_reg ?_
   refine op_move (ev_base hN2745 rfl s2745_0) ?_
   refine op_move (ev_hit hN2745 rfl) ?_
   refine op_bslice (e := 27) (pv := [(0, u2732)]) (cs := [u2732]) ⟨rfl, (ev_hit hN2745 rfl), trivial⟩ (by obtain ⟨_, _, _, rfl⟩ := hu2732.sl; kernel_rfl) ?_
   intro w2748 b2749 lo_b2749 hi_b2749 hB2751 E2750
   have dj2752 : ¬ W1_2732 b2749 := fun hf => by have := (hT2732.lt _ hf).2; omega
   have dj2753 : ¬ W2_2732 b2749 := fun hf => by have := (hT2_2732.lt _ hf).2; omega
   have z_w2748 := E2750.size
   have hx := hx.keep0 E2750
   have hO2726 := hO2726.keep0 E2750
   have hT2732 := hT2732.keepG (Gr.of0 E2750 NoB) (fun _ _ h => h) (NoK.no _)
   have hT2_2732 := hT2_2732.keepG (Gr.of0 E2750 NoB) (fun _ _ h => h) (NoK.no _)
   have hu2732 := hu2732.keep0 E2750
   have hb := hb.step0 E2750
   refine op_move (ev_base hN2745 rfl s2745_0) ?_
   refine op_nil (ev_hit hN2745 rfl) ?_
   refine op_field fld71_0 (ev_hit hN2745 rfl) ?_
   refine op_load1 (v := (ptr q 0)) one69 (ev_hit hN2745 rfl) (hx.cell rfl) ?_
   refine op_move (ev_hit hN2745 rfl) ?_
   refine op_bslice (e := 69) (pv := [(0, (ptr q 0)), (1, (ptr q2732 0))]) (cs := [(ptr q 0), (ptr q2732 0)]) ⟨rfl, (ev_hit hN2745 rfl), ⟨rfl, (ev_hit hN2745 rfl), trivial⟩⟩ (by kernel_rfl) ?_
   intro w2754 b2755 lo_b2755 hi_b2755 hB2757 E2756
   have dj2758 : ¬ W1_2732 b2755 := fun hf => by have := (hT2732.lt _ hf).2; omega
   have dj2759 : ¬ W2_2732 b2755 := fun hf => by have := (hT2_2732.lt _ hf).2; omega
   have z_w2754 := E2756.size
   have hx := hx.keep0 E2756
   have hO2726 := hO2726.keep0 E2756
   have hT2732 := hT2732.keepG (Gr.of0 E2756 NoB) (fun _ _ h => h) (NoK.no _)
   have hT2_2732 := hT2_2732.keepG (Gr.of0 E2756 NoB) (fun _ _ h => h) (NoK.no _)
   have hu2732 := hu2732.keep0 E2756
   have hB2751 := hB2751.keep0 E2756
   have hb := hb.step0 E2756
   refine op_build (pv := [(1, (Value.slice (some ⟨b2749, 0, none⟩) 1 1)), (2, (Value.slice (some ⟨b2755, 0, none⟩) 2 2))]) (v := (Value.agg #[(Value.slice none 0 0), (Value.slice (some ⟨b2749, 0, none⟩) 1 1), (Value.slice (some ⟨b2755, 0, none⟩) 2 2)])) ⟨rfl, (ev_hit hN2745 rfl), ⟨rfl, (ev_hit hN2745 rfl), trivial⟩⟩ (by kernel_rfl) ?_
   refine op_box (cs := [(Value.slice none 0 0), (Value.slice (some ⟨b2749, 0, none⟩) 1 1), (Value.slice (some ⟨b2755, 0, none⟩) 2 2)]) (ev_hit hN2745 rfl) rfl ?_
   intro w2760 b2761 lo_b2761 hi_b2761 hB2763 E2762
   have dj2764 : ¬ W1_2732 b2761 := fun hf => by have := (hT2732.lt _ hf).2; omega
   have dj2765 : ¬ W2_2732 b2761 := fun hf => by have := (hT2_2732.lt _ hf).2; omega
   have z_w2760 := E2762.size
   have hx := hx.keep0 E2762
   have hO2726 := hO2726.keep0 E2762
   have hT2732 := hT2732.keepG (Gr.of0 E2762 NoB) (fun _ _ h => h) (NoK.no _)
   have hT2_2732 := hT2_2732.keepG (Gr.of0 E2762 NoB) (fun _ _ h => h) (NoK.no _)
   have hu2732 := hu2732.keep0 E2762
   have hB2751 := hB2751.keep0 E2762
   have hB2757 := hB2757.keep0 E2762
   have hb := hb.step0 E2762
   refine op_nil (ev_hit hN2745 rfl) ?_
   refine op_field fld71_0 (ev_hit hN2745 rfl) ?_
   have hx_old := hx
   refine op_store (vs := [(ptr b2761 0)]) (cs' := [(ptr b2761 0)]) size69 (ev_hit hN2745 rfl) (ev_hit hN2745 rfl) rfl rfl rfl hx (Nat.le_of_ble_eq_true rfl) rfl ?_
   intro w2768 hx E2769
   have z_w2768 := E2769.size
   have hO2726 := hO2726.keepX hx_old E2769 (by decide)
   have hT2732 := hT2732.keepG (Gr.of E2769) (Dj.one dj2739) (NoK.ofBx hx_old (by decide))
   have hT2_2732 := hT2_2732.keepG (Gr.of E2769) (Dj.one dj2742) (NoK.ofBx hx_old (by decide))
   have hu2732 := hu2732.keepX hx_old E2769 (by decide)
   have hB2751 := hB2751.keep E2769 (fun hh => hB2751.ne hx_old (by decide) (Option.some.inj hh))
   have hB2757 := hB2757.keep E2769 (fun hh => hB2757.ne hx_old (by decide) (Option.some.inj hh))
   have hB2763 := hB2763.keep E2769 (fun hh => hB2763.ne hx_old (by decide) (Option.some.inj hh))
   have hb := hb.stepB E2769 hFp
   refine reg_nil ?_
   refine hK2746 _ _ ?_
   refine seq_any fun K2770 hK2770 => ?_
   refine one_reg ?_
   refine op_move (ev_hit hN2745 rfl) ?_
   refine op_assign (ev_hit hN2745 rfl) ?_
   refine reg_nil ?_
   refine hK2770 _ _ ?_
   refine wp_ret ?_
   refine ret1 rfl hd2745 (ev_hit hN2745 rfl) ⟨_, rfl, ?_⟩
   -- path 31T
   exact ⟨hb, rfl, b2761, _, hx, (by rw [hr2732]; exact (mkNode (κ := kI) (K := [(u2732, y2732)]) (P := [q, q2732]) (ts := [(putT h k x t).2.1, t2_2732]) hB2763 (Own.ofBx (base := 0) (sz := 1) (n := 1) hB2751 rfl (by decide) (Nat.zero_le _)) (Own.ofBx (base := 0) (sz := 1) (n := 2) hB2757 rfl (by decide) (Nat.zero_le _)) (fun x hx => by rw [List.mem_singleton.1 hx]; exact hu2732) (fun x hx => by rw [List.mem_singleton.1 hx]; exact hur2732) (Kids.ins (i := 0) (Kids.ins (i := 0) (Kids.nil (TreeR kI (fun j => R j ∨ w.heap.size ≤ j) w2768 h)) (Nat.zero_le _) hT2_2732 (fun _ _ h => h)) (Nat.zero_le _) hT2732 (fun k h1 h2 => h2.elim (hd2732 k h1) (fun h => h))) (fun h9 => h9.elim dj2764 (fun h8 => h8.elim dj2765 (fun h => h))) (fun j hj h9 => h9.elim ((Dj.one dj2752).symm j hj) (fun h8 => h8.elim ((Dj.one dj2753).symm j hj) (fun h => h))) (fun j hj h9 => h9.elim ((Dj.one dj2758).symm j hj) (fun h8 => h8.elim ((Dj.one dj2759).symm j hj) (fun h => h))))), fun j hj => by
       rcases hj with rfl | hj | hj | hj | hj | hj
       · exact .inr (by omega)
       · exact .inr (by have e9 : b2749 = j := Option.some.inj hj; omega)
       · exact .inr (by have e9 : b2755 = j := Option.some.inj hj; omega)
       · exact hin2741 j hj
       · exact hin2744 j hj
       · exact hj.elim⟩
  · -- 31F
   refine op_fn (vs := [(ptr q 0), (Value.agg #[v2726, (Value.int .i64 x)])]) ok48 ⟨(ev_base hN2731 rfl q2731_26), ⟨(ev_base hN2731 rfl q2731_30), trivial⟩⟩ (putAllI h hT1 hO h6 (hO2726.mono (Nat.zero_le _)) (fun j hj => .inr (hO2726.lt j hj).1)) ?_
   rintro _ w2772 ⟨E2773, u2771, m2771, rfl, ho2771⟩
   have bd2774 := hx.lt
   have bd2775 := hO2726.lt
   have dj2776 := (hT1.notBx hx (by decide) (by decide) (by decide) (by decide))
   have dj2777 := dj2729.symm
   obtain ⟨hr2771, rfl, rfl, W1_2771, hT2771, hN1_2771⟩ := outR_none k31 ho2771
   have hT1_old := hT1
   have z_w2772 := E2773.size
   have hx := hx.keepG E2773 dj2776
   have hO2726 := hO2726.keepG E2773 dj2777
   have hb := hb.stepF E2773 (fun k _ h => hFW k h)
   have dj2778 : ¬ W1_2771 p := ne_stepF hN1_2771 bd2774 dj2776
   have dj2779 : Dj (Bl v2726) W1_2771 := Dj.stepF hN1_2771 (fun k hk => (bd2775 k hk).2) dj2777
   have hin2780 : ∀ j, W1_2771 j → F j ∨ w.heap.size ≤ j := fun j hj => (hN1_2771 j hj).elim (fun h => .inl (hFW j h)) (fun h => .inr (by omega))
   refine ke_end rfl (by decide) rfl hx ?_
   intro w2781 E2781 a2781 hN2781 hd2781 hbs2781 hph2781
   have hd2781 := hd2781.trans ((by simp only [putsL_defers] : _ = _).trans hd)
   have z_w2781 := E2781.size
   have hx := hx.keep0 E2781
   have hO2726 := hO2726.keep0 E2781
   have hT2771 := hT2771.keepG (Gr.of0 E2781 NoB) (fun _ _ h => h) (NoK.no _)
   have hb := hb.step0 E2781
   have s2781_0 := (hbs2781 0 rfl).trans (sl_base hN rfl s0)
   have s2781_6 := (hbs2781 6 rfl).trans (sl_hit hN rfl)
   have s2781_31 : Sl a2781 31 (Value.tuple #[(Value.bool (putT h k x t).1), (Value.slice none 0 0), (Value.pointer none)]) := (Option.some.inj ((hph2781 8 _ 31 rfl rfl).1 2 rfl)).symm
   refine split_end ?_
   refine from_still (m := 16) 7 (hd := [_, _, _, _, _, _, _]) (by kernel_rfl) rfl rfl ?_
   refine st_step rfl (fun _ h9 => op_move (ev_base hN2781 rfl s2781_31) h9) ?_
   refine st_step rfl (fun _ h9 => op_extract (ev_hit hN2781 rfl) rfl h9) ?_
   refine st_step rfl (fun _ h9 => op_extract (ev_hit hN2781 rfl) rfl h9) ?_
   refine st_step rfl (fun _ h9 => op_extract (ev_hit hN2781 rfl) rfl h9) ?_
   refine st_step rfl (fun _ h9 => op_assign (ev_hit hN2781 rfl) h9) ?_
   refine st_step rfl (fun _ h9 => op_assign (ev_hit hN2781 rfl) h9) ?_
   refine st_step rfl (fun _ h9 => op_assign (ev_hit hN2781 rfl) h9) ?_
   refine st_nil ?_
   refine from_end ?_ rfl
   refine hK2724 _ _ ?_
   refine seq_any fun K2782 hK2782 => ?_
   refine seq_any fun K2783 hK2783 => ?_
   refine one_reg ?_
   refine op_move (ev_hit hN2781 rfl) ?_
   refine op_pne_none ptrt69 (ev_hit hN2781 rfl) rfl ?_
   refine reg_nil ?_
   refine hK2783 _ _ ?_
   refine wp_cond_false (ev_hit hN2781 rfl) ?_
   refine wp_skip ?_
   refine hK2782 _ _ ?_
   refine seq_any fun K2784 hK2784 => ?_
   refine one_reg ?_
   refine op_move (ev_hit hN2781 rfl) ?_
   refine op_assign (ev_hit hN2781 rfl) ?_
   refine reg_nil ?_
   refine hK2784 _ _ ?_
   refine wp_ret ?_
   refine ret1 rfl hd2781 (ev_hit hN2781 rfl) ⟨_, rfl, ?_⟩
   -- path 31F
   exact ⟨hb, rfl, q, W1_2771, hx, (by rw [hr2771]; exact hT2771), hin2780⟩

end Go.Proofs.Ytcpfdfejojghbaa

/- Walks, written by a program: what each function of the translation hands back. -/
namespace Go.Proofs.Ytcpfdfejojghbaa
open Go.Gx Go.RowKit
attribute [local irreducible] wpList wpStill Code.wp Calls
open Go.Bt
theorem putT0S {k : List UInt8} {xv : Value} {x : List UInt8} {F : Nat → Prop} {p : Nat} {R : Nat → Prop} {w : World} (hx : Bx w p 88 [.pointer none]) (hFp : F p) {L B : Nat} (hk : RdC w L B 1 xv k.length (k.map u8v)) (hB : B ≤ w.heap.size) (hap : ∀ j, F j → j < L ∨ B ≤ j) (hkn : k.length ≤ 1000000000) : Ret Try.prog 13 #[(ptr p 0), xv, (Value.string (bs x))] w (fun v' w' => Gr w w' F ∧ v' = .bool (putT 0 k x (([] : List (Ky × (List UInt8))) : Tr (List UInt8) 0)).1 ∧ ∃ q2 W2, Bx w' p 88 [ptr q2 0] ∧ TreeO kS (fun j => R j ∨ w.heap.size ≤ j) w' (grown 0 (putT 0 k x (([] : List (Ky × (List UInt8))) : Tr (List UInt8) 0)).2.1 (putT 0 k x (([] : List (Ky × (List UInt8))) : Tr (List UInt8) 0)).2.2) q2 W2 ∧ ∀ j, W2 j → F j ∨ w.heap.size ≤ j) := by
 have hi_p := hx.lt
 have hb := Gr.refl w F
 refine enter (N := 51) Try.func13 rfl rfl (by simp) fun a0 hN hd hA => ?_
 have s0 : a0.tmps.getD 0 undef = (ptr p 0) := hA 0 (by simp)
 have s1 : a0.tmps.getD 1 undef = xv := hA 1 (by simp)
 have s2 : a0.tmps.getD 2 undef = (Value.string (bs x)) := hA 2 (by simp)
 clear hA
 refine seq_any fun K2785 hK2785 => ?_
 refine one_reg ?_
 refine op_assign rfl ?_
 refine reg_nil ?_
 refine hK2785 _ _ ?_
 refine seq_any fun K2786 hK2786 => ?_
 refine seq_any fun K2787 hK2787 => ?_
 refine one_reg ?_
 refine op_move (ev_base hN rfl s0) ?_
 refine op_peq_some ptrt23 (ev_hit hN rfl) rfl ?_
 refine reg_nil ?_
 refine hK2787 _ _ ?_
 refine wp_cond_false (ev_hit hN rfl) ?_
 refine wp_skip ?_
 refine hK2786 _ _ ?_
 refine seq_any fun K2788 hK2788 => ?_
 refine seq_any fun K2789 hK2789 => ?_
 refine one_reg ?_
 refine op_move (ev_base hN rfl s0) ?_
 refine op_nil (ev_hit hN rfl) ?_
 refine op_field fld88_0 (ev_hit hN rfl) ?_
 refine op_load1 (v := (Value.pointer none)) one86 (ev_hit hN rfl) (hx.cell rfl) ?_
 refine op_peq_none ptrt86 (ev_hit hN rfl) rfl ?_
 refine reg_nil ?_
 refine hK2789 _ _ ?_
 refine wp_cond_true (ev_hit hN rfl) ?_
 refine one_reg ?_
 refine op_move (ev_base hN rfl s0) ?_
 refine op_build (pv := []) (v := (Value.agg #[(Value.slice none 0 0), (Value.slice none 0 0), (Value.slice none 0 0)])) trivial (by kernel_rfl) ?_
 refine op_box (cs := [(Value.slice none 0 0), (Value.slice none 0 0), (Value.slice none 0 0)]) (ev_hit hN rfl) rfl ?_
 intro w2790 b2791 lo_b2791 hi_b2791 hB2793 E2792
 have z_w2790 := E2792.size
 have hx := hx.keep0 E2792
 have hk := hk.keep0 E2792
 have hb := hb.step0 E2792
 refine op_nil (ev_hit hN rfl) ?_
 refine op_field fld88_0 (ev_hit hN rfl) ?_
 have hx_old := hx
 refine op_store (vs := [(ptr b2791 0)]) (cs' := [(ptr b2791 0)]) size86 (ev_hit hN rfl) (ev_hit hN rfl) rfl rfl rfl hx (Nat.le_of_ble_eq_true rfl) rfl ?_
 intro w2796 hx E2797
 have z_w2796 := E2797.size
 have hk := hk.keep E2797 (fun k hk => by have e9 := Option.some.inj hk; subst e9; exact hap _ hFp)
 have hB2793 := hB2793.keep E2797 (fun hh => hB2793.ne hx_old (by decide) (Option.some.inj hh))
 have hb := hb.stepB E2797 hFp
 refine reg_nil ?_
 refine hK2788 _ _ ?_
 refine seq_any fun K2798 hK2798 => ?_
 have hT2799 : TreeR kS (fun j => R j ∨ w.heap.size ≤ j) w2796 0 b2791 (([] : List (Ky × (List UInt8))) : Tr (List UInt8) 0) (leafW b2791 nilV) := mkLeaf (D := []) hB2793 (Own.nil _ 0 _ _) (fun _ h => (by cases h)) (fun _ h => (by cases h)) rfl
 have hlo : ∀ j, leafW b2791 nilV j → w.heap.size ≤ j := leafW_fresh (e := 0) (sz := 0) (b := 0) (cs := []) (by omega) (Own.nil w2796 _ 0 0)
 refine reg_split (hd := [_, _, _, _, _, _, _, _, _]) (tl := _) 9 mixed (by kernel_rfl) rfl rfl ?_
 refine any_env (φ := phiV [(fun uz => uz = (ptr p 0)), (fun uz => uz = (ptr p 0)), (fun uz => uz = (ptr p 0)), (fun uz => uz = (ptr b2791 0)), (fun uz => uz = xv), (fun _ => True), (fun uz => uz = (Value.string (bs x))), (fun _ => True), (fun _ => True)]) (G := fun w' => Bx w' p 88 [(ptr b2791 0)]) [5, 7, 8] (by kernel_rfl) (by kernel_rfl) (by kernel_rfl) (by kernel_rfl) hN (fun w1 w2 E h => h.keep0 E) hx (ObEs.cons ?_ (ObEs.cons ?_ (ObEs.cons ?_ (ObEs.cons ?_ (ObEs.cons ?_ (ObEs.pass rfl (ObEs.cons ?_ (ObEs.pass rfl (ObEs.pass rfl (ObEs.nil)))))))))) (by simp only [putsL_defers]) ?_
 ·
  intro eA aA wA hNA hGA hbsA hdpA
  have qA_0 := (hbsA 0 rfl).trans (sl_base hN rfl s0)
  refine op_move (ev_base hNA rfl qA_0) ?_
  exact obE_end rfl rfl rfl
 ·
  intro eA aA wA hNA hGA hbsA hdpA
  have qA_23 : Sl aA 23 (ptr p 0) := (hdpA 0 _ 23 (by kernel_rfl) rfl rfl).2 rfl
  refine op_nil (ev_base hNA rfl qA_23) ?_
  exact obE_end rfl rfl rfl
 ·
  intro eA aA wA hNA hGA hbsA hdpA
  have qA_24 : Sl aA 24 (ptr p 0) := (hdpA 1 _ 24 (by kernel_rfl) rfl rfl).2 rfl
  refine op_field fld88_0 (ev_base hNA rfl qA_24) ?_
  exact obE_end rfl rfl rfl
 ·
  intro eA aA wA hNA hGA hbsA hdpA
  have qA_25 : Sl aA 25 (ptr p 0) := (hdpA 2 _ 25 (by kernel_rfl) rfl rfl).2 rfl
  refine op_load1 (v := (ptr b2791 0)) one86 (ev_base hNA rfl qA_25) (hGA.cell rfl) ?_
  exact obE_end rfl rfl rfl
 ·
  intro eA aA wA hNA hGA hbsA hdpA
  have qA_1 := (hbsA 1 rfl).trans (sl_base hN rfl s1)
  refine op_move (ev_base hNA rfl qA_1) ?_
  exact obE_end rfl rfl rfl
 ·
  intro eA aA wA hNA hGA hbsA hdpA
  have qA_2 := (hbsA 2 rfl).trans (sl_base hN rfl s2)
  refine op_move (ev_base hNA rfl qA_2) ?_
  exact obE_end rfl rfl rfl
 ·
  intro w2800 E2800 _ a2800 hN2800 hbs2800 hdp2800 o_ ho_; obtain rfl := Option.some.inj ho_
  have z_w2800 := E2800.size
  have hk := hk.keep0 E2800
  have hx := hx.keep0 E2800
  have hT2799 := hT2799.keepG (Gr.of0 E2800 NoB) (fun _ _ h => h) (NoK.no _)
  have hb := hb.step0 E2800
  have q2800_27 : Sl a2800 27 xv := (hdp2800 4 _ 27 (by kernel_rfl) rfl rfl).2 rfl
  refine op_fn (vs := [xv]) ok41 ⟨(ev_base hN2800 rfl q2800_27), trivial⟩ (clB (hk.mono (Nat.zero_le _) (by omega)) (by omega)) ?_
  rintro v2801 w2802 ⟨E2803, hO2801⟩
  have dj2804 : Dj (leafW b2791 nilV) (Bl v2801) := Dj.fresh (fun k hk => (hT2799.lt k hk).2) (fun k hk => (hO2801.lt k hk).1)
  have E2803 := grown_of_below E2803
  have z_w2802 := E2803.size
  have hk := hk.keep0 E2803
  have hx := hx.keep0 E2803
  have hT2799 := hT2799.keepG (Gr.of0 E2803 NoB) (fun _ _ h => h) (NoK.no _)
  have hb := hb.step0 E2803
  have hO2801 := hO2801.mono (base' := w.heap.size) (by omega)
  skip
  refine ke_end rfl (by decide) rfl hx ?_
  intro w2805 E2805 _ a2805 hN2805 hbs2805 hdp2805 o_ ho_; obtain rfl := Option.some.inj ho_
  have z_w2805 := E2805.size
  have hk := hk.keep0 E2805
  have hx := hx.keep0 E2805
  have hT2799 := hT2799.keepG (Gr.of0 E2805 NoB) (fun _ _ h => h) (NoK.no _)
  have hO2801 := hO2801.keep0 E2805
  have hb := hb.step0 E2805
  have q2805_28 : Sl a2805 28 v2801 := (Option.some.inj ((hdp2805 5 _ 28 (by kernel_rfl) rfl rfl).1 0 rfl)).symm
  have q2805_29 : Sl a2805 29 (Value.string (bs x)) := (hdp2805 6 _ 29 (by kernel_rfl) rfl rfl).2 rfl
  refine op_build (pv := [(0, v2801), (1, (Value.string (bs x)))]) (v := (Value.agg #[v2801, (Value.string (bs x))])) ⟨rfl, (ev_base hN2805 rfl q2805_28), ⟨rfl, (ev_base hN2805 rfl q2805_29), trivial⟩⟩ (by obtain ⟨_, _, _, rfl⟩ := hO2801.sl; kernel_rfl) ?_
  refine ke_end rfl (by decide) rfl hx ?_
  intro w2806 E2806 _ a2806 hN2806 hbs2806 hdp2806 o_ ho_; obtain rfl := Option.some.inj ho_
  have z_w2806 := E2806.size
  have hk := hk.keep0 E2806
  have hx := hx.keep0 E2806
  have hT2799 := hT2799.keepG (Gr.of0 E2806 NoB) (fun _ _ h => h) (NoK.no _)
  have hO2801 := hO2801.keep0 E2806
  have hb := hb.step0 E2806
  have q2806_26 : Sl a2806 26 (ptr b2791 0) := (hdp2806 3 _ 26 (by kernel_rfl) rfl rfl).2 rfl
  have q2806_30 : Sl a2806 30 (Value.agg #[v2801, (Value.string (bs x))]) := (Option.some.inj ((hdp2806 7 _ 30 (by kernel_rfl) rfl rfl).1 1 rfl)).symm
  rcases Bool.eq_false_or_eq_true (((putT 0 k x (([] : List (Ky × (List UInt8))) : Tr (List UInt8) 0)).2.2.isSome)) with k31 | k31
  · -- 31T
   cases (show false = true from k31)
  · -- 31F
   refine op_fn (vs := [(ptr b2791 0), (Value.agg #[v2801, (Value.string (bs x))])]) ok40 ⟨(ev_base hN2806 rfl q2806_26), ⟨(ev_base hN2806 rfl q2806_30), trivial⟩⟩ (putAllS 0 hT2799 (show Sorted ([] : List Ky) from List.Pairwise.nil) (Nat.zero_le 6) (hO2801.mono (Nat.zero_le _)) (fun j hj => .inr (hO2801.lt j hj).1)) ?_
   rintro _ w2808 ⟨E2809, u2807, m2807, rfl, ho2807⟩
   have bd2810 := hx.lt
   have bd2811 := hO2801.lt
   have dj2812 := (hT2799.notBx hx (by decide) (by decide) (by decide) (by decide))
   have dj2813 := dj2804.symm
   obtain ⟨hr2807, rfl, rfl, W1_2807, hT2807, hN1_2807⟩ := outR_none k31 ho2807
   have hT2799_old := hT2799
   have z_w2808 := E2809.size
   have hx := hx.keepG E2809 dj2812
   have hO2801 := hO2801.keepG E2809 dj2813
   have hb := hb.stepF E2809 (fun k hk h => absurd (hlo k h) (by omega))
   have dj2814 : ¬ W1_2807 p := ne_stepF hN1_2807 bd2810 dj2812
   have dj2815 : Dj (Bl v2801) W1_2807 := Dj.stepF hN1_2807 (fun k hk => (bd2811 k hk).2) dj2813
   have hin2816 : ∀ j, W1_2807 j → F j ∨ w.heap.size ≤ j := fun j hj => (hN1_2807 j hj).elim (fun h => .inr (hlo j h)) (fun h => .inr (by omega))
   refine ke_end rfl (by decide) rfl hx ?_
   intro w2817 E2817 a2817 hN2817 hd2817 hbs2817 hph2817
   have hd2817 := hd2817.trans ((by simp only [putsL_defers] : _ = _).trans hd)
   have z_w2817 := E2817.size
   have hx := hx.keep0 E2817
   have hO2801 := hO2801.keep0 E2817
   have hT2807 := hT2807.keepG (Gr.of0 E2817 NoB) (fun _ _ h => h) (NoK.no _)
   have hb := hb.step0 E2817
   have s2817_0 := (hbs2817 0 rfl).trans (sl_base hN rfl s0)
   have s2817_6 := (hbs2817 6 rfl).trans (sl_hit hN rfl)
   have s2817_31 : Sl a2817 31 (Value.tuple #[(Value.bool (putT 0 k x (([] : List (Ky × (List UInt8))) : Tr (List UInt8) 0)).1), (Value.slice none 0 0), (Value.pointer none)]) := (Option.some.inj ((hph2817 8 _ 31 rfl rfl).1 2 rfl)).symm
   refine split_end ?_
   refine from_still (m := 16) 7 (hd := [_, _, _, _, _, _, _]) (by kernel_rfl) rfl rfl ?_
   refine st_step rfl (fun _ h9 => op_move (ev_base hN2817 rfl s2817_31) h9) ?_
   refine st_step rfl (fun _ h9 => op_extract (ev_hit hN2817 rfl) rfl h9) ?_
   refine st_step rfl (fun _ h9 => op_extract (ev_hit hN2817 rfl) rfl h9) ?_
   refine st_step rfl (fun _ h9 => op_extract (ev_hit hN2817 rfl) rfl h9) ?_
   refine st_step rfl (fun _ h9 => op_assign (ev_hit hN2817 rfl) h9) ?_
   refine st_step rfl (fun _ h9 => op_assign (ev_hit hN2817 rfl) h9) ?_
   refine st_step rfl (fun _ h9 => op_assign (ev_hit hN2817 rfl) h9) ?_
   refine st_nil ?_
   refine from_end ?_ rfl
   refine hK2798 _ _ ?_
   refine seq_any fun K2818 hK2818 => ?_
   refine seq_any fun K2819 hK2819 => ?_
   refine one_reg ?_
   refine op_move (ev_hit hN2817 rfl) ?_
   refine op_pne_none ptrt86 (ev_hit hN2817 rfl) rfl ?_
   refine reg_nil ?_
   refine hK2819 _ _ ?_
   refine wp_cond_false (ev_hit hN2817 rfl) ?_
   refine wp_skip ?_
   refine hK2818 _ _ ?_
   refine seq_any fun K2820 hK2820 => ?_
   refine one_reg ?_
   refine op_move (ev_hit hN2817 rfl) ?_
   refine op_assign (ev_hit hN2817 rfl) ?_
   refine reg_nil ?_
   refine hK2820 _ _ ?_
   refine wp_ret ?_
   refine ret1 rfl hd2817 (ev_hit hN2817 rfl) ⟨_, rfl, ?_⟩
   -- path 31F
   exact ⟨hb, rfl, b2791, W1_2807, hx, (by rw [hr2807]; exact hT2807), hin2816⟩

theorem putT1S {k : List UInt8} {xv : Value} {x : List UInt8} {F : Nat → Prop} {p : Nat} {h q : Nat} {t : Tr (List UInt8) h} {W : Nat → Prop} {R : Nat → Prop} {w : World} (hx : Bx w p 88 [ptr q 0]) (hFp : F p) (hT : TreeR kS R w h q t W) (hFW : ∀ j, W j → F j) (hO : Ok h t) (h6 : szT h t ≤ 6) {L B : Nat} (hk : RdC w L B 1 xv k.length (k.map u8v)) (hB : B ≤ w.heap.size) (hap : ∀ j, F j → j < L ∨ B ≤ j) (hkn : k.length ≤ 1000000000) : Ret Try.prog 13 #[(ptr p 0), xv, (Value.string (bs x))] w (fun v' w' => Gr w w' F ∧ v' = .bool (putT h k x t).1 ∧ ∃ q2 W2, Bx w' p 88 [ptr q2 0] ∧ TreeO kS (fun j => R j ∨ w.heap.size ≤ j) w' (grown h (putT h k x t).2.1 (putT h k x t).2.2) q2 W2 ∧ ∀ j, W2 j → F j ∨ w.heap.size ≤ j) := by
 have hi_p := hx.lt
 have hT1 : TreeR kS (fun j => R j ∨ w.heap.size ≤ j) w h q t W := hT.monoR (fun j h => .inl h)
 have hb := Gr.refl w F
 refine enter (N := 51) Try.func13 rfl rfl (by simp) fun a0 hN hd hA => ?_
 have s0 : a0.tmps.getD 0 undef = (ptr p 0) := hA 0 (by simp)
 have s1 : a0.tmps.getD 1 undef = xv := hA 1 (by simp)
 have s2 : a0.tmps.getD 2 undef = (Value.string (bs x)) := hA 2 (by simp)
 clear hA
 refine seq_any fun K2821 hK2821 => ?_
 refine one_reg ?_
 refine op_assign rfl ?_
 refine reg_nil ?_
 refine hK2821 _ _ ?_
 refine seq_any fun K2822 hK2822 => ?_
 refine seq_any fun K2823 hK2823 => ?_
 refine one_reg ?_
 refine op_move (ev_base hN rfl s0) ?_
 refine op_peq_some ptrt23 (ev_hit hN rfl) rfl ?_
 refine reg_nil ?_
 refine hK2823 _ _ ?_
 refine wp_cond_false (ev_hit hN rfl) ?_
 refine wp_skip ?_
 refine hK2822 _ _ ?_
 refine seq_any fun K2824 hK2824 => ?_
 refine seq_any fun K2825 hK2825 => ?_
 refine one_reg ?_
 refine op_move (ev_base hN rfl s0) ?_
 refine op_nil (ev_hit hN rfl) ?_
 refine op_field fld88_0 (ev_hit hN rfl) ?_
 refine op_load1 (v := (ptr q 0)) one86 (ev_hit hN rfl) (hx.cell rfl) ?_
 refine op_peq_some ptrt86 (ev_hit hN rfl) rfl ?_
 refine reg_nil ?_
 refine hK2825 _ _ ?_
 refine wp_cond_false (ev_hit hN rfl) ?_
 refine wp_skip ?_
 refine hK2824 _ _ ?_
 refine seq_any fun K2826 hK2826 => ?_
 refine reg_split (hd := [_, _, _, _, _, _, _, _, _]) (tl := _) 9 mixed (by kernel_rfl) rfl rfl ?_
 refine any_env (φ := phiV [(fun uz => uz = (ptr p 0)), (fun uz => uz = (ptr p 0)), (fun uz => uz = (ptr p 0)), (fun uz => uz = (ptr q 0)), (fun uz => uz = xv), (fun _ => True), (fun uz => uz = (Value.string (bs x))), (fun _ => True), (fun _ => True)]) (G := fun w' => Bx w' p 88 [(ptr q 0)]) [5, 7, 8] (by kernel_rfl) (by kernel_rfl) (by kernel_rfl) (by kernel_rfl) hN (fun w1 w2 E h => h.keep0 E) hx (ObEs.cons ?_ (ObEs.cons ?_ (ObEs.cons ?_ (ObEs.cons ?_ (ObEs.cons ?_ (ObEs.pass rfl (ObEs.cons ?_ (ObEs.pass rfl (ObEs.pass rfl (ObEs.nil)))))))))) (by simp only [putsL_defers]) ?_
 ·
  intro eA aA wA hNA hGA hbsA hdpA
  have qA_0 := (hbsA 0 rfl).trans (sl_base hN rfl s0)
  refine op_move (ev_base hNA rfl qA_0) ?_
  exact obE_end rfl rfl rfl
 ·
  intro eA aA wA hNA hGA hbsA hdpA
  have qA_23 : Sl aA 23 (ptr p 0) := (hdpA 0 _ 23 (by kernel_rfl) rfl rfl).2 rfl
  refine op_nil (ev_base hNA rfl qA_23) ?_
  exact obE_end rfl rfl rfl
 ·
  intro eA aA wA hNA hGA hbsA hdpA
  have qA_24 : Sl aA 24 (ptr p 0) := (hdpA 1 _ 24 (by kernel_rfl) rfl rfl).2 rfl
  refine op_field fld88_0 (ev_base hNA rfl qA_24) ?_
  exact obE_end rfl rfl rfl
 ·
  intro eA aA wA hNA hGA hbsA hdpA
  have qA_25 : Sl aA 25 (ptr p 0) := (hdpA 2 _ 25 (by kernel_rfl) rfl rfl).2 rfl
  refine op_load1 (v := (ptr q 0)) one86 (ev_base hNA rfl qA_25) (hGA.cell rfl) ?_
  exact obE_end rfl rfl rfl
 ·
  intro eA aA wA hNA hGA hbsA hdpA
  have qA_1 := (hbsA 1 rfl).trans (sl_base hN rfl s1)
  refine op_move (ev_base hNA rfl qA_1) ?_
  exact obE_end rfl rfl rfl
 ·
  intro eA aA wA hNA hGA hbsA hdpA
  have qA_2 := (hbsA 2 rfl).trans (sl_base hN rfl s2)
  refine op_move (ev_base hNA rfl qA_2) ?_
  exact obE_end rfl rfl rfl
 ·
  intro w2827 E2827 _ a2827 hN2827 hbs2827 hdp2827 o_ ho_; obtain rfl := Option.some.inj ho_
  have z_w2827 := E2827.size
  have hx := hx.keep0 E2827
  have hk := hk.keep0 E2827
  have hT1 := hT1.keepG (Gr.of0 E2827 NoB) (fun _ _ h => h) (NoK.no _)
  have hb := hb.step0 E2827
  have q2827_27 : Sl a2827 27 xv := (hdp2827 4 _ 27 (by kernel_rfl) rfl rfl).2 rfl
  refine op_fn (vs := [xv]) ok41 ⟨(ev_base hN2827 rfl q2827_27), trivial⟩ (clB (hk.mono (Nat.zero_le _) (by omega)) (by omega)) ?_
  rintro v2828 w2829 ⟨E2830, hO2828⟩
  have dj2831 : Dj W (Bl v2828) := Dj.fresh (fun k hk => (hT1.lt k hk).2) (fun k hk => (hO2828.lt k hk).1)
  have E2830 := grown_of_below E2830
  have z_w2829 := E2830.size
  have hx := hx.keep0 E2830
  have hk := hk.keep0 E2830
  have hT1 := hT1.keepG (Gr.of0 E2830 NoB) (fun _ _ h => h) (NoK.no _)
  have hb := hb.step0 E2830
  have hO2828 := hO2828.mono (base' := w.heap.size) (by omega)
  skip
  refine ke_end rfl (by decide) rfl hx ?_
  intro w2832 E2832 _ a2832 hN2832 hbs2832 hdp2832 o_ ho_; obtain rfl := Option.some.inj ho_
  have z_w2832 := E2832.size
  have hx := hx.keep0 E2832
  have hk := hk.keep0 E2832
  have hT1 := hT1.keepG (Gr.of0 E2832 NoB) (fun _ _ h => h) (NoK.no _)
  have hO2828 := hO2828.keep0 E2832
  have hb := hb.step0 E2832
  have q2832_28 : Sl a2832 28 v2828 := (Option.some.inj ((hdp2832 5 _ 28 (by kernel_rfl) rfl rfl).1 0 rfl)).symm
  have q2832_29 : Sl a2832 29 (Value.string (bs x)) := (hdp2832 6 _ 29 (by kernel_rfl) rfl rfl).2 rfl
  refine op_build (pv := [(0, v2828), (1, (Value.string (bs x)))]) (v := (Value.agg #[v2828, (Value.string (bs x))])) ⟨rfl, (ev_base hN2832 rfl q2832_28), ⟨rfl, (ev_base hN2832 rfl q2832_29), trivial⟩⟩ (by obtain ⟨_, _, _, rfl⟩ := hO2828.sl; kernel_rfl) ?_
  refine ke_end rfl (by decide) rfl hx ?_
  intro w2833 E2833 _ a2833 hN2833 hbs2833 hdp2833 o_ ho_; obtain rfl := Option.some.inj ho_
  have z_w2833 := E2833.size
  have hx := hx.keep0 E2833
  have hk := hk.keep0 E2833
  have hT1 := hT1.keepG (Gr.of0 E2833 NoB) (fun _ _ h => h) (NoK.no _)
  have hO2828 := hO2828.keep0 E2833
  have hb := hb.step0 E2833
  have q2833_26 : Sl a2833 26 (ptr q 0) := (hdp2833 3 _ 26 (by kernel_rfl) rfl rfl).2 rfl
  have q2833_30 : Sl a2833 30 (Value.agg #[v2828, (Value.string (bs x))]) := (Option.some.inj ((hdp2833 7 _ 30 (by kernel_rfl) rfl rfl).1 1 rfl)).symm
  rcases Bool.eq_false_or_eq_true (((putT h k x t).2.2.isSome)) with k31 | k31
  · -- 31T
   refine op_fn (vs := [(ptr q 0), (Value.agg #[v2828, (Value.string (bs x))])]) ok40 ⟨(ev_base hN2833 rfl q2833_26), ⟨(ev_base hN2833 rfl q2833_30), trivial⟩⟩ (putAllS h hT1 hO h6 (hO2828.mono (Nat.zero_le _)) (fun j hj => .inr (hO2828.lt j hj).1)) ?_
   rintro _ w2835 ⟨E2836, u2834, m2834, rfl, ho2834⟩
   have bd2837 := hx.lt
   have bd2838 := hO2828.lt
   have dj2839 := (hT1.notBx hx (by decide) (by decide) (by decide) (by decide))
   have dj2840 := dj2831.symm
   obtain ⟨y2834, t2_2834, q2834, W1_2834, W2_2834, hr2834, rfl, hu2834, hur2834, hT2834, hT2_2834, hN1_2834, hN2_2834, hd2834⟩ := outR_some k31 ho2834
   have hT1_old := hT1
   have z_w2835 := E2836.size
   have hx := hx.keepG E2836 dj2839
   have hO2828 := hO2828.keepG E2836 dj2840
   have hb := hb.stepF E2836 (fun k _ h => hFW k h)
   have dj2841 : ¬ W1_2834 p := ne_stepF hN1_2834 bd2837 dj2839
   have dj2842 : Dj (Bl v2828) W1_2834 := Dj.stepF hN1_2834 (fun k hk => (bd2838 k hk).2) dj2840
   have hin2843 : ∀ j, W1_2834 j → F j ∨ w.heap.size ≤ j := fun j hj => (hN1_2834 j hj).elim (fun h => .inl (hFW j h)) (fun h => .inr (by omega))
   have dj2844 : ¬ W2_2834 p := ne_stepF hN2_2834 bd2837 dj2839
   have dj2845 : Dj (Bl v2828) W2_2834 := Dj.stepF hN2_2834 (fun k hk => (bd2838 k hk).2) dj2840
   have hin2846 : ∀ j, W2_2834 j → F j ∨ w.heap.size ≤ j := fun j hj => (hN2_2834 j hj).elim (fun h => .inl (hFW j h)) (fun h => .inr (by omega))
   refine ke_end rfl (by decide) rfl hx ?_
   intro w2847 E2847 a2847 hN2847 hd2847 hbs2847 hph2847
   have hd2847 := hd2847.trans ((by simp only [putsL_defers] : _ = _).trans hd)
   have z_w2847 := E2847.size
   have hx := hx.keep0 E2847
   have hO2828 := hO2828.keep0 E2847
   have hT2834 := hT2834.keepG (Gr.of0 E2847 NoB) (fun _ _ h => h) (NoK.no _)
   have hT2_2834 := hT2_2834.keepG (Gr.of0 E2847 NoB) (fun _ _ h => h) (NoK.no _)
   have hu2834 := hu2834.keep0 E2847
   have hb := hb.step0 E2847
   have s2847_0 := (hbs2847 0 rfl).trans (sl_base hN rfl s0)
   have s2847_6 := (hbs2847 6 rfl).trans (sl_hit hN rfl)
   have s2847_31 : Sl a2847 31 (Value.tuple #[(Value.bool (putT h k x t).1), u2834, (ptr q2834 0)]) := (Option.some.inj ((hph2847 8 _ 31 rfl rfl).1 2 rfl)).symm
   refine split_end ?_
   refine from_still (m := 16) 7 (hd := [_, _, _, _, _, _, _]) (by kernel_rfl) rfl rfl ?_
   refine st_step rfl (fun _ h9 => op_move (ev_base hN2847 rfl s2847_31) h9) ?_
   refine st_step rfl (fun _ h9 => op_extract (ev_hit hN2847 rfl) rfl h9) ?_
   refine st_step rfl (fun _ h9 => op_extract (ev_hit hN2847 rfl) rfl h9) ?_
   refine st_step rfl (fun _ h9 => op_extract (ev_hit hN2847 rfl) rfl h9) ?_
   refine st_step rfl (fun _ h9 => op_assign (ev_hit hN2847 rfl) h9) ?_
   refine st_step rfl (fun _ h9 => op_assign (ev_hit hN2847 rfl) h9) ?_
   refine st_step rfl (fun _ h9 => op_assign (ev_hit hN2847 rfl) h9) ?_
   refine st_nil ?_
   refine from_end ?_ rfl
   refine hK2826 _ _ ?_
   refine seq_any fun K2848 hK2848 => ?_
   refine seq_any fun K2849 hK2849 => ?_
   refine one_reg ?_
   refine op_move (ev_hit hN2847 rfl) ?_
   refine op_pne_some ptrt86 (ev_hit hN2847 rfl) rfl ?_
   refine reg_nil ?_
   refine hK2849 _ _ ?_
   refine wp_cond_true (ev_hit hN2847 rfl) ?_
   refine one_reg ?_
   refine op_move (ev_base hN2847 rfl s2847_0) ?_
   refine op_move (ev_hit hN2847 rfl) ?_
   refine op_bslice (e := 27) (pv := [(0, u2834)]) (cs := [u2834]) ⟨rfl, (ev_hit hN2847 rfl), trivial⟩ (by obtain ⟨_, _, _, rfl⟩ := hu2834.sl; kernel_rfl) ?_
   intro w2850 b2851 lo_b2851 hi_b2851 hB2853 E2852
   have dj2854 : ¬ W1_2834 b2851 := fun hf => by have := (hT2834.lt _ hf).2; omega
   have dj2855 : ¬ W2_2834 b2851 := fun hf => by have := (hT2_2834.lt _ hf).2; omega
   have z_w2850 := E2852.size
   have hx := hx.keep0 E2852
   have hO2828 := hO2828.keep0 E2852
   have hT2834 := hT2834.keepG (Gr.of0 E2852 NoB) (fun _ _ h => h) (NoK.no _)
   have hT2_2834 := hT2_2834.keepG (Gr.of0 E2852 NoB) (fun _ _ h => h) (NoK.no _)
   have hu2834 := hu2834.keep0 E2852
   have hb := hb.step0 E2852
   refine op_move (ev_base hN2847 rfl s2847_0) ?_
   refine op_nil (ev_hit hN2847 rfl) ?_
   refine op_field fld88_0 (ev_hit hN2847 rfl) ?_
   refine op_load1 (v := (ptr q 0)) one86 (ev_hit hN2847 rfl) (hx.cell rfl) ?_
   refine op_move (ev_hit hN2847 rfl) ?_
   refine op_bslice (e := 86) (pv := [(0, (ptr q 0)), (1, (ptr q2834 0))]) (cs := [(ptr q 0), (ptr q2834 0)]) ⟨rfl, (ev_hit hN2847 rfl), ⟨rfl, (ev_hit hN2847 rfl), trivial⟩⟩ (by kernel_rfl) ?_
   intro w2856 b2857 lo_b2857 hi_b2857 hB2859 E2858
   have dj2860 : ¬ W1_2834 b2857 := fun hf => by have := (hT2834.lt _ hf).2; omega
   have dj2861 : ¬ W2_2834 b2857 := fun hf => by have := (hT2_2834.lt _ hf).2; omega
   have z_w2856 := E2858.size
   have hx := hx.keep0 E2858
   have hO2828 := hO2828.keep0 E2858
   have hT2834 := hT2834.keepG (Gr.of0 E2858 NoB) (fun _ _ h => h) (NoK.no _)
   have hT2_2834 := hT2_2834.keepG (Gr.of0 E2858 NoB) (fun _ _ h => h) (NoK.no _)
   have hu2834 := hu2834.keep0 E2858
   have hB2853 := hB2853.keep0 E2858
   have hb := hb.step0 E2858
   refine op_build (pv := [(1, (Value.slice (some ⟨b2851, 0, none⟩) 1 1)), (2, (Value.slice (some ⟨b2857, 0, none⟩) 2 2))]) (v := (Value.agg #[(Value.slice none 0 0), (Value.slice (some ⟨b2851, 0, none⟩) 1 1), (Value.slice (some ⟨b2857, 0, none⟩) 2 2)])) ⟨rfl, (ev_hit hN2847 rfl), ⟨rfl, (ev_hit hN2847 rfl), trivial⟩⟩ (by kernel_rfl) ?_
   refine op_box (cs := [(Value.slice none 0 0), (Value.slice (some ⟨b2851, 0, none⟩) 1 1), (Value.slice (some ⟨b2857, 0, none⟩) 2 2)]) (ev_hit hN2847 rfl) rfl ?_
   intro w2862 b2863 lo_b2863 hi_b2863 hB2865 E2864
   have dj2866 : ¬ W1_2834 b2863 := fun hf => by have := (hT2834.lt _ hf).2; omega
   have dj2867 : ¬ W2_2834 b2863 := fun hf => by have := (hT2_2834.lt _ hf).2; omega
   have z_w2862 := E2864.size
   have hx := hx.keep0 E2864
   have hO2828 := hO2828.keep0 E2864
   have hT2834 := hT2834.keepG (Gr.of0 E2864 NoB) (fun _ _ h => h) (NoK.no _)
   have hT2_2834 := hT2_2834.keepG (Gr.of0 E2864 NoB) (fun _ _ h => h) (NoK.no _)
   have hu2834 := hu2834.keep0 E2864
   have hB2853 := hB2853.keep0 E2864
   have hB2859 := hB2859.keep0 E2864
   have hb := hb.step0 E2864
   refine op_nil (ev_hit hN2847 rfl) ?_
   refine op_field fld88_0 (ev_hit hN2847 rfl) ?_
   have hx_old := hx
   refine op_store (vs := [(ptr b2863 0)]) (cs' := [(ptr b2863 0)]) size86 (ev_hit hN2847 rfl) (ev_hit hN2847 rfl) rfl rfl rfl hx (Nat.le_of_ble_eq_true rfl) rfl ?_
   intro w2870 hx E2871
   have z_w2870 := E2871.size
   have hO2828 := hO2828.keepX hx_old E2871 (by decide)
   have hT2834 := hT2834.keepG (Gr.of E2871) (Dj.one dj2841) (NoK.ofBx hx_old (by decide))
   have hT2_2834 := hT2_2834.keepG (Gr.of E2871) (Dj.one dj2844) (NoK.ofBx hx_old (by decide))
   have hu2834 := hu2834.keepX hx_old E2871 (by decide)
   have hB2853 := hB2853.keep E2871 (fun hh => hB2853.ne hx_old (by decide) (Option.some.inj hh))
   have hB2859 := hB2859.keep E2871 (fun hh => hB2859.ne hx_old (by decide) (Option.some.inj hh))
   have hB2865 := hB2865.keep E2871 (fun hh => hB2865.ne hx_old (by decide) (Option.some.inj hh))
   have hb := hb.stepB E2871 hFp
   refine reg_nil ?_
   refine hK2848 _ _ ?_
   refine seq_any fun K2872 hK2872 => ?_
   refine one_reg ?_
   refine op_move (ev_hit hN2847 rfl) ?_
   refine op_assign (ev_hit hN2847 rfl) ?_
   refine reg_nil ?_
   refine hK2872 _ _ ?_
   refine wp_ret ?_
   refine ret1 rfl hd2847 (ev_hit hN2847 rfl) ⟨_, rfl, ?_⟩
   -- path 31T
   exact ⟨hb, rfl, b2863, _, hx, (by rw [hr2834]; exact (mkNode (κ := kS) (K := [(u2834, y2834)]) (P := [q, q2834]) (ts := [(putT h k x t).2.1, t2_2834]) hB2865 (Own.ofBx (base := 0) (sz := 1) (n := 1) hB2853 rfl (by decide) (Nat.zero_le _)) (Own.ofBx (base := 0) (sz := 1) (n := 2) hB2859 rfl (by decide) (Nat.zero_le _)) (fun x hx => by rw [List.mem_singleton.1 hx]; exact hu2834) (fun x hx => by rw [List.mem_singleton.1 hx]; exact hur2834) (Kids.ins (i := 0) (Kids.ins (i := 0) (Kids.nil (TreeR kS (fun j => R j ∨ w.heap.size ≤ j) w2870 h)) (Nat.zero_le _) hT2_2834 (fun _ _ h => h)) (Nat.zero_le _) hT2834 (fun k h1 h2 => h2.elim (hd2834 k h1) (fun h => h))) (fun h9 => h9.elim dj2866 (fun h8 => h8.elim dj2867 (fun h => h))) (fun j hj h9 => h9.elim ((Dj.one dj2854).symm j hj) (fun h8 => h8.elim ((Dj.one dj2855).symm j hj) (fun h => h))) (fun j hj h9 => h9.elim ((Dj.one dj2860).symm j hj) (fun h8 => h8.elim ((Dj.one dj2861).symm j hj) (fun h => h))))), fun j hj => by
       rcases hj with rfl | hj | hj | hj | hj | hj
       · exact .inr (by omega)
       · exact .inr (by have e9 : b2851 = j := Option.some.inj hj; omega)
       · exact .inr (by have e9 : b2857 = j := Option.some.inj hj; omega)
       · exact hin2843 j hj
       · exact hin2846 j hj
       · exact hj.elim⟩
  · -- 31F
   refine op_fn (vs := [(ptr q 0), (Value.agg #[v2828, (Value.string (bs x))])]) ok40 ⟨(ev_base hN2833 rfl q2833_26), ⟨(ev_base hN2833 rfl q2833_30), trivial⟩⟩ (putAllS h hT1 hO h6 (hO2828.mono (Nat.zero_le _)) (fun j hj => .inr (hO2828.lt j hj).1)) ?_
   rintro _ w2874 ⟨E2875, u2873, m2873, rfl, ho2873⟩
   have bd2876 := hx.lt
   have bd2877 := hO2828.lt
   have dj2878 := (hT1.notBx hx (by decide) (by decide) (by decide) (by decide))
   have dj2879 := dj2831.symm
   obtain ⟨hr2873, rfl, rfl, W1_2873, hT2873, hN1_2873⟩ := outR_none k31 ho2873
   have hT1_old := hT1
   have z_w2874 := E2875.size
   have hx := hx.keepG E2875 dj2878
   have hO2828 := hO2828.keepG E2875 dj2879
   have hb := hb.stepF E2875 (fun k _ h => hFW k h)
   have dj2880 : ¬ W1_2873 p := ne_stepF hN1_2873 bd2876 dj2878
   have dj2881 : Dj (Bl v2828) W1_2873 := Dj.stepF hN1_2873 (fun k hk => (bd2877 k hk).2) dj2879
   have hin2882 : ∀ j, W1_2873 j → F j ∨ w.heap.size ≤ j := fun j hj => (hN1_2873 j hj).elim (fun h => .inl (hFW j h)) (fun h => .inr (by omega))
   refine ke_end rfl (by decide) rfl hx ?_
   intro w2883 E2883 a2883 hN2883 hd2883 hbs2883 hph2883
   have hd2883 := hd2883.trans ((by simp only [putsL_defers] : _ = _).trans hd)
   have z_w2883 := E2883.size
   have hx := hx.keep0 E2883
   have hO2828 := hO2828.keep0 E2883
   have hT2873 := hT2873.keepG (Gr.of0 E2883 NoB) (fun _ _ h => h) (NoK.no _)
   have hb := hb.step0 E2883
   have s2883_0 := (hbs2883 0 rfl).trans (sl_base hN rfl s0)
   have s2883_6 := (hbs2883 6 rfl).trans (sl_hit hN rfl)
   have s2883_31 : Sl a2883 31 (Value.tuple #[(Value.bool (putT h k x t).1), (Value.slice none 0 0), (Value.pointer none)]) := (Option.some.inj ((hph2883 8 _ 31 rfl rfl).1 2 rfl)).symm
   refine split_end ?_
   refine from_still (m := 16) 7 (hd := [_, _, _, _, _, _, _]) (by kernel_rfl) rfl rfl ?_
   refine st_step rfl (fun _ h9 => op_move (ev_base hN2883 rfl s2883_31) h9) ?_
   refine st_step rfl (fun _ h9 => op_extract (ev_hit hN2883 rfl) rfl h9) ?_
   refine st_step rfl (fun _ h9 => op_extract (ev_hit hN2883 rfl) rfl h9) ?_
   refine st_step rfl (fun _ h9 => op_extract (ev_hit hN2883 rfl) rfl h9) ?_
   refine st_step rfl (fun _ h9 => op_assign (ev_hit hN2883 rfl) h9) ?_
   refine st_step rfl (fun _ h9 => op_assign (ev_hit hN2883 rfl) h9) ?_
   refine st_step rfl (fun _ h9 => op_assign (ev_hit hN2883 rfl) h9) ?_
   refine st_nil ?_
   refine from_end ?_ rfl
   refine hK2826 _ _ ?_
   refine seq_any fun K2884 hK2884 => ?_
   refine seq_any fun K2885 hK2885 => ?_
   refine one_reg ?_
   refine op_move (ev_hit hN2883 rfl) ?_
   refine op_pne_none ptrt86 (ev_hit hN2883 rfl) rfl ?_
   refine reg_nil ?_
   refine hK2885 _ _ ?_
   refine wp_cond_false (ev_hit hN2883 rfl) ?_
   refine wp_skip ?_
   refine hK2884 _ _ ?_
   refine seq_any fun K2886 hK2886 => ?_
   refine one_reg ?_
   refine op_move (ev_hit hN2883 rfl) ?_
   refine op_assign (ev_hit hN2883 rfl) ?_
   refine reg_nil ?_
   refine hK2886 _ _ ?_
   refine wp_ret ?_
   refine ret1 rfl hd2883 (ev_hit hN2883 rfl) ⟨_, rfl, ?_⟩
   -- path 31F
   exact ⟨hb, rfl, q, W1_2873, hx, (by rw [hr2873]; exact hT2873), hin2882⟩

end Go.Proofs.Ytcpfdfejojghbaa

/- Walks, written by a program: what each function of the translation hands back. -/
namespace Go.Proofs.Ytcpfdfejojghbaa
open Go.Gx Go.RowKit
attribute [local irreducible] wpList wpStill Code.wp Calls
open Go.Bt
theorem putTopI {o : TO (Int)} {k : List UInt8} {xv : Value} {x : Int} {F : Nat → Prop} {p base L B : Nat} {w : World} (hT : TopR kI 71 base w p o F) (hb : base ≤ w.heap.size) (hk : RdC w L B 1 xv k.length (k.map u8v)) (hB : B ≤ w.heap.size) (hap : ∀ j, F j → j < L ∨ B ≤ j) (hkn : k.length ≤ 1000000000) :
    Ret Try.prog 23 #[ptr p 0, xv, (Value.int .i64 x)] w (fun v' w' => Gr w w' F ∧ v' = .bool (putO k x o).1 ∧ ∃ F', TopR kI 71 base w' p (putO k x o).2 F' ∧ NewF w.heap.size F F') := by
  obtain ⟨hF, hlt, hO, root, hB', hr⟩ := id hT
  rcases hr with ⟨rfl, rfl⟩ | ⟨q, R, W, rfl, hTO, hFW, hFR⟩
  · refine Ret.mono (putT0I (R := NoB) (x := x) hB' hF hk hB hap hkn) fun v' w' h => ?_
    obtain ⟨E, hv, q2, W2, hB2, hTO2, hW2⟩ := h
    exact ⟨E, hv, hT.after hb E.size (putO_ok (k := k) (x := x) hO).1 hB2 (TreeO.monoR hTO2 fun j h => h.imp (fun q => q.elim) id) hW2⟩
  · match o, hT, hO, hTO with
    | some ⟨h, t⟩, hT, hO, hTO =>
      refine Ret.mono (putT1I (x := x) hB' hF hTO hFW hO.1 hO.2.2 hk hB hap hkn) fun v' w' h => ?_
      obtain ⟨E, hv, q2, W2, hB2, hTO2, hW2⟩ := h
      exact ⟨E, hv, hT.after hb E.size (putO_ok (k := k) (x := x) hO).1 hB2 (TreeO.monoR hTO2 fun j h => h.imp (hFR j) id) hW2⟩
theorem putTopS {o : TO (List UInt8)} {k : List UInt8} {xv : Value} {x : List UInt8} {F : Nat → Prop} {p base L B : Nat} {w : World} (hT : TopR kS 88 base w p o F) (hb : base ≤ w.heap.size) (hk : RdC w L B 1 xv k.length (k.map u8v)) (hB : B ≤ w.heap.size) (hap : ∀ j, F j → j < L ∨ B ≤ j) (hkn : k.length ≤ 1000000000) :
    Ret Try.prog 13 #[ptr p 0, xv, (Value.string (bs x))] w (fun v' w' => Gr w w' F ∧ v' = .bool (putO k x o).1 ∧ ∃ F', TopR kS 88 base w' p (putO k x o).2 F' ∧ NewF w.heap.size F F') := by
  obtain ⟨hF, hlt, hO, root, hB', hr⟩ := id hT
  rcases hr with ⟨rfl, rfl⟩ | ⟨q, R, W, rfl, hTO, hFW, hFR⟩
  · refine Ret.mono (putT0S (R := NoB) (x := x) hB' hF hk hB hap hkn) fun v' w' h => ?_
    obtain ⟨E, hv, q2, W2, hB2, hTO2, hW2⟩ := h
    exact ⟨E, hv, hT.after hb E.size (putO_ok (k := k) (x := x) hO).1 hB2 (TreeO.monoR hTO2 fun j h => h.imp (fun q => q.elim) id) hW2⟩
  · match o, hT, hO, hTO with
    | some ⟨h, t⟩, hT, hO, hTO =>
      refine Ret.mono (putT1S (x := x) hB' hF hTO hFW hO.1 hO.2.2 hk hB hap hkn) fun v' w' h => ?_
      obtain ⟨E, hv, q2, W2, hB2, hTO2, hW2⟩ := h
      exact ⟨E, hv, hT.after hb E.size (putO_ok (k := k) (x := x) hO).1 hB2 (TreeO.monoR hTO2 fun j h => h.imp (hFR j) id) hW2⟩
end Go.Proofs.Ytcpfdfejojghbaa

/- Nodes as they are looked at, level by level. -/
namespace Go.Gx
open Go.Bt Go.RowKit
section
variable {V : Type} {κ : Kd V} {w w' : World} {F G H W R : Nat → Prop} {B base b h p q n : Nat} {L : List Nat} {P : List Nat} {ts : List (Tr V (h + 1))} {l0 : List (Tr V 0)}
/-- A node of size n with these kids, that lies below B. -/
def NodeV (κ : Kd V) (B : Nat) (w : World) (p n : Nat) (L : List Nat) : Prop :=
  p < B ∧ ∃ pv kv cv a b ca cb, Bx w p κ.tB [pv, kv, cv] ∧ RdC w 0 B κ.pc pv a ca ∧ RdC w 0 B 1 kv b cb ∧ RdC w 0 B 1 cv L.length (L.flatMap cN) ∧ n = (if L.length = 0 then a else b)
theorem NodeV.below (N : NodeV κ B w p n L) (hb : Below B w w') : NodeV κ B w' p n L := by
  obtain ⟨hp, pv, kv, cv, a, b, ca, cb, h1, h2, h3, h4, h5⟩ := N
  refine ⟨hp, pv, kv, cv, a, b, ca, cb, ?_, h2.below hb, h3.below hb, h4.below hb, h5⟩
  unfold Bx; rw [hb.block p hp]; exact h1
theorem leaf_view {t : Tr V 0} (T : TreeR κ R w 0 p t W) : NodeV κ w.heap.size w p (szT 0 t) [] := by
  obtain ⟨pv, D, hL, e⟩ := T
  refine ⟨hL.bx.lt, pv, nilV, nilV, _, 0, _, [], hL.bx, hL.op.rdw.mono (Nat.zero_le _) (Nat.le_refl _), RdC.nil _ _ _ _, RdC.nil _ _ _ _, ?_⟩
  show (t : List (Ky × V)).length = D.length
  rw [← e]; simp
theorem node_view {t : Tr V (h + 1)} (T : TreeR κ R w (h + 1) p t W) (hk : t.2.length = t.1.length + 1) : ∃ L G, NodeV κ w.heap.size w p (szT (h + 1) t) L ∧ KidsR κ R w h L t.2 G ∧ ∀ k, G k → W k := by
  obtain ⟨kv, cv, K, P, G, hN, hKs, e⟩ := T
  have hl : P.length = t.2.length := hKs.len
  refine ⟨P, G, ⟨hN.bx.lt, nilV, kv, cv, 0, _, [], _, hN.bx, RdC.nil _ _ _ _, hN.ok.rdw, hN.oc.rdw, ?_⟩, hKs, hN.wg⟩
  show t.1.length = _
  rw [if_neg (by omega), ← e]; simp
/-! all of a level -/
variable {α : Type} {A : Nat → α → (Nat → Prop) → Prop} {ys9 : List α} {a : α} {f : Nat → Prop}
theorem Kids.uncons (K : Kids A (p :: P) (a :: ys9) G) : ∃ f G0, A p a f ∧ Kids A P ys9 G0 ∧ Dj f G0 ∧ (∀ k, f k → G k) ∧ (∀ k, G0 k → G k) := K.cut1 (i := 0) (by simp)
theorem Kids.cons (K : Kids A P ys9 G) (hA : A p a f) (hd : Dj f G) : Kids A (p :: P) (a :: ys9) (fun k => f k ∨ G k) := K.ins (i := 0) (Nat.zero_le _) hA hd
theorem Kids.app {P2 : List Nat} {as2 : List α} {G2 : Nat → Prop} : ∀ {P : List Nat} {ys9 : List α} {G : Nat → Prop}, Kids A P ys9 G → Kids A P2 as2 G2 → Dj G G2 → ∃ G3, Kids A (P ++ P2) (ys9 ++ as2) G3 ∧ ∀ k, G3 k → G k ∨ G2 k
  | [], ys9, G, K, K2, hd => by
    have : ys9 = [] := List.eq_nil_of_length_eq_zero K.len.symm
    subst this
    exact ⟨G2, K2, fun k => .inr⟩
  | p :: P, [], G, K, K2, hd => by have := K.len; simp at this
  | p :: P, a :: ys9, G, K, K2, hd => by
    obtain ⟨f, G0, hA, K0, hf, s1, s2⟩ := K.uncons
    obtain ⟨G3, K3, h3⟩ := Kids.app K0 K2 (fun k h => hd k (s2 k h))
    exact ⟨_, K3.cons hA (fun k h1 h2 => (h3 k h2).elim (hf k h1) (hd k (s1 k h1))), fun k hk => hk.elim (fun h => .inl (s1 k h)) fun h => (h3 k h).imp (s2 k) id⟩
theorem leaf_views : ∀ {P : List Nat} {ts : List (Tr V 0)} {G : Nat → Prop}, KidsR κ R w 0 P ts G → ∀ i, i < P.length → NodeV κ w.heap.size w (P.getD i default) ((ts.map (szT 0)).getD i 0) []
  | [], _, _, _, i, hi => by simp at hi
  | p :: P, [], _, K, _, _ => by have := Kids.len K; simp at this
  | p :: P, t :: ts, G, K, i, hi => by
    obtain ⟨f, G0, hA, K0, _⟩ := Kids.uncons K
    cases i with
    | zero => exact leaf_view hA
    | succ i => exact leaf_views K0 i (by simpa using hi)
theorem node_views : ∀ {P : List Nat} {ts : List (Tr V (h + 1))} {G : Nat → Prop}, KidsR κ R w (h + 1) P ts G → (∀ t ∈ ts, t.2.length = t.1.length + 1) →
    ∃ (PP : List (List Nat)) (G' : Nat → Prop), PP.length = P.length ∧ (∀ i, i < P.length → NodeV κ w.heap.size w (P.getD i default) ((ts.map (szT (h + 1))).getD i 0) (PP.getD i [])) ∧ KidsR κ R w h PP.flatten (ts.flatMap fun t => t.2) G' ∧ ∀ k, G' k → G k
  | [], ts, G, K, _ => by
    have : ts = [] := List.eq_nil_of_length_eq_zero (Kids.len K).symm
    subst this
    exact ⟨[], NoB, rfl, fun i hi => absurd hi (Nat.not_lt_zero i), Kids.nil _, fun k hk => hk.elim⟩
  | p :: P, [], G, K, _ => by have := Kids.len K; simp at this
  | p :: P, t :: ts, G, K, hk => by
    obtain ⟨f, G0, hA, K0, hd, s1, s2⟩ := Kids.uncons K
    obtain ⟨L, G1, hN, hK1, hG1⟩ := node_view hA (hk t (List.mem_cons_self ..))
    obtain ⟨PP, G2, hl, hv, hK2, hG2⟩ := node_views K0 (fun t ht => hk t (List.mem_cons_of_mem _ ht))
    obtain ⟨G3, hK3, hG3⟩ := Kids.app hK1 hK2 (fun k h1 h2 => hd k (hG1 k h1) (hG2 k h2))
    refine ⟨L :: PP, G3, by simp [hl], fun i hi => ?_, hK3, fun k hk => (hG3 k hk).elim (fun h => s1 k (hG1 k h)) fun h => s2 k (hG2 k h)⟩
    cases i with
    | zero => exact hN
    | succ i => exact hv i (by simpa using hi)
theorem toL_pos : ∀ {h : Nat} {t : Tr V h}, Ok h t → 1 ≤ szT h t → 1 ≤ (toL h t).length
  | 0, t, _, h1 => h1
  | h + 1, (ks, cs), H, h1 => by
    obtain ⟨N, hs⟩ := ok_node.1 H
    obtain ⟨c, hc, okc, _⟩ := N.at (i := 0) (Nat.zero_le _)
    have hm := List.mem_of_getElem? hc
    have := toL_pos okc (by have := (hs c hm).1; omega)
    obtain ⟨p, hp⟩ : ∃ p, p ∈ toL h c := List.exists_mem_of_length_pos this
    exact List.length_pos_of_mem (List.mem_flatMap.2 ⟨c, hm, hp⟩)
theorem flat_ge {α β : Type} {f : α → List β} : ∀ {l : List α}, (∀ x ∈ l, 1 ≤ (f x).length) → l.length ≤ (l.flatMap f).length
  | [], _ => Nat.le_refl _
  | a :: l, h => by
    have h1 := h a (List.mem_cons_self ..)
    have h2 := flat_ge (f := f) (l := l) (fun x hx => h x (List.mem_cons_of_mem _ hx))
    rw [List.flatMap_cons, List.length_append, List.length_cons]; omega
/-- What is still to be told: these nodes, and these levels. -/
def Now (κ : Kd V) (w : World) (P : List Nat) (rest : List (List Nat)) : Prop :=
  P = [] ∧ rest = [] ∨ ∃ h R G, ∃ ts : List (Tr V h), ts ≠ [] ∧ KidsR κ R w h P ts G ∧ (∀ t ∈ ts, Ok h t ∧ 1 ≤ szT h t) ∧ (ts.flatMap (toL h)).length ≤ 100000 ∧ rest = lvl h ts
theorem Now.done {rest : List (List Nat)} (N : Now κ w P rest) (hP : P = []) : rest = [] := by
  rcases N with ⟨_, h⟩ | ⟨h, R, G, ts, hne, hK, _⟩
  · exact h
  · exact absurd (List.eq_nil_of_length_eq_zero (by have := Kids.len hK; rw [hP] at this; exact this.symm)) hne
theorem take9 {α : Type} {l : List α} {i : Nat} {d : α} (h : i < l.length) : l.take (i + 1) = l.take i ++ [l.getD i d] := by
  have e : l.getD i d = l[i] := by simp [List.getD_eq_getElem?_getD, h]
  rw [e, List.take_append_getElem]
theorem ints_take {S : List Nat} {i : Nat} (h : i < S.length) : (S.take (i + 1)).map Int.ofNat = (S.take i).map Int.ofNat ++ [((S.getD i 0 : Nat) : Int)] := by
  rw [take9 (d := 0) h, List.map_append]; rfl
theorem flat_take9 {PP : List (List Nat)} {i : Nat} (h : i < PP.length) : (PP.take (i + 1)).flatten = (PP.take i).flatten ++ PP.getD i [] := by
  rw [take9 (d := []) h, List.flatten_append]; simp
theorem oall_snoc9 {w : World} {base : Nat} {acc : List (Value × List Int)} {v : Value} {r : List Int} (h : ∀ x9 ∈ acc, Own w base 3 1 x9.1 x9.2.length (x9.2.map (Value.int .i64))) (O : Own w base 3 1 v r.length (r.map (Value.int .i64))) : ∀ x9 ∈ acc ++ [(v, r)], Own w base 3 1 x9.1 x9.2.length (x9.2.map (Value.int .i64)) := fun x hx => by
  rcases List.mem_append.1 hx with hx | hx
  · exact h x hx
  · rw [List.mem_singleton.1 hx]; exact O
theorem Now.len {rest : List (List Nat)} (N : Now κ w P rest) : P.length ≤ 100000 := by
  rcases N with ⟨h, _⟩ | ⟨h, R, G, ts, hne, hK, hO, hn, _⟩
  · rw [h]; exact Nat.zero_le _
  · have hl : P.length = ts.length := Kids.len hK
    have := flat_ge (f := toL h) (l := ts) (fun t ht => toL_pos (hO t ht).1 (hO t ht).2)
    omega
theorem flat_le {PP : List (List Nat)} {i : Nat} : ((PP.take i).flatten).length ≤ PP.flatten.length := by
  conv => rhs; rw [← List.take_append_drop i PP, List.flatten_append, List.length_append]
  omega
/-- One level: its sizes, its kids, and what is still to be told. -/
theorem Now.step {rest : List (List Nat)} (N : Now κ w P rest) (hP : P ≠ [])   : ∃ (S : List Nat) (PP : List (List Nat)) (rest' : List (List Nat)), rest = S :: rest' ∧ S.length = P.length ∧ PP.length = P.length ∧ (∀ i, i < P.length → NodeV κ w.heap.size w (P.getD i default) (S.getD i 0) (PP.getD i [])) ∧ Now κ w PP.flatten rest' := by
  rcases N with ⟨h1, _⟩ | ⟨h, R, G, ts, hne, hK, hO, hn, rfl⟩
  · exact absurd h1 hP
  · have hl : P.length = ts.length := Kids.len hK
    match h, ts, hne, hK, hO, hn, hl with
    | 0, ts, hne, hK, hO, hn, hl =>
      refine ⟨ts.map (szT 0), List.replicate P.length [], [], rfl, by simp [hl], by simp, fun i hi => ?_, .inl ⟨by simp, rfl⟩⟩
      have e : (List.replicate P.length ([] : List Nat)).getD i [] = [] := by simp [List.getD_eq_getElem?_getD, hi]
      rw [e]; exact leaf_views hK i hi
    | h + 1, ts, hne, hK, hO, hn, hl =>
      have hk : ∀ t ∈ ts, t.2.length = t.1.length + 1 := fun t ht => (ok_node.1 (hO t ht).1).1.1
      obtain ⟨PP, G', h1, h2, h3, h4⟩ := node_views hK hk
      refine ⟨ts.map (szT (h + 1)), PP, lvl h (ts.flatMap fun t => t.2), rfl, by simp [hl], h1, h2, .inr ⟨h, R, G', _, ?_, h3, fun t ht => ?_, by rw [List.flatMap_assoc]; exact hn, rfl⟩⟩
      · obtain ⟨t, r, rfl⟩ : ∃ t r, ts = t :: r := List.exists_cons_of_ne_nil hne
        have := hk t (List.mem_cons_self ..)
        intro e
        rw [List.flatMap_cons] at e
        have e2 := (List.append_eq_nil_iff.1 e).1
        rw [e2] at this; simp at this
      · obtain ⟨c, hc, ht⟩ := List.mem_flatMap.1 ht
        obtain ⟨j, hj, rfl⟩ := List.getElem_of_mem ht
        have hh := ok_node.1 (hO c hc).1
        exact ⟨(hh.1.2.2 j _ (List.getElem?_eq_getElem hj)).1, by have := (hh.2 _ (List.getElem_mem hj)).1; omega⟩
theorem toL_h : ∀ {h : Nat} {t : Tr V h}, Ok h t → 1 ≤ szT h t → h + 1 ≤ (toL h t).length
  | 0, t, H, h1 => h1
  | h + 1, (ks, cs), H, h1 => by
    obtain ⟨N, hs⟩ := ok_node.1 H
    have h1' : 1 ≤ ks.length := h1
    have hk : cs.length = ks.length + 1 := N.1
    match cs, hk, N, hs with
    | c :: d :: r, hk, N, hs =>
      have a := toL_h (N.2.2 0 c rfl).1 (by have := (hs c (List.mem_cons_self ..)).1; omega)
      have b := toL_pos (N.2.2 1 d rfl).1 (by have := (hs d (List.mem_cons_of_mem _ (List.mem_cons_self ..))).1; omega)
      show h + 1 + 1 ≤ ((c :: d :: r).flatMap (toL h)).length
      rw [List.flatMap_cons, List.flatMap_cons, List.length_append, List.length_append]; omega
    | [], hk, _, _ => simp at hk
    | [c], hk, _, _ => exact absurd hk (by simp only [List.length_cons, List.length_nil]; omega)
theorem ks_snoc {D : List (DP V)} {d : DP V} (ks : ∀ x9 ∈ D.map pk, Own w base 5 1 x9.1 x9.2.length (x9.2.map u8v)) (O : Own w base 5 1 d.1 d.2.1.length (d.2.1.map u8v)) : ∀ x9 ∈ (D ++ [d]).map pk, Own w base 5 1 x9.1 x9.2.length (x9.2.map u8v) := fun x hx => by
  rw [List.map_append, List.mem_append] at hx
  rcases hx with hx | hx
  · exact ks x hx
  · rw [show ([d] : List (DP V)).map pk = [pk d] from rfl, List.mem_singleton] at hx
    subst hx; exact O
theorem levels_le {o : TO V} (H : OkO o) : (levels o).length ≤ (toLO o).length := by
  match o, H with
  | none, _ => exact Nat.le_refl _
  | some ⟨h, t⟩, H => show (lvl h [t]).length ≤ _; rw [lvl_len]; exact toL_h H.1 H.2.1
theorem levels_sum {o : TO V} : ((levels o).getD ((levels o).length - 1) []).sum = (toLO o).length := by
  match o with
  | none => rfl
  | some ⟨h, t⟩ =>
    have a := lvl_last (h := h) (now := [t])
    have b : (lvl h [t]).length = h + 1 := lvl_len
    show ((lvl h [t]).getD ((lvl h [t]).length - 1) []).sum = (toL h t).length
    rw [List.getLast?_eq_getElem?] at a
    rw [List.getD_eq_getElem?_getD]
    have e : (lvl h [t])[(lvl h [t]).length - 1]? = some ((lvl h [t])[(lvl h [t]).length - 1]'(by omega)) := List.getElem?_eq_getElem (by omega)
    rw [e] at a ⊢
    simpa using a
theorem now_start {q : Nat} {h : Nat} {t : Tr V h} (T : TreeR κ R w h q t W) (H : Ok h t) (h1 : 1 ≤ szT h t) (hn : (toL h t).length ≤ 100000) : Now κ w [q] (levels (some ⟨h, t⟩ : TO V)) :=
  .inr ⟨h, R, _, [t], by simp, Kids.ins (i := 0) (Kids.nil _) (Nat.zero_le _) T (fun _ _ h => h), fun c hc => by rw [List.mem_singleton.1 hc]; exact ⟨H, h1⟩, by simpa using hn, rfl⟩
theorem sum_take9 {L : List Nat} {i : Nat} (h : i < L.length) : (L.take (i + 1)).sum = (L.take i).sum + L.getD i 0 := by
  rw [take9 (d := 0) h, List.sum_append]; simp
theorem sum_le9 {L : List Nat} {i : Nat} : (L.take i).sum ≤ L.sum := by
  conv => rhs; rw [← List.take_append_drop i L, List.sum_append]
  omega
theorem ints_at {L : List Nat} {i : Nat} : (L.map Int.ofNat).getD i 0 = ((L.getD i 0 : Nat) : Int) := by
  simp only [List.getD_eq_getElem?_getD, List.getElem?_map]
  cases L[i]? <;> rfl
theorem lev_at {LL : List (Value × List Int)} {lv : List (List Nat)} (h : LL.map Prod.snd = lv.map (fun l => l.map Int.ofNat)) (i : Nat) : (LL.getD i default).2 = (lv.getD i []).map Int.ofNat := by
  have e := congrArg (fun l => l[i]?) h
  simp only [List.getElem?_map] at e
  simp only [List.getD_eq_getElem?_getD]
  cases h1 : LL[i]? <;> cases h2 : lv[i]? <;> simp [h1, h2] at e ⊢
  · rfl
  · exact e
theorem lev_len {LL : List (Value × List Int)} {lv : List (List Nat)} (h : LL.map Prod.snd = lv.map (fun l => l.map Int.ofNat)) : LL.length = lv.length := by
  have := congrArg List.length h; simpa using this
end
end Go.Gx

/- Walks, written by a program: what each function of the translation hands back. -/
namespace Go.Proofs.Ytcpfdfejojghbaa
open Go.Gx Go.RowKit
attribute [local irreducible] wpList wpStill Code.wp Calls
open Go.Bt
theorem leafUI {p : Nat} {pv kv cv : Value} {a b : Nat} {ca cb : List Value} {L : List Nat} {B : Nat} {w : World} (hx : Bx w p 115 [pv, kv, cv]) (h2 : RdC w 0 B 2 pv a ca) (h3 : RdC w 0 B 1 kv b cb) (h4 : RdC w 0 B 1 cv L.length (L.flatMap cN)) : Ret Try.prog 81 #[(ptr p 0)] w (fun v' w' => v' = .bool (decide (L.length = 0)) ∧ w' = w) := by
 have hb := Below.refl w.heap.size w
 refine enter (N := 9) Try.func81 rfl rfl (by simp) fun a0 hN hd hA => ?_
 have s0 : a0.tmps.getD 0 undef = (ptr p 0) := hA 0 (by simp)
 clear hA
 refine seq_any fun K3006 hK3006 => ?_
 refine one_reg ?_
 refine op_assign rfl ?_
 refine reg_nil ?_
 refine hK3006 _ _ ?_
 refine seq_any fun K3007 hK3007 => ?_
 refine one_reg ?_
 refine op_move (ev_base hN rfl s0) ?_
 refine op_nil (ev_hit hN rfl) ?_
 refine op_field fld115_2 (ev_hit hN rfl) ?_
 refine op_load1 (v := cv) one113 (ev_hit hN rfl) (hx.cell rfl) ?_
 refine op_len_rd Try.underlying113 (ev_hit hN rfl) h4 ?_
 refine op_eql (ev_hit hN rfl) rfl (fun c8 => ?_) (fun c8 => ?_)
 · -- 8T
  refine op_assign (ev_hit hN rfl) ?_
  refine reg_nil ?_
  refine hK3007 _ _ ?_
  refine wp_ret ?_
  refine ret1 rfl hd (ev_hit hN rfl) ⟨_, rfl, ?_⟩
  -- path 8T
  exact ⟨congrArg Value.bool (decide_eq_true (by omega)).symm, rfl⟩
 · -- 8F
  refine op_assign (ev_hit hN rfl) ?_
  refine reg_nil ?_
  refine hK3007 _ _ ?_
  refine wp_ret ?_
  refine ret1 rfl hd (ev_hit hN rfl) ⟨_, rfl, ?_⟩
  -- path 8F
  exact ⟨congrArg Value.bool (decide_eq_false (by omega)).symm, rfl⟩

theorem sizeUI {p : Nat} {pv kv cv : Value} {a b n : Nat} {ca cb : List Value} {L : List Nat} {B : Nat} {w : World} (hx : Bx w p 115 [pv, kv, cv]) (h2 : RdC w 0 B 2 pv a ca) (h3 : RdC w 0 B 1 kv b cb) (h4 : RdC w 0 B 1 cv L.length (L.flatMap cN)) (h5 : n = if L.length = 0 then a else b) : Ret Try.prog 52 #[(ptr p 0)] w (fun v' w' => v' = .int .i64 (n : Int) ∧ w' = w) := by
 have hb := Below.refl w.heap.size w
 refine enter (N := 15) Try.func52 rfl rfl (by simp) fun a0 hN hd hA => ?_
 have s0 : a0.tmps.getD 0 undef = (ptr p 0) := hA 0 (by simp)
 clear hA
 refine seq_any fun K3008 hK3008 => ?_
 refine one_reg ?_
 refine op_assign rfl ?_
 refine reg_nil ?_
 refine hK3008 _ _ ?_
 refine seq_any fun K3009 hK3009 => ?_
 refine seq_any fun K3010 hK3010 => ?_
 refine one_reg ?_
 refine op_move (ev_base hN rfl s0) ?_
 refine op_fn (vs := [(ptr p 0)]) ok81 ⟨(ev_hit hN rfl), trivial⟩ (Ret.flip (leafUI hx h2 h3 h4)) ?_
 rintro _ _ ⟨rfl, rfl⟩
 rcases Bool.eq_false_or_eq_true ((decide (L.length = 0))) with c4 | c4
 · -- 4T
  rw [c4]
  refine reg_nil ?_
  refine hK3010 _ _ ?_
  refine wp_cond_true (ev_hit hN rfl) ?_
  refine seq_any fun K3011 hK3011 => ?_
  refine one_reg ?_
  refine op_move (ev_base hN rfl s0) ?_
  refine op_nil (ev_hit hN rfl) ?_
  refine op_field fld115_0 (ev_hit hN rfl) ?_
  refine op_load1 (v := pv) one48 (ev_hit hN rfl) (hx.cell rfl) ?_
  refine op_len_rd Try.underlying48 (ev_hit hN rfl) h2 ?_
  refine op_assign (ev_hit hN rfl) ?_
  refine reg_nil ?_
  refine hK3011 _ _ ?_
  refine wp_ret (then_ret ( ?_))
  refine ret1 rfl hd (ev_hit hN rfl) ⟨_, rfl, ?_⟩
  -- path 4T
  exact ⟨by rw [h5, if_pos (of_decide_eq_true c4)], rfl⟩
 · -- 4F
  rw [c4]
  refine reg_nil ?_
  refine hK3010 _ _ ?_
  refine wp_cond_false (ev_hit hN rfl) ?_
  refine wp_skip ?_
  refine hK3009 _ _ ?_
  refine seq_any fun K3012 hK3012 => ?_
  refine one_reg ?_
  refine op_move (ev_base hN rfl s0) ?_
  refine op_nil (ev_hit hN rfl) ?_
  refine op_field fld115_1 (ev_hit hN rfl) ?_
  refine op_load1 (v := kv) one90 (ev_hit hN rfl) (hx.cell rfl) ?_
  refine op_len_rd Try.underlying90 (ev_hit hN rfl) h3 ?_
  refine op_assign (ev_hit hN rfl) ?_
  refine reg_nil ?_
  refine hK3012 _ _ ?_
  refine wp_ret ?_
  refine ret1 rfl hd (ev_hit hN rfl) ⟨_, rfl, ?_⟩
  -- path 4F
  exact ⟨by rw [h5, if_neg (of_decide_eq_false c4)], rfl⟩

theorem levels0I {p : Nat} {w : World} (hx : Bx w p 71 [.pointer none]) : Ret Try.prog 33 #[(ptr p 0)] w (fun v' w' => v' = .slice none 0 0 ∧ w' = w) := by
 have hb := Below.refl w.heap.size w
 refine enter (N := 50) Try.func33 rfl rfl (by simp) fun a0 hN hd hA => ?_
 have s0 : a0.tmps.getD 0 undef = (ptr p 0) := hA 0 (by simp)
 clear hA
 refine seq_any fun K3013 hK3013 => ?_
 refine one_reg ?_
 refine op_assign rfl ?_
 refine reg_nil ?_
 refine hK3013 _ _ ?_
 refine seq_any fun K3014 hK3014 => ?_
 refine seq_any fun K3015 hK3015 => ?_
 refine one_reg ?_
 refine op_move (ev_base hN rfl s0) ?_
 refine op_peq_some ptrt45 (ev_hit hN rfl) rfl ?_
 refine op_move (ev_hit hN rfl) ?_
 refine g_true (j := 2) (dj := 11) (b := false) rfl rfl rfl (ev_hit hN rfl) ?_
 refine op_move (ev_base hN rfl s0) ?_
 refine g_true (j := 2) (dj := 11) (b := false) rfl rfl rfl (ev_hit hN rfl) ?_
 refine op_nil (ev_hit hN rfl) ?_
 refine g_true (j := 2) (dj := 11) (b := false) rfl rfl rfl (ev_hit hN rfl) ?_
 refine op_field fld71_0 (ev_hit hN rfl) ?_
 refine g_true (j := 2) (dj := 11) (b := false) rfl rfl rfl (ev_hit hN rfl) ?_
 refine op_load1 (v := (Value.pointer none)) one69 (ev_hit hN rfl) (hx.cell rfl) ?_
 refine g_true (j := 2) (dj := 11) (b := false) rfl rfl rfl (ev_hit hN rfl) ?_
 refine op_peq_none ptrt69 (ev_hit hN rfl) rfl ?_
 refine op_pick_f (ev_hit hN rfl) (ev_hit hN rfl) ?_
 refine reg_nil ?_
 refine hK3015 _ _ ?_
 refine wp_cond_true (ev_hit hN rfl) ?_
 refine seq_any fun K3016 hK3016 => ?_
 refine one_reg ?_
 refine op_assign rfl ?_
 refine reg_nil ?_
 refine hK3016 _ _ ?_
 refine wp_ret (then_ret ( ?_))
 refine ret1 rfl hd (ev_hit hN rfl) ⟨_, rfl, ?_⟩
 -- path
 exact ⟨rfl, rfl⟩

theorem levels1I {o : TO (Int)} {p q : Nat} {w : World} (hx : Bx w p 71 [ptr q 0]) (hNow0 : Now kI w [q] (levels o)) (hlv : (levels o).length ≤ 100000) : Ret Try.prog 33 #[(ptr p 0)] w (fun v' w' => Below w.heap.size w w' ∧ ∃ LL : List (Value × List Int), Own w' w.heap.size 30 1 v' LL.length (LL.flatMap (fun x9 => [x9.1])) ∧ (∀ x9 ∈ LL, Own w' w.heap.size 3 1 x9.1 x9.2.length (x9.2.map (Value.int .i64))) ∧ LL.map Prod.snd = (levels o).map (fun l => l.map Int.ofNat)) := by
 have hb := Below.refl w.heap.size w
 refine enter (N := 50) Try.func33 rfl rfl (by simp) fun a0 hN hd hA => ?_
 have s0 : a0.tmps.getD 0 undef = (ptr p 0) := hA 0 (by simp)
 clear hA
 refine seq_any fun K3017 hK3017 => ?_
 refine one_reg ?_
 refine op_assign rfl ?_
 refine reg_nil ?_
 refine hK3017 _ _ ?_
 refine seq_any fun K3018 hK3018 => ?_
 refine seq_any fun K3019 hK3019 => ?_
 refine one_reg ?_
 refine op_move (ev_base hN rfl s0) ?_
 refine op_peq_some ptrt45 (ev_hit hN rfl) rfl ?_
 refine op_move (ev_hit hN rfl) ?_
 refine g_true (j := 2) (dj := 11) (b := false) rfl rfl rfl (ev_hit hN rfl) ?_
 refine op_move (ev_base hN rfl s0) ?_
 refine g_true (j := 2) (dj := 11) (b := false) rfl rfl rfl (ev_hit hN rfl) ?_
 refine op_nil (ev_hit hN rfl) ?_
 refine g_true (j := 2) (dj := 11) (b := false) rfl rfl rfl (ev_hit hN rfl) ?_
 refine op_field fld71_0 (ev_hit hN rfl) ?_
 refine g_true (j := 2) (dj := 11) (b := false) rfl rfl rfl (ev_hit hN rfl) ?_
 refine op_load1 (v := (ptr q 0)) one69 (ev_hit hN rfl) (hx.cell rfl) ?_
 refine g_true (j := 2) (dj := 11) (b := false) rfl rfl rfl (ev_hit hN rfl) ?_
 refine op_peq_some ptrt69 (ev_hit hN rfl) rfl ?_
 refine op_pick_f (ev_hit hN rfl) (ev_hit hN rfl) ?_
 refine reg_nil ?_
 refine hK3019 _ _ ?_
 refine wp_cond_false (ev_hit hN rfl) ?_
 refine wp_skip ?_
 refine hK3018 _ _ ?_
 refine seq_any fun K3020 hK3020 => ?_
 refine one_reg ?_
 refine op_assign rfl ?_
 refine reg_nil ?_
 refine hK3020 _ _ ?_
 refine seq_any fun K3021 hK3021 => ?_
 refine seq_any fun K3022 hK3022 => ?_
 refine one_reg ?_
 refine op_move (ev_base hN rfl s0) ?_
 refine op_nil (ev_hit hN rfl) ?_
 refine op_field fld71_0 (ev_hit hN rfl) ?_
 refine op_load1 (v := (ptr q 0)) one69 (ev_hit hN rfl) (hx.cell rfl) ?_
 refine op_bslice (e := 69) (pv := [(0, (ptr q 0))]) (cs := [(ptr q 0)]) ⟨rfl, (ev_hit hN rfl), trivial⟩ (by kernel_rfl) ?_
 intro w3023 b3024 lo_b3024 hi_b3024 hB3026 E3025
 have z_w3023 := E3025.size
 have hx := hx.keep0 E3025
 have hb := below_step0 hb E3025 hb.size
 refine op_assign (ev_hit hN rfl) ?_
 refine reg_nil ?_
 refine hK3022 _ _ ?_
 refine wp_block ?_
 refine loop_m (fun mz_ az_ w' => ∃ (u nv : Value) (acc : List (Value × List Int)) (P : List Nat) (rest : List (List Nat)), mz_ = rest.length ∧ (az_.tmps.getD 2 undef = (Value.slice none 0 0)) ∧ (az_.tmps.getD 3 undef = u) ∧ (az_.tmps.getD 4 undef = nv) ∧ (Now kI w P rest) ∧ (acc.map Prod.snd ++ rest.map (fun l => l.map Int.ofNat) = (levels o).map (fun l => l.map Int.ofNat)) ∧ (Below w.heap.size w w') ∧ (w3023.heap.size ≤ w'.heap.size) ∧ (Bx w' p 71 [(ptr q 0)]) ∧ (∀ x9 ∈ acc, Own w' w.heap.size 3 1 x9.1 x9.2.length (x9.2.map (Value.int .i64))) ∧ (Own w' w.heap.size 30 1 u acc.length (acc.flatMap (fun x9 => [x9.1]))) ∧ (Own w' w.heap.size 69 1 nv P.length (P.flatMap cN))) _ hN hd ⟨_, _, [], [q], (levels o), rfl, (sl_hit hN rfl), (sl_hit hN rfl), (sl_hit hN rfl), hNow0, rfl, hb, (Nat.le_refl _), hx, (fun x9 hx9 => absurd hx9 List.not_mem_nil), (Own.nil _ _ _ _), (Own.ofBx (base := w.heap.size) (sz := 1) (n := 1) hB3026 rfl (by decide) (by omega))⟩ ?_
 rintro _ a3027 w3027 hN3027 hd3027 ⟨u, nv, acc, P, rest, rfl, s3027_2, s3027_3, s3027_4, hNow, hlev, hb, zl_w3027, hx, hall, hO3028, hO3029⟩
 have z_w3027 := hb.size
 refine seq_any fun K3030 hK3030 => ?_
 refine seq_any fun K3031 hK3031 => ?_
 refine one_reg ?_
 refine op_move (ev_base hN3027 rfl s3027_4) ?_
 refine op_len_rd Try.underlying113 (ev_hit hN3027 rfl) hO3029.rdw ?_
 refine op_gtr (ev_hit hN3027 rfl) rfl (fun c25 => ?_) (fun c25 => ?_)
 · -- 25T
  refine reg_nil ?_
  refine hK3031 _ _ ?_
  refine wp_cond_true (ev_hit hN3027 rfl) ?_
  refine wp_skip ?_
  refine hK3030 _ _ ?_
  refine wp_block ?_
  refine seq_any fun K3032 hK3032 => ?_
  refine one_reg ?_
  refine op_assign rfl ?_
  refine reg_nil ?_
  refine hK3032 _ _ ?_
  refine seq_any fun K3033 hK3033 => ?_
  refine one_reg ?_
  refine op_assign rfl ?_
  refine reg_nil ?_
  refine hK3033 _ _ ?_
  refine seq_any fun K3034 hK3034 => ?_
  refine seq_any fun K3035 hK3035 => ?_
  refine one_reg ?_
  refine op_move (ev_base hN3027 rfl s3027_4) ?_
  have hPn := hNow.len
  obtain ⟨S, PP, rest2, hr2, hS, hPP, hV, hNx⟩ := hNow.step (fun e => by rw [e] at c25; exact absurd c25 (by decide))
  have hFn := hNx.len
  have hfl : ∀ j, ((PP.take j).flatten).length ≤ PP.flatten.length := fun j => flat_le
  refine op_len_rd Try.underlying113 (ev_hit hN3027 rfl) hO3029.rdw ?_
  refine op_move rfl ?_
  refine reg_nil ?_
  refine hK3035 _ _ ?_
  refine wp_block ?_
  refine loop_m (fun mz_ az_ w' => ∃ (i : Nat) (szv xv : Value), mz_ = P.length - i ∧ (az_.tmps.getD 2 undef = (Value.slice none 0 0)) ∧ (az_.tmps.getD 3 undef = u) ∧ (az_.tmps.getD 4 undef = nv) ∧ (az_.tmps.getD 26 undef = nv) ∧ (az_.tmps.getD 27 undef = (Value.int .i64 ((P.length : Nat) : Int))) ∧ (az_.tmps.getD 28 undef = (Value.int .i64 ((i : Nat) : Int))) ∧ (az_.tmps.getD 5 undef = szv) ∧ (az_.tmps.getD 6 undef = xv) ∧ (i ≤ P.length) ∧ (∀ x9 ∈ acc, DJ x9.1 szv) ∧ (DJ nv xv) ∧ (Below w.heap.size w w') ∧ (w3027.heap.size ≤ w'.heap.size) ∧ (Bx w' p 71 [(ptr q 0)]) ∧ (∀ x9 ∈ acc, Own w' w.heap.size 3 1 x9.1 x9.2.length (x9.2.map (Value.int .i64))) ∧ (Own w' w.heap.size 30 1 u acc.length (acc.flatMap (fun x9 => [x9.1]))) ∧ (Own w' w.heap.size 69 1 nv P.length (P.flatMap cN)) ∧ (Own w' w.heap.size 3 1 szv i (((S.take i).map Int.ofNat).map (Value.int .i64))) ∧ (Own w' w.heap.size 69 1 xv ((PP.take i).flatten).length (((PP.take i).flatten).flatMap cN))) _ hN3027 hd3027 ⟨0, _, _, rfl, (sl_base hN3027 rfl s3027_2), (sl_base hN3027 rfl s3027_3), (sl_base hN3027 rfl s3027_4), (sl_hit hN3027 rfl), (sl_hit hN3027 rfl), (sl_hit hN3027 rfl), (sl_hit hN3027 rfl), (sl_hit hN3027 rfl), (Nat.zero_le _), (fun x9 _ => dj_nil x9.1), (dj_nil _), hb, (Nat.le_refl _), hx, hall, hO3028, hO3029, (Own.nil _ _ _ _), (Own.nil _ _ _ _)⟩ ?_
  rintro _ a3036 w3036 hN3036 hd3036 ⟨i, szv, xv, rfl, s3036_2, s3036_3, s3036_4, s3036_26, s3036_27, s3036_28, s3036_5, s3036_6, hi, djs, djx, hb, zl_w3036, hx, hall, hO3028, hO3029, hO3037, hO3038⟩
  have z_w3036 := hb.size
  refine seq_any fun K3039 hK3039 => ?_
  refine one_reg ?_
  refine op_lss (ev_base hN3036 rfl s3036_28) (ev_base hN3036 rfl s3036_27) (fun c29 => ?_) (fun c29 => ?_)
  · -- 29T
   refine reg_nil ?_
   refine hK3039 _ _ ?_
   refine seq_any fun K3040 hK3040 => ?_
   refine wp_cond_true (ev_hit hN3036 rfl) ?_
   refine wp_skip ?_
   refine hK3040 _ _ ?_
   refine seq_any fun K3041 hK3041 => ?_
   refine wp_block ?_
   refine seq_any fun K3042 hK3042 => ?_
   refine one_reg ?_
   refine op_index_rd slt113 (ev_base hN3036 rfl s3036_26) hO3029.rdw (ev_base hN3036 rfl s3036_28) (by omega) (by omega) ?_
   intro b3043 o3044 h0b3043 h1b3043 hc3045
   refine op_load1 (v := (ptr (P.getD i default) 0)) one69 (ev_hit hN3036 rfl) (by have := hc3045 0 (ptr (P.getD i default) 0) (by decide) (el_pn (i := i) (by omega) (by first | omega | (simp only [List.length_drop, List.length_take]; omega))); simpa using this) ?_
   refine op_assign (ev_hit hN3036 rfl) ?_
   refine reg_nil ?_
   refine hK3042 _ _ ?_
   refine seq_any fun K3046 hK3046 => ?_
   refine one_reg ?_
   refine op_move (ev_base hN3036 rfl s3036_5) ?_
   obtain ⟨hpB3047, pv3047, kv3047, cv3047, a_3047, b_3047, ca3047, cb3047, hx3047, h2_3047, h3_3047, h4_3047, h5_3047⟩ := (hV i (by omega)).below hb
   have hx3047 : Bx w3036 (P.getD i default) 115 [pv3047, kv3047, cv3047] := hx3047
   refine op_move (ev_hit hN3036 rfl) ?_
   refine op_fn (vs := [(ptr (P.getD i default) 0)]) ok52 ⟨(ev_hit hN3036 rfl), trivial⟩ (Ret.flip (sizeUI hx3047 h2_3047 h3_3047 h4_3047 h5_3047)) ?_
   rintro _ _ ⟨rfl, rfl⟩
   refine op_bslice (e := 3) (pv := [(0, (Value.int .i64 (((S.getD i 0) : Nat) : Int)))]) (cs := [(Value.int .i64 (((S.getD i 0) : Nat) : Int))]) ⟨rfl, (ev_hit hN3036 rfl), trivial⟩ (by kernel_rfl) ?_
   intro w3048 b3049 lo_b3049 hi_b3049 hB3051 E3050
   have ne_b3049_szv : szv.ownBlock ≠ some b3049 := fun hh => by have := (hO3037.lt _ hh).2; omega
   have z_w3048 := E3050.size
   have hx := hx.keep0 E3050
   have hall : ∀ x9 ∈ acc, Own w3048 w.heap.size 3 1 x9.1 x9.2.length (x9.2.map (Value.int .i64)) := fun x9 hx9 => (hall x9 hx9).keep0 E3050
   have hO3028 := hO3028.keep0 E3050
   have hO3029 := hO3029.keep0 E3050
   have hO3037 := hO3037.keep0 E3050
   have hO3038 := hO3038.keep0 E3050
   have hx3047 := hx3047.keep0 E3050
   have h2_3047 := h2_3047.keep0 E3050
   have h3_3047 := h3_3047.keep0 E3050
   have h4_3047 := h4_3047.keep0 E3050
   have hb := below_step0 hb E3050 hb.size
   have hfl1 := hfl i
   have hfl2 := hfl (i + 1)
   have hfl3 : ((PP.take (i + 1)).flatten).length = ((PP.take i).flatten).length + (PP.getD i []).length := by rw [flat_take9 (by omega), List.length_append]
   have hP3057 := hO3037
   refine op_append slt30 (ev_hit hN3036 rfl) hP3057 (ev_hit hN3036 rfl) (Src.ofRd Try.underlying30 (by decide) (RdC.ofBx (sz := 1) (n := 1) hB3051 rfl (by decide)) (by simp [Value.oneCell', u8v])) (by unfold maxLen; omega) (by omega) hb.size ?_
   intro v3052 w3053 hO3055 E3054 hm3056
   have dja3058 : ∀ x9 ∈ acc, DJ x9.1 v3052 := fun x9 hx9 => DJ.step hm3056 (fun k hk => ((hall x9 hx9).lt k hk).2) (djs x9 hx9)
   have z_w3053 := E3054.size
   have hx := hx.keepO hP3057 E3054 (by decide)
   have hall : ∀ x9 ∈ acc, Own w3053 w.heap.size 3 1 x9.1 x9.2.length (x9.2.map (Value.int .i64)) := fun x9 hx9 => (hall x9 hx9).keepD E3054 (djs x9 hx9)
   have hO3028 := hO3028.keepT hP3057 E3054 (by decide)
   have hO3029 := hO3029.keepT hP3057 E3054 (by decide)
   have hO3038 := hO3038.keepT hP3057 E3054 (by decide)
   have hx3047 := hx3047.keepO hP3057 E3054 (by decide)
   have h2_3047 := h2_3047.keepO hP3057 E3054 (by omega)
   have h3_3047 := h3_3047.keepO hP3057 E3054 (by omega)
   have h4_3047 := h4_3047.keepO hP3057 E3054 (by omega)
   have hB3051 := hB3051.keep E3054 (fun hh => ne_b3049_szv hh.symm)
   have hb := below_stepO hb hP3057 E3054 hb.size (by omega)
   have hO3055 : Own w3053 w.heap.size 3 1 v3052 (i + 1) (((((S.take i).map Int.ofNat) ++ [(((S.getD i 0) : Nat) : Int)])).map (Value.int .i64)) := by simpa [u8v, sv] using hO3055
   have ne_b3049_v3052 : v3052.ownBlock ≠ some b3049 := ne_step (w1 := w3048) ⟨E3054, hm3056⟩ (by omega) ne_b3049_szv
   refine op_assign (ev_hit hN3036 rfl) ?_
   refine reg_nil ?_
   refine hK3046 _ _ ?_
   refine one_reg ?_
   refine op_move (ev_base hN3036 rfl s3036_6) ?_
   refine op_move (ev_hit hN3036 rfl) ?_
   refine op_nil (ev_hit hN3036 rfl) ?_
   refine op_field fld115_2 (ev_hit hN3036 rfl) ?_
   refine op_load1 (v := cv3047) one113 (ev_hit hN3036 rfl) (hx3047.cell rfl) ?_
   have hP3064 := hO3038
   refine op_append slt113 (ev_hit hN3036 rfl) hP3064 (ev_hit hN3036 rfl) (Src.ofRd Try.underlying113 (by decide) h4_3047 (one_pn _)) (by unfold maxLen; omega) (by omega) hb.size ?_
   intro v3059 w3060 hO3062 E3061 hm3063
   have dj3065 : DJ nv v3059 := DJ.step hm3063 (fun k hk => (hO3029.lt k hk).2) djx
   have z_w3060 := E3061.size
   have hx := hx.keepO hP3064 E3061 (by decide)
   have hall : ∀ x9 ∈ acc, Own w3060 w.heap.size 3 1 x9.1 x9.2.length (x9.2.map (Value.int .i64)) := fun x9 hx9 => (hall x9 hx9).keepT hP3064 E3061 (by decide)
   have hO3028 := hO3028.keepT hP3064 E3061 (by decide)
   have hO3029 := hO3029.keepD E3061 djx
   have hx3047 := hx3047.keepO hP3064 E3061 (by decide)
   have h2_3047 := h2_3047.keepO hP3064 E3061 (by omega)
   have h3_3047 := h3_3047.keepO hP3064 E3061 (by omega)
   have h4_3047 := h4_3047.keepO hP3064 E3061 (by omega)
   have hB3051 := hB3051.keepO hP3064 E3061 (by decide)
   have hO3055 := hO3055.keepT hP3064 E3061 (by decide)
   have hb := below_stepO hb hP3064 E3061 hb.size (by omega)
   have hO3062 : Own w3060 w.heap.size 69 1 v3059 (((PP.take i).flatten).length + (PP.getD i []).length) (((((PP.take i).flatten) ++ (PP.getD i []))).flatMap cN) := by simpa [u8v, sv] using hO3062
   refine op_assign (ev_hit hN3036 rfl) ?_
   refine reg_nil ?_
   refine hK3041 _ _ ?_
   refine one_reg ?_
   refine op_add (ev_base hN3036 rfl s3036_28) rfl (add64 (by omega)) ?_
   refine op_move (ev_hit hN3036 rfl) ?_
   refine reg_nil ?_
   -- round 25T 29T
   exact loop_next _ hN3036 hd3036 ⟨(i + 1), _, _, rfl, (sl_base hN3036 rfl s3036_2), (sl_base hN3036 rfl s3036_3), (sl_base hN3036 rfl s3036_4), (sl_base hN3036 rfl s3036_26), (sl_base hN3036 rfl s3036_27), (sl_hit hN3036 rfl).trans (congrArg (Value.int .i64) (by omega)), (sl_hit hN3036 rfl), (sl_hit hN3036 rfl), (by omega), dja3058, dj3065, hb, (by omega), hx, hall, hO3028, hO3029, (hO3055.cast (by omega) (by rw [ints_take (by omega)] <;> simp)), (hO3062.cast (by rw [flat_take9 (by omega)] <;> simp) (by rw [flat_take9 (by omega)] <;> simp))⟩ (by omega)
  · -- 29F
   refine reg_nil ?_
   refine hK3039 _ _ ?_
   refine seq_any fun K3066 hK3066 => ?_
   refine wp_cond_false (ev_hit hN3036 rfl) ?_
   refine wp_exit (then_exit (then_exit (blk_hit ?_)))
   refine hK3034 _ _ ?_
   refine one_reg ?_
   have hal : acc.length + rest.length = (levels o).length := by have := congrArg List.length hlev; simpa using this
   refine op_move (ev_base hN3036 rfl s3036_3) ?_
   refine op_move (ev_base hN3036 rfl s3036_5) ?_
   refine op_bslice (e := 30) (pv := [(0, szv)]) (cs := [szv]) ⟨rfl, (ev_hit hN3036 rfl), trivial⟩ (by obtain ⟨_, _, _, rfl⟩ := hO3037.sl; kernel_rfl) ?_
   intro w3067 b3068 lo_b3068 hi_b3068 hB3070 E3069
   have ne_b3068_u : u.ownBlock ≠ some b3068 := fun hh => by have := (hO3028.lt _ hh).2; omega
   have z_w3067 := E3069.size
   have hx := hx.keep0 E3069
   have hall : ∀ x9 ∈ acc, Own w3067 w.heap.size 3 1 x9.1 x9.2.length (x9.2.map (Value.int .i64)) := fun x9 hx9 => (hall x9 hx9).keep0 E3069
   have hO3028 := hO3028.keep0 E3069
   have hO3029 := hO3029.keep0 E3069
   have hO3037 := hO3037.keep0 E3069
   have hO3038 := hO3038.keep0 E3069
   have hb := below_step0 hb E3069 hb.size
   have hP3076 := hO3028
   refine op_append slt28 (ev_hit hN3036 rfl) hP3076 (ev_hit hN3036 rfl) (Src.ofRd Try.underlying28 (by decide) (RdC.ofBx (sz := 1) (n := 1) hB3070 rfl (by decide)) (by simp only [List.all_cons, List.all_nil, Bool.true_and, Bool.and_true, hO3037.one]; try rfl)) (by unfold maxLen; omega) (by omega) hb.size ?_
   intro v3071 w3072 hO3074 E3073 hm3075
   have z_w3072 := E3073.size
   have hx := hx.keepO hP3076 E3073 (by decide)
   have hall : ∀ x9 ∈ acc, Own w3072 w.heap.size 3 1 x9.1 x9.2.length (x9.2.map (Value.int .i64)) := fun x9 hx9 => (hall x9 hx9).keepT hP3076 E3073 (by decide)
   have hO3029 := hO3029.keepT hP3076 E3073 (by decide)
   have hO3037 := hO3037.keepT hP3076 E3073 (by decide)
   have hO3038 := hO3038.keepT hP3076 E3073 (by decide)
   have hB3070 := hB3070.keep E3073 (fun hh => ne_b3068_u hh.symm)
   have hb := below_stepO hb hP3076 E3073 hb.size (by omega)
   have hO3074 : Own w3072 w.heap.size 30 1 v3071 (acc.length + 1) ((acc.flatMap (fun x9 => [x9.1]) ++ [szv])) := by simpa [u8v, sv] using hO3074
   have ne_b3068_v3071 : v3071.ownBlock ≠ some b3068 := ne_step (w1 := w3067) ⟨E3073, hm3075⟩ (by omega) ne_b3068_u
   refine op_move (ev_base hN3036 rfl s3036_6) ?_
   refine op_assign (ev_hit hN3036 rfl) ?_
   refine op_assign (ev_hit hN3036 rfl) ?_
   refine reg_nil ?_
   refine blk_normal ?_
   -- round 25T 29F
   exact loop_next _ hN3036 hd3036 ⟨_, _, (acc ++ [(szv, S.map Int.ofNat)]), PP.flatten, rest2, rfl, (sl_base hN3036 rfl s3036_2), (sl_hit hN3036 rfl), (sl_hit hN3036 rfl), hNx, (by rw [← hlev, hr2]; simp), hb, (by omega), hx, (oall_snoc9 hall (hO3037.cast (by simp; omega) (by rw [List.take_of_length_le (by omega)]))), (hO3074.cast (by simp) (by simp)), (hO3038.cast (by rw [List.take_of_length_le (by omega)]) (by rw [List.take_of_length_le (by omega)]))⟩ (by rw [hr2]; simp)
 · -- 25F
  refine reg_nil ?_
  refine hK3031 _ _ ?_
  refine wp_cond_false (ev_hit hN3027 rfl) ?_
  refine wp_exit (then_exit (then_exit (blk_hit ?_)))
  refine hK3021 _ _ ?_
  refine seq_any fun K3077 hK3077 => ?_
  refine one_reg ?_
  refine op_move (ev_base hN3027 rfl s3027_3) ?_
  refine op_assign (ev_hit hN3027 rfl) ?_
  refine reg_nil ?_
  refine hK3077 _ _ ?_
  refine wp_ret ?_
  refine ret1 rfl hd3027 (ev_hit hN3027 rfl) ⟨_, rfl, ?_⟩
  -- path 25F
  have hP0 : P = [] := List.eq_nil_of_length_eq_zero (by omega)
  have hr0 := hNow.done hP0
  exact ⟨hb, acc, hO3028, hall, by rw [← hlev, hr0]; simp⟩

end Go.Proofs.Ytcpfdfejojghbaa

/- Walks, written by a program: what each function of the translation hands back. -/
namespace Go.Proofs.Ytcpfdfejojghbaa
open Go.Gx Go.RowKit
attribute [local irreducible] wpList wpStill Code.wp Calls
open Go.Bt
theorem leafUS {p : Nat} {pv kv cv : Value} {a b : Nat} {ca cb : List Value} {L : List Nat} {B : Nat} {w : World} (hx : Bx w p 93 [pv, kv, cv]) (h2 : RdC w 0 B 2 pv a ca) (h3 : RdC w 0 B 1 kv b cb) (h4 : RdC w 0 B 1 cv L.length (L.flatMap cN)) : Ret Try.prog 63 #[(ptr p 0)] w (fun v' w' => v' = .bool (decide (L.length = 0)) ∧ w' = w) := by
 have hb := Below.refl w.heap.size w
 refine enter (N := 9) Try.func63 rfl rfl (by simp) fun a0 hN hd hA => ?_
 have s0 : a0.tmps.getD 0 undef = (ptr p 0) := hA 0 (by simp)
 clear hA
 refine seq_any fun K3078 hK3078 => ?_
 refine one_reg ?_
 refine op_assign rfl ?_
 refine reg_nil ?_
 refine hK3078 _ _ ?_
 refine seq_any fun K3079 hK3079 => ?_
 refine one_reg ?_
 refine op_move (ev_base hN rfl s0) ?_
 refine op_nil (ev_hit hN rfl) ?_
 refine op_field fld93_2 (ev_hit hN rfl) ?_
 refine op_load1 (v := cv) one91 (ev_hit hN rfl) (hx.cell rfl) ?_
 refine op_len_rd Try.underlying91 (ev_hit hN rfl) h4 ?_
 refine op_eql (ev_hit hN rfl) rfl (fun c8 => ?_) (fun c8 => ?_)
 · -- 8T
  refine op_assign (ev_hit hN rfl) ?_
  refine reg_nil ?_
  refine hK3079 _ _ ?_
  refine wp_ret ?_
  refine ret1 rfl hd (ev_hit hN rfl) ⟨_, rfl, ?_⟩
  -- path 8T
  exact ⟨congrArg Value.bool (decide_eq_true (by omega)).symm, rfl⟩
 · -- 8F
  refine op_assign (ev_hit hN rfl) ?_
  refine reg_nil ?_
  refine hK3079 _ _ ?_
  refine wp_ret ?_
  refine ret1 rfl hd (ev_hit hN rfl) ⟨_, rfl, ?_⟩
  -- path 8F
  exact ⟨congrArg Value.bool (decide_eq_false (by omega)).symm, rfl⟩

theorem sizeUS {p : Nat} {pv kv cv : Value} {a b n : Nat} {ca cb : List Value} {L : List Nat} {B : Nat} {w : World} (hx : Bx w p 93 [pv, kv, cv]) (h2 : RdC w 0 B 2 pv a ca) (h3 : RdC w 0 B 1 kv b cb) (h4 : RdC w 0 B 1 cv L.length (L.flatMap cN)) (h5 : n = if L.length = 0 then a else b) : Ret Try.prog 42 #[(ptr p 0)] w (fun v' w' => v' = .int .i64 (n : Int) ∧ w' = w) := by
 have hb := Below.refl w.heap.size w
 refine enter (N := 15) Try.func42 rfl rfl (by simp) fun a0 hN hd hA => ?_
 have s0 : a0.tmps.getD 0 undef = (ptr p 0) := hA 0 (by simp)
 clear hA
 refine seq_any fun K3080 hK3080 => ?_
 refine one_reg ?_
 refine op_assign rfl ?_
 refine reg_nil ?_
 refine hK3080 _ _ ?_
 refine seq_any fun K3081 hK3081 => ?_
 refine seq_any fun K3082 hK3082 => ?_
 refine one_reg ?_
 refine op_move (ev_base hN rfl s0) ?_
 refine op_fn (vs := [(ptr p 0)]) ok63 ⟨(ev_hit hN rfl), trivial⟩ (Ret.flip (leafUS hx h2 h3 h4)) ?_
 rintro _ _ ⟨rfl, rfl⟩
 rcases Bool.eq_false_or_eq_true ((decide (L.length = 0))) with c4 | c4
 · -- 4T
  rw [c4]
  refine reg_nil ?_
  refine hK3082 _ _ ?_
  refine wp_cond_true (ev_hit hN rfl) ?_
  refine seq_any fun K3083 hK3083 => ?_
  refine one_reg ?_
  refine op_move (ev_base hN rfl s0) ?_
  refine op_nil (ev_hit hN rfl) ?_
  refine op_field fld93_0 (ev_hit hN rfl) ?_
  refine op_load1 (v := pv) one89 (ev_hit hN rfl) (hx.cell rfl) ?_
  refine op_len_rd Try.underlying89 (ev_hit hN rfl) h2 ?_
  refine op_assign (ev_hit hN rfl) ?_
  refine reg_nil ?_
  refine hK3083 _ _ ?_
  refine wp_ret (then_ret ( ?_))
  refine ret1 rfl hd (ev_hit hN rfl) ⟨_, rfl, ?_⟩
  -- path 4T
  exact ⟨by rw [h5, if_pos (of_decide_eq_true c4)], rfl⟩
 · -- 4F
  rw [c4]
  refine reg_nil ?_
  refine hK3082 _ _ ?_
  refine wp_cond_false (ev_hit hN rfl) ?_
  refine wp_skip ?_
  refine hK3081 _ _ ?_
  refine seq_any fun K3084 hK3084 => ?_
  refine one_reg ?_
  refine op_move (ev_base hN rfl s0) ?_
  refine op_nil (ev_hit hN rfl) ?_
  refine op_field fld93_1 (ev_hit hN rfl) ?_
  refine op_load1 (v := kv) one90 (ev_hit hN rfl) (hx.cell rfl) ?_
  refine op_len_rd Try.underlying90 (ev_hit hN rfl) h3 ?_
  refine op_assign (ev_hit hN rfl) ?_
  refine reg_nil ?_
  refine hK3084 _ _ ?_
  refine wp_ret ?_
  refine ret1 rfl hd (ev_hit hN rfl) ⟨_, rfl, ?_⟩
  -- path 4F
  exact ⟨by rw [h5, if_neg (of_decide_eq_false c4)], rfl⟩

theorem levels0S {p : Nat} {w : World} (hx : Bx w p 88 [.pointer none]) : Ret Try.prog 14 #[(ptr p 0)] w (fun v' w' => v' = .slice none 0 0 ∧ w' = w) := by
 have hb := Below.refl w.heap.size w
 refine enter (N := 50) Try.func14 rfl rfl (by simp) fun a0 hN hd hA => ?_
 have s0 : a0.tmps.getD 0 undef = (ptr p 0) := hA 0 (by simp)
 clear hA
 refine seq_any fun K3085 hK3085 => ?_
 refine one_reg ?_
 refine op_assign rfl ?_
 refine reg_nil ?_
 refine hK3085 _ _ ?_
 refine seq_any fun K3086 hK3086 => ?_
 refine seq_any fun K3087 hK3087 => ?_
 refine one_reg ?_
 refine op_move (ev_base hN rfl s0) ?_
 refine op_peq_some ptrt23 (ev_hit hN rfl) rfl ?_
 refine op_move (ev_hit hN rfl) ?_
 refine g_true (j := 2) (dj := 11) (b := false) rfl rfl rfl (ev_hit hN rfl) ?_
 refine op_move (ev_base hN rfl s0) ?_
 refine g_true (j := 2) (dj := 11) (b := false) rfl rfl rfl (ev_hit hN rfl) ?_
 refine op_nil (ev_hit hN rfl) ?_
 refine g_true (j := 2) (dj := 11) (b := false) rfl rfl rfl (ev_hit hN rfl) ?_
 refine op_field fld88_0 (ev_hit hN rfl) ?_
 refine g_true (j := 2) (dj := 11) (b := false) rfl rfl rfl (ev_hit hN rfl) ?_
 refine op_load1 (v := (Value.pointer none)) one86 (ev_hit hN rfl) (hx.cell rfl) ?_
 refine g_true (j := 2) (dj := 11) (b := false) rfl rfl rfl (ev_hit hN rfl) ?_
 refine op_peq_none ptrt86 (ev_hit hN rfl) rfl ?_
 refine op_pick_f (ev_hit hN rfl) (ev_hit hN rfl) ?_
 refine reg_nil ?_
 refine hK3087 _ _ ?_
 refine wp_cond_true (ev_hit hN rfl) ?_
 refine seq_any fun K3088 hK3088 => ?_
 refine one_reg ?_
 refine op_assign rfl ?_
 refine reg_nil ?_
 refine hK3088 _ _ ?_
 refine wp_ret (then_ret ( ?_))
 refine ret1 rfl hd (ev_hit hN rfl) ⟨_, rfl, ?_⟩
 -- path
 exact ⟨rfl, rfl⟩

theorem levels1S {o : TO (List UInt8)} {p q : Nat} {w : World} (hx : Bx w p 88 [ptr q 0]) (hNow0 : Now kS w [q] (levels o)) (hlv : (levels o).length ≤ 100000) : Ret Try.prog 14 #[(ptr p 0)] w (fun v' w' => Below w.heap.size w w' ∧ ∃ LL : List (Value × List Int), Own w' w.heap.size 30 1 v' LL.length (LL.flatMap (fun x9 => [x9.1])) ∧ (∀ x9 ∈ LL, Own w' w.heap.size 3 1 x9.1 x9.2.length (x9.2.map (Value.int .i64))) ∧ LL.map Prod.snd = (levels o).map (fun l => l.map Int.ofNat)) := by
 have hb := Below.refl w.heap.size w
 refine enter (N := 50) Try.func14 rfl rfl (by simp) fun a0 hN hd hA => ?_
 have s0 : a0.tmps.getD 0 undef = (ptr p 0) := hA 0 (by simp)
 clear hA
 refine seq_any fun K3089 hK3089 => ?_
 refine one_reg ?_
 refine op_assign rfl ?_
 refine reg_nil ?_
 refine hK3089 _ _ ?_
 refine seq_any fun K3090 hK3090 => ?_
 refine seq_any fun K3091 hK3091 => ?_
 refine one_reg ?_
 refine op_move (ev_base hN rfl s0) ?_
 refine op_peq_some ptrt23 (ev_hit hN rfl) rfl ?_
 refine op_move (ev_hit hN rfl) ?_
 refine g_true (j := 2) (dj := 11) (b := false) rfl rfl rfl (ev_hit hN rfl) ?_
 refine op_move (ev_base hN rfl s0) ?_
 refine g_true (j := 2) (dj := 11) (b := false) rfl rfl rfl (ev_hit hN rfl) ?_
 refine op_nil (ev_hit hN rfl) ?_
 refine g_true (j := 2) (dj := 11) (b := false) rfl rfl rfl (ev_hit hN rfl) ?_
 refine op_field fld88_0 (ev_hit hN rfl) ?_
 refine g_true (j := 2) (dj := 11) (b := false) rfl rfl rfl (ev_hit hN rfl) ?_
 refine op_load1 (v := (ptr q 0)) one86 (ev_hit hN rfl) (hx.cell rfl) ?_
 refine g_true (j := 2) (dj := 11) (b := false) rfl rfl rfl (ev_hit hN rfl) ?_
 refine op_peq_some ptrt86 (ev_hit hN rfl) rfl ?_
 refine op_pick_f (ev_hit hN rfl) (ev_hit hN rfl) ?_
 refine reg_nil ?_
 refine hK3091 _ _ ?_
 refine wp_cond_false (ev_hit hN rfl) ?_
 refine wp_skip ?_
 refine hK3090 _ _ ?_
 refine seq_any fun K3092 hK3092 => ?_
 refine one_reg ?_
 refine op_assign rfl ?_
 refine reg_nil ?_
 refine hK3092 _ _ ?_
 refine seq_any fun K3093 hK3093 => ?_
 refine seq_any fun K3094 hK3094 => ?_
 refine one_reg ?_
 refine op_move (ev_base hN rfl s0) ?_
 refine op_nil (ev_hit hN rfl) ?_
 refine op_field fld88_0 (ev_hit hN rfl) ?_
 refine op_load1 (v := (ptr q 0)) one86 (ev_hit hN rfl) (hx.cell rfl) ?_
 refine op_bslice (e := 86) (pv := [(0, (ptr q 0))]) (cs := [(ptr q 0)]) ⟨rfl, (ev_hit hN rfl), trivial⟩ (by kernel_rfl) ?_
 intro w3095 b3096 lo_b3096 hi_b3096 hB3098 E3097
 have z_w3095 := E3097.size
 have hx := hx.keep0 E3097
 have hb := below_step0 hb E3097 hb.size
 refine op_assign (ev_hit hN rfl) ?_
 refine reg_nil ?_
 refine hK3094 _ _ ?_
 refine wp_block ?_
 refine loop_m (fun mz_ az_ w' => ∃ (u nv : Value) (acc : List (Value × List Int)) (P : List Nat) (rest : List (List Nat)), mz_ = rest.length ∧ (az_.tmps.getD 2 undef = (Value.slice none 0 0)) ∧ (az_.tmps.getD 3 undef = u) ∧ (az_.tmps.getD 4 undef = nv) ∧ (Now kS w P rest) ∧ (acc.map Prod.snd ++ rest.map (fun l => l.map Int.ofNat) = (levels o).map (fun l => l.map Int.ofNat)) ∧ (Below w.heap.size w w') ∧ (w3095.heap.size ≤ w'.heap.size) ∧ (Bx w' p 88 [(ptr q 0)]) ∧ (∀ x9 ∈ acc, Own w' w.heap.size 3 1 x9.1 x9.2.length (x9.2.map (Value.int .i64))) ∧ (Own w' w.heap.size 30 1 u acc.length (acc.flatMap (fun x9 => [x9.1]))) ∧ (Own w' w.heap.size 86 1 nv P.length (P.flatMap cN))) _ hN hd ⟨_, _, [], [q], (levels o), rfl, (sl_hit hN rfl), (sl_hit hN rfl), (sl_hit hN rfl), hNow0, rfl, hb, (Nat.le_refl _), hx, (fun x9 hx9 => absurd hx9 List.not_mem_nil), (Own.nil _ _ _ _), (Own.ofBx (base := w.heap.size) (sz := 1) (n := 1) hB3098 rfl (by decide) (by omega))⟩ ?_
 rintro _ a3099 w3099 hN3099 hd3099 ⟨u, nv, acc, P, rest, rfl, s3099_2, s3099_3, s3099_4, hNow, hlev, hb, zl_w3099, hx, hall, hO3100, hO3101⟩
 have z_w3099 := hb.size
 refine seq_any fun K3102 hK3102 => ?_
 refine seq_any fun K3103 hK3103 => ?_
 refine one_reg ?_
 refine op_move (ev_base hN3099 rfl s3099_4) ?_
 refine op_len_rd Try.underlying91 (ev_hit hN3099 rfl) hO3101.rdw ?_
 refine op_gtr (ev_hit hN3099 rfl) rfl (fun c25 => ?_) (fun c25 => ?_)
 · -- 25T
  refine reg_nil ?_
  refine hK3103 _ _ ?_
  refine wp_cond_true (ev_hit hN3099 rfl) ?_
  refine wp_skip ?_
  refine hK3102 _ _ ?_
  refine wp_block ?_
  refine seq_any fun K3104 hK3104 => ?_
  refine one_reg ?_
  refine op_assign rfl ?_
  refine reg_nil ?_
  refine hK3104 _ _ ?_
  refine seq_any fun K3105 hK3105 => ?_
  refine one_reg ?_
  refine op_assign rfl ?_
  refine reg_nil ?_
  refine hK3105 _ _ ?_
  refine seq_any fun K3106 hK3106 => ?_
  refine seq_any fun K3107 hK3107 => ?_
  refine one_reg ?_
  refine op_move (ev_base hN3099 rfl s3099_4) ?_
  have hPn := hNow.len
  obtain ⟨S, PP, rest2, hr2, hS, hPP, hV, hNx⟩ := hNow.step (fun e => by rw [e] at c25; exact absurd c25 (by decide))
  have hFn := hNx.len
  have hfl : ∀ j, ((PP.take j).flatten).length ≤ PP.flatten.length := fun j => flat_le
  refine op_len_rd Try.underlying91 (ev_hit hN3099 rfl) hO3101.rdw ?_
  refine op_move rfl ?_
  refine reg_nil ?_
  refine hK3107 _ _ ?_
  refine wp_block ?_
  refine loop_m (fun mz_ az_ w' => ∃ (i : Nat) (szv xv : Value), mz_ = P.length - i ∧ (az_.tmps.getD 2 undef = (Value.slice none 0 0)) ∧ (az_.tmps.getD 3 undef = u) ∧ (az_.tmps.getD 4 undef = nv) ∧ (az_.tmps.getD 26 undef = nv) ∧ (az_.tmps.getD 27 undef = (Value.int .i64 ((P.length : Nat) : Int))) ∧ (az_.tmps.getD 28 undef = (Value.int .i64 ((i : Nat) : Int))) ∧ (az_.tmps.getD 5 undef = szv) ∧ (az_.tmps.getD 6 undef = xv) ∧ (i ≤ P.length) ∧ (∀ x9 ∈ acc, DJ x9.1 szv) ∧ (DJ nv xv) ∧ (Below w.heap.size w w') ∧ (w3099.heap.size ≤ w'.heap.size) ∧ (Bx w' p 88 [(ptr q 0)]) ∧ (∀ x9 ∈ acc, Own w' w.heap.size 3 1 x9.1 x9.2.length (x9.2.map (Value.int .i64))) ∧ (Own w' w.heap.size 30 1 u acc.length (acc.flatMap (fun x9 => [x9.1]))) ∧ (Own w' w.heap.size 86 1 nv P.length (P.flatMap cN)) ∧ (Own w' w.heap.size 3 1 szv i (((S.take i).map Int.ofNat).map (Value.int .i64))) ∧ (Own w' w.heap.size 86 1 xv ((PP.take i).flatten).length (((PP.take i).flatten).flatMap cN))) _ hN3099 hd3099 ⟨0, _, _, rfl, (sl_base hN3099 rfl s3099_2), (sl_base hN3099 rfl s3099_3), (sl_base hN3099 rfl s3099_4), (sl_hit hN3099 rfl), (sl_hit hN3099 rfl), (sl_hit hN3099 rfl), (sl_hit hN3099 rfl), (sl_hit hN3099 rfl), (Nat.zero_le _), (fun x9 _ => dj_nil x9.1), (dj_nil _), hb, (Nat.le_refl _), hx, hall, hO3100, hO3101, (Own.nil _ _ _ _), (Own.nil _ _ _ _)⟩ ?_
  rintro _ a3108 w3108 hN3108 hd3108 ⟨i, szv, xv, rfl, s3108_2, s3108_3, s3108_4, s3108_26, s3108_27, s3108_28, s3108_5, s3108_6, hi, djs, djx, hb, zl_w3108, hx, hall, hO3100, hO3101, hO3109, hO3110⟩
  have z_w3108 := hb.size
  refine seq_any fun K3111 hK3111 => ?_
  refine one_reg ?_
  refine op_lss (ev_base hN3108 rfl s3108_28) (ev_base hN3108 rfl s3108_27) (fun c29 => ?_) (fun c29 => ?_)
  · -- 29T
   refine reg_nil ?_
   refine hK3111 _ _ ?_
   refine seq_any fun K3112 hK3112 => ?_
   refine wp_cond_true (ev_hit hN3108 rfl) ?_
   refine wp_skip ?_
   refine hK3112 _ _ ?_
   refine seq_any fun K3113 hK3113 => ?_
   refine wp_block ?_
   refine seq_any fun K3114 hK3114 => ?_
   refine one_reg ?_
   refine op_index_rd slt91 (ev_base hN3108 rfl s3108_26) hO3101.rdw (ev_base hN3108 rfl s3108_28) (by omega) (by omega) ?_
   intro b3115 o3116 h0b3115 h1b3115 hc3117
   refine op_load1 (v := (ptr (P.getD i default) 0)) one86 (ev_hit hN3108 rfl) (by have := hc3117 0 (ptr (P.getD i default) 0) (by decide) (el_pn (i := i) (by omega) (by first | omega | (simp only [List.length_drop, List.length_take]; omega))); simpa using this) ?_
   refine op_assign (ev_hit hN3108 rfl) ?_
   refine reg_nil ?_
   refine hK3114 _ _ ?_
   refine seq_any fun K3118 hK3118 => ?_
   refine one_reg ?_
   refine op_move (ev_base hN3108 rfl s3108_5) ?_
   obtain ⟨hpB3119, pv3119, kv3119, cv3119, a_3119, b_3119, ca3119, cb3119, hx3119, h2_3119, h3_3119, h4_3119, h5_3119⟩ := (hV i (by omega)).below hb
   have hx3119 : Bx w3108 (P.getD i default) 93 [pv3119, kv3119, cv3119] := hx3119
   refine op_move (ev_hit hN3108 rfl) ?_
   refine op_fn (vs := [(ptr (P.getD i default) 0)]) ok42 ⟨(ev_hit hN3108 rfl), trivial⟩ (Ret.flip (sizeUS hx3119 h2_3119 h3_3119 h4_3119 h5_3119)) ?_
   rintro _ _ ⟨rfl, rfl⟩
   refine op_bslice (e := 3) (pv := [(0, (Value.int .i64 (((S.getD i 0) : Nat) : Int)))]) (cs := [(Value.int .i64 (((S.getD i 0) : Nat) : Int))]) ⟨rfl, (ev_hit hN3108 rfl), trivial⟩ (by kernel_rfl) ?_
   intro w3120 b3121 lo_b3121 hi_b3121 hB3123 E3122
   have ne_b3121_szv : szv.ownBlock ≠ some b3121 := fun hh => by have := (hO3109.lt _ hh).2; omega
   have z_w3120 := E3122.size
   have hx := hx.keep0 E3122
   have hall : ∀ x9 ∈ acc, Own w3120 w.heap.size 3 1 x9.1 x9.2.length (x9.2.map (Value.int .i64)) := fun x9 hx9 => (hall x9 hx9).keep0 E3122
   have hO3100 := hO3100.keep0 E3122
   have hO3101 := hO3101.keep0 E3122
   have hO3109 := hO3109.keep0 E3122
   have hO3110 := hO3110.keep0 E3122
   have hx3119 := hx3119.keep0 E3122
   have h2_3119 := h2_3119.keep0 E3122
   have h3_3119 := h3_3119.keep0 E3122
   have h4_3119 := h4_3119.keep0 E3122
   have hb := below_step0 hb E3122 hb.size
   have hfl1 := hfl i
   have hfl2 := hfl (i + 1)
   have hfl3 : ((PP.take (i + 1)).flatten).length = ((PP.take i).flatten).length + (PP.getD i []).length := by rw [flat_take9 (by omega), List.length_append]
   have hP3129 := hO3109
   refine op_append slt30 (ev_hit hN3108 rfl) hP3129 (ev_hit hN3108 rfl) (Src.ofRd Try.underlying30 (by decide) (RdC.ofBx (sz := 1) (n := 1) hB3123 rfl (by decide)) (by simp [Value.oneCell', u8v])) (by unfold maxLen; omega) (by omega) hb.size ?_
   intro v3124 w3125 hO3127 E3126 hm3128
   have dja3130 : ∀ x9 ∈ acc, DJ x9.1 v3124 := fun x9 hx9 => DJ.step hm3128 (fun k hk => ((hall x9 hx9).lt k hk).2) (djs x9 hx9)
   have z_w3125 := E3126.size
   have hx := hx.keepO hP3129 E3126 (by decide)
   have hall : ∀ x9 ∈ acc, Own w3125 w.heap.size 3 1 x9.1 x9.2.length (x9.2.map (Value.int .i64)) := fun x9 hx9 => (hall x9 hx9).keepD E3126 (djs x9 hx9)
   have hO3100 := hO3100.keepT hP3129 E3126 (by decide)
   have hO3101 := hO3101.keepT hP3129 E3126 (by decide)
   have hO3110 := hO3110.keepT hP3129 E3126 (by decide)
   have hx3119 := hx3119.keepO hP3129 E3126 (by decide)
   have h2_3119 := h2_3119.keepO hP3129 E3126 (by omega)
   have h3_3119 := h3_3119.keepO hP3129 E3126 (by omega)
   have h4_3119 := h4_3119.keepO hP3129 E3126 (by omega)
   have hB3123 := hB3123.keep E3126 (fun hh => ne_b3121_szv hh.symm)
   have hb := below_stepO hb hP3129 E3126 hb.size (by omega)
   have hO3127 : Own w3125 w.heap.size 3 1 v3124 (i + 1) (((((S.take i).map Int.ofNat) ++ [(((S.getD i 0) : Nat) : Int)])).map (Value.int .i64)) := by simpa [u8v, sv] using hO3127
   have ne_b3121_v3124 : v3124.ownBlock ≠ some b3121 := ne_step (w1 := w3120) ⟨E3126, hm3128⟩ (by omega) ne_b3121_szv
   refine op_assign (ev_hit hN3108 rfl) ?_
   refine reg_nil ?_
   refine hK3118 _ _ ?_
   refine one_reg ?_
   refine op_move (ev_base hN3108 rfl s3108_6) ?_
   refine op_move (ev_hit hN3108 rfl) ?_
   refine op_nil (ev_hit hN3108 rfl) ?_
   refine op_field fld93_2 (ev_hit hN3108 rfl) ?_
   refine op_load1 (v := cv3119) one91 (ev_hit hN3108 rfl) (hx3119.cell rfl) ?_
   have hP3136 := hO3110
   refine op_append slt91 (ev_hit hN3108 rfl) hP3136 (ev_hit hN3108 rfl) (Src.ofRd Try.underlying91 (by decide) h4_3119 (one_pn _)) (by unfold maxLen; omega) (by omega) hb.size ?_
   intro v3131 w3132 hO3134 E3133 hm3135
   have dj3137 : DJ nv v3131 := DJ.step hm3135 (fun k hk => (hO3101.lt k hk).2) djx
   have z_w3132 := E3133.size
   have hx := hx.keepO hP3136 E3133 (by decide)
   have hall : ∀ x9 ∈ acc, Own w3132 w.heap.size 3 1 x9.1 x9.2.length (x9.2.map (Value.int .i64)) := fun x9 hx9 => (hall x9 hx9).keepT hP3136 E3133 (by decide)
   have hO3100 := hO3100.keepT hP3136 E3133 (by decide)
   have hO3101 := hO3101.keepD E3133 djx
   have hx3119 := hx3119.keepO hP3136 E3133 (by decide)
   have h2_3119 := h2_3119.keepO hP3136 E3133 (by omega)
   have h3_3119 := h3_3119.keepO hP3136 E3133 (by omega)
   have h4_3119 := h4_3119.keepO hP3136 E3133 (by omega)
   have hB3123 := hB3123.keepO hP3136 E3133 (by decide)
   have hO3127 := hO3127.keepT hP3136 E3133 (by decide)
   have hb := below_stepO hb hP3136 E3133 hb.size (by omega)
   have hO3134 : Own w3132 w.heap.size 86 1 v3131 (((PP.take i).flatten).length + (PP.getD i []).length) (((((PP.take i).flatten) ++ (PP.getD i []))).flatMap cN) := by simpa [u8v, sv] using hO3134
   refine op_assign (ev_hit hN3108 rfl) ?_
   refine reg_nil ?_
   refine hK3113 _ _ ?_
   refine one_reg ?_
   refine op_add (ev_base hN3108 rfl s3108_28) rfl (add64 (by omega)) ?_
   refine op_move (ev_hit hN3108 rfl) ?_
   refine reg_nil ?_
   -- round 25T 29T
   exact loop_next _ hN3108 hd3108 ⟨(i + 1), _, _, rfl, (sl_base hN3108 rfl s3108_2), (sl_base hN3108 rfl s3108_3), (sl_base hN3108 rfl s3108_4), (sl_base hN3108 rfl s3108_26), (sl_base hN3108 rfl s3108_27), (sl_hit hN3108 rfl).trans (congrArg (Value.int .i64) (by omega)), (sl_hit hN3108 rfl), (sl_hit hN3108 rfl), (by omega), dja3130, dj3137, hb, (by omega), hx, hall, hO3100, hO3101, (hO3127.cast (by omega) (by rw [ints_take (by omega)] <;> simp)), (hO3134.cast (by rw [flat_take9 (by omega)] <;> simp) (by rw [flat_take9 (by omega)] <;> simp))⟩ (by omega)
  · -- 29F
   refine reg_nil ?_
   refine hK3111 _ _ ?_
   refine seq_any fun K3138 hK3138 => ?_
   refine wp_cond_false (ev_hit hN3108 rfl) ?_
   refine wp_exit (then_exit (then_exit (blk_hit ?_)))
   refine hK3106 _ _ ?_
   refine one_reg ?_
   have hal : acc.length + rest.length = (levels o).length := by have := congrArg List.length hlev; simpa using this
   refine op_move (ev_base hN3108 rfl s3108_3) ?_
   refine op_move (ev_base hN3108 rfl s3108_5) ?_
   refine op_bslice (e := 30) (pv := [(0, szv)]) (cs := [szv]) ⟨rfl, (ev_hit hN3108 rfl), trivial⟩ (by obtain ⟨_, _, _, rfl⟩ := hO3109.sl; kernel_rfl) ?_
   intro w3139 b3140 lo_b3140 hi_b3140 hB3142 E3141
   have ne_b3140_u : u.ownBlock ≠ some b3140 := fun hh => by have := (hO3100.lt _ hh).2; omega
   have z_w3139 := E3141.size
   have hx := hx.keep0 E3141
   have hall : ∀ x9 ∈ acc, Own w3139 w.heap.size 3 1 x9.1 x9.2.length (x9.2.map (Value.int .i64)) := fun x9 hx9 => (hall x9 hx9).keep0 E3141
   have hO3100 := hO3100.keep0 E3141
   have hO3101 := hO3101.keep0 E3141
   have hO3109 := hO3109.keep0 E3141
   have hO3110 := hO3110.keep0 E3141
   have hb := below_step0 hb E3141 hb.size
   have hP3148 := hO3100
   refine op_append slt28 (ev_hit hN3108 rfl) hP3148 (ev_hit hN3108 rfl) (Src.ofRd Try.underlying28 (by decide) (RdC.ofBx (sz := 1) (n := 1) hB3142 rfl (by decide)) (by simp only [List.all_cons, List.all_nil, Bool.true_and, Bool.and_true, hO3109.one]; try rfl)) (by unfold maxLen; omega) (by omega) hb.size ?_
   intro v3143 w3144 hO3146 E3145 hm3147
   have z_w3144 := E3145.size
   have hx := hx.keepO hP3148 E3145 (by decide)
   have hall : ∀ x9 ∈ acc, Own w3144 w.heap.size 3 1 x9.1 x9.2.length (x9.2.map (Value.int .i64)) := fun x9 hx9 => (hall x9 hx9).keepT hP3148 E3145 (by decide)
   have hO3101 := hO3101.keepT hP3148 E3145 (by decide)
   have hO3109 := hO3109.keepT hP3148 E3145 (by decide)
   have hO3110 := hO3110.keepT hP3148 E3145 (by decide)
   have hB3142 := hB3142.keep E3145 (fun hh => ne_b3140_u hh.symm)
   have hb := below_stepO hb hP3148 E3145 hb.size (by omega)
   have hO3146 : Own w3144 w.heap.size 30 1 v3143 (acc.length + 1) ((acc.flatMap (fun x9 => [x9.1]) ++ [szv])) := by simpa [u8v, sv] using hO3146
   have ne_b3140_v3143 : v3143.ownBlock ≠ some b3140 := ne_step (w1 := w3139) ⟨E3145, hm3147⟩ (by omega) ne_b3140_u
   refine op_move (ev_base hN3108 rfl s3108_6) ?_
   refine op_assign (ev_hit hN3108 rfl) ?_
   refine op_assign (ev_hit hN3108 rfl) ?_
   refine reg_nil ?_
   refine blk_normal ?_
   -- round 25T 29F
   exact loop_next _ hN3108 hd3108 ⟨_, _, (acc ++ [(szv, S.map Int.ofNat)]), PP.flatten, rest2, rfl, (sl_base hN3108 rfl s3108_2), (sl_hit hN3108 rfl), (sl_hit hN3108 rfl), hNx, (by rw [← hlev, hr2]; simp), hb, (by omega), hx, (oall_snoc9 hall (hO3109.cast (by simp; omega) (by rw [List.take_of_length_le (by omega)]))), (hO3146.cast (by simp) (by simp)), (hO3110.cast (by rw [List.take_of_length_le (by omega)]) (by rw [List.take_of_length_le (by omega)]))⟩ (by rw [hr2]; simp)
 · -- 25F
  refine reg_nil ?_
  refine hK3103 _ _ ?_
  refine wp_cond_false (ev_hit hN3099 rfl) ?_
  refine wp_exit (then_exit (then_exit (blk_hit ?_)))
  refine hK3093 _ _ ?_
  refine seq_any fun K3149 hK3149 => ?_
  refine one_reg ?_
  refine op_move (ev_base hN3099 rfl s3099_3) ?_
  refine op_assign (ev_hit hN3099 rfl) ?_
  refine reg_nil ?_
  refine hK3149 _ _ ?_
  refine wp_ret ?_
  refine ret1 rfl hd3099 (ev_hit hN3099 rfl) ⟨_, rfl, ?_⟩
  -- path 25F
  have hP0 : P = [] := List.eq_nil_of_length_eq_zero (by omega)
  have hr0 := hNow.done hP0
  exact ⟨hb, acc, hO3100, hall, by rw [← hlev, hr0]; simp⟩

end Go.Proofs.Ytcpfdfejojghbaa

/- Walks, written by a program: what each function of the translation hands back. -/
namespace Go.Proofs.Ytcpfdfejojghbaa
open Go.Gx Go.RowKit
attribute [local irreducible] wpList wpStill Code.wp Calls
open Go.Bt
theorem levelsTopI {o : TO (Int)} {F : Nat → Prop} {p base : Nat} {w : World} (hT : TopR kI 71 base w p o F) (hn : (toLO o).length ≤ 100000) : Ret Try.prog 33 #[ptr p 0] w (fun v' w' => Below w.heap.size w w' ∧ ∃ LL : List (Value × List Int), Own w' w.heap.size 30 1 v' LL.length (LL.flatMap (fun x9 => [x9.1])) ∧ (∀ x9 ∈ LL, Own w' w.heap.size 3 1 x9.1 x9.2.length (x9.2.map (Value.int .i64))) ∧ LL.map Prod.snd = (levels o).map (fun l => l.map Int.ofNat)) := by
  obtain ⟨hF, hlt, hO, root, hB', hr⟩ := hT
  rcases hr with ⟨rfl, rfl⟩ | ⟨q, R, W, rfl, hTO, hFW, hFR⟩
  · exact (levels0I hB').mono fun v' w' h => by
      obtain ⟨rfl, rfl⟩ := h
      exact ⟨Below.refl _ _, [], Own.nil _ _ _ _, fun _ h => (by cases h), rfl⟩
  · match o, hO, hTO, hn with
    | some ⟨h, t⟩, hO, hTO, hn => exact levels1I hB' (now_start hTO hO.1 hO.2.1 hn) (Nat.le_trans (levels_le hO) hn)
theorem levelsTopS {o : TO (List UInt8)} {F : Nat → Prop} {p base : Nat} {w : World} (hT : TopR kS 88 base w p o F) (hn : (toLO o).length ≤ 100000) : Ret Try.prog 14 #[ptr p 0] w (fun v' w' => Below w.heap.size w w' ∧ ∃ LL : List (Value × List Int), Own w' w.heap.size 30 1 v' LL.length (LL.flatMap (fun x9 => [x9.1])) ∧ (∀ x9 ∈ LL, Own w' w.heap.size 3 1 x9.1 x9.2.length (x9.2.map (Value.int .i64))) ∧ LL.map Prod.snd = (levels o).map (fun l => l.map Int.ofNat)) := by
  obtain ⟨hF, hlt, hO, root, hB', hr⟩ := hT
  rcases hr with ⟨rfl, rfl⟩ | ⟨q, R, W, rfl, hTO, hFW, hFR⟩
  · exact (levels0S hB').mono fun v' w' h => by
      obtain ⟨rfl, rfl⟩ := h
      exact ⟨Below.refl _ _, [], Own.nil _ _ _ _, fun _ h => (by cases h), rfl⟩
  · match o, hO, hTO, hn with
    | some ⟨h, t⟩, hO, hTO, hn => exact levels1S hB' (now_start hTO hO.1 hO.2.1 hn) (Nat.le_trans (levels_le hO) hn)
theorem lenTopI {o : TO (Int)} {F : Nat → Prop} {p base : Nat} {w : World} (hT : TopR kI 71 base w p o F) (hn : (toLO o).length ≤ 100000) : Ret Try.prog 25 #[(ptr p 0)] w (fun v' w' => Below w.heap.size w w' ∧ v' = .int .i64 ((toLO o).length : Int)) := by
 have hO9 := hT.2.2.1
 have hb := Below.refl w.heap.size w
 refine enter (N := 28) Try.func25 rfl rfl (by simp) fun a0 hN hd hA => ?_
 have s0 : a0.tmps.getD 0 undef = (ptr p 0) := hA 0 (by simp)
 clear hA
 refine seq_any fun K3222 hK3222 => ?_
 refine one_reg ?_
 refine op_assign rfl ?_
 refine reg_nil ?_
 refine hK3222 _ _ ?_
 refine seq_any fun K3223 hK3223 => ?_
 refine one_reg ?_
 refine op_move (ev_base hN rfl s0) ?_
 refine op_fn (vs := [(ptr p 0)]) ok33 ⟨(ev_hit hN rfl), trivial⟩ (levelsTopI hT hn) ?_
 rintro v3224 w3225 ⟨E3226, LL, hO3224, hA3224, hlev⟩
 have dj3227 : Dj F (Bl v3224) := Dj.fresh (fun k hk => (hT.lt k hk).2) (fun k hk => (hO3224.lt k hk).1)
 have E3226 := grown_of_below E3226
 have z_w3225 := E3226.size
 have hT := hT.keepG (Gr.of0 E3226 NoB) (fun _ _ h => h)
 have hb := below_step0 hb E3226 hb.size
 have hLn := lev_len hlev
 have hle := levels_le hO9
 have hsum := levels_sum (o := o)
 refine op_assign (ev_hit hN rfl) ?_
 refine reg_nil ?_
 refine hK3223 _ _ ?_
 refine seq_any fun K3228 hK3228 => ?_
 refine one_reg ?_
 refine op_assign rfl ?_
 refine reg_nil ?_
 refine hK3228 _ _ ?_
 refine seq_any fun K3229 hK3229 => ?_
 refine seq_any fun K3230 hK3230 => ?_
 refine one_reg ?_
 refine op_move (ev_hit hN rfl) ?_
 refine op_len_rd Try.underlying28 (ev_hit hN rfl) hO3224.rdw ?_
 refine op_gtr (ev_hit hN rfl) rfl (fun c11 => ?_) (fun c11 => ?_)
 · -- 11T
  refine reg_nil ?_
  refine hK3230 _ _ ?_
  refine wp_cond_true (ev_hit hN rfl) ?_
  refine seq_any fun K3231 hK3231 => ?_
  refine one_reg ?_
  refine op_move (ev_hit hN rfl) ?_
  refine op_move (ev_hit hN rfl) ?_
  refine op_len_rd Try.underlying28 (ev_hit hN rfl) hO3224.rdw ?_
  refine op_sub (r := ((LL.length - 1 : Nat) : Int)) (ev_hit hN rfl) rfl ((sub64 (by omega)).trans (by omega)) ?_
  refine op_index_rd slt28 (ev_hit hN rfl) hO3224.rdw (ev_hit hN rfl) (by omega) (by omega) ?_
  intro b3232 o3233 h0b3232 h1b3232 hc3234
  have hs3235 : Own w3225 w.heap.size 3 1 (LL.getD (LL.length - 1) default).1 (LL.getD (LL.length - 1) default).2.length ((LL.getD (LL.length - 1) default).2.map (Value.int .i64)) := hA3224 _ (getD_mem (by omega))
  refine op_load1 (v := (LL.getD (LL.length - 1) default).1) one30 (ev_hit hN rfl) (by have := hc3234 0 (LL.getD (LL.length - 1) default).1 (by decide) (el_ll (i := (LL.length - 1)) (d := default) (by omega) (by omega)); simpa using this) ?_
  have hlm := rd_len hs3235.rdw
  have hLat := lev_at hlev (LL.length - 1)
  have hLl : (LL.getD (LL.length - 1) default).2.length = ((levels o).getD (LL.length - 1) []).length := by rw [hLat]; simp
  rw [← hLn] at hsum
  refine op_len_rd Try.underlying30 (ev_hit hN rfl) hs3235.rdw ?_
  refine op_move rfl ?_
  refine reg_nil ?_
  refine hK3231 _ _ ?_
  refine wp_block ?_
  refine loop_m (fun mz_ az_ w' => ∃ (i : Nat), mz_ = ((levels o).getD (LL.length - 1) []).length - i ∧ (az_.tmps.getD 2 undef = (Value.int .i64 0)) ∧ (az_.tmps.getD 17 undef = (LL.getD (LL.length - 1) default).1) ∧ (az_.tmps.getD 18 undef = (Value.int .i64 (((LL.getD (LL.length - 1) default).2.length : Nat) : Int))) ∧ (az_.tmps.getD 19 undef = (Value.int .i64 ((i : Nat) : Int))) ∧ (az_.tmps.getD 4 undef = (Value.int .i64 ((((((levels o).getD (LL.length - 1) []).take i).sum) : Nat) : Int))) ∧ (i ≤ ((levels o).getD (LL.length - 1) []).length) ∧ (Below w.heap.size w w') ∧ (w3225.heap.size ≤ w'.heap.size) ∧ (TopR kI 71 base w' p o F) ∧ (∀ x9 ∈ LL, Own w' w.heap.size 3 1 x9.1 x9.2.length (x9.2.map (Value.int .i64))) ∧ (Own w' w.heap.size 3 1 (LL.getD (LL.length - 1) default).1 (LL.getD (LL.length - 1) default).2.length ((LL.getD (LL.length - 1) default).2.map (Value.int .i64)))) _ hN hd ⟨0, rfl, (sl_hit hN rfl), (sl_hit hN rfl), (sl_hit hN rfl), (sl_hit hN rfl), (sl_hit hN rfl), (Nat.zero_le _), hb, (Nat.le_refl _), hT, hA3224, hs3235⟩ ?_
  rintro _ a3236 w3236 hN3236 hd3236 ⟨i, rfl, s3236_2, s3236_17, s3236_18, s3236_19, s3236_4, hi, hb, zl_w3236, hT, hA3224, hs3235⟩
  have z_w3236 := hb.size
  refine seq_any fun K3237 hK3237 => ?_
  refine one_reg ?_
  refine op_lss (ev_base hN3236 rfl s3236_19) (ev_base hN3236 rfl s3236_18) (fun c20 => ?_) (fun c20 => ?_)
  · -- 20T
   refine reg_nil ?_
   refine hK3237 _ _ ?_
   refine seq_any fun K3238 hK3238 => ?_
   refine wp_cond_true (ev_hit hN3236 rfl) ?_
   refine wp_skip ?_
   refine hK3238 _ _ ?_
   refine seq_any fun K3239 hK3239 => ?_
   refine wp_block ?_
   refine seq_any fun K3240 hK3240 => ?_
   refine one_reg ?_
   refine op_index_rd slt30 (ev_base hN3236 rfl s3236_17) hs3235.rdw (ev_base hN3236 rfl s3236_19) (by omega) (by omega) ?_
   intro b3241 o3242 h0b3241 h1b3241 hc3243
   refine op_load1 (v := (Value.int .i64 ((LL.getD (LL.length - 1) default).2.getD i 0))) one3 (ev_hit hN3236 rfl) (by have := hc3243 0 (Value.int .i64 ((LL.getD (LL.length - 1) default).2.getD i 0)) (by decide) (el_i64 (i := i) (by omega) (by omega)); simpa using this) ?_
   refine op_assign (ev_hit hN3236 rfl) ?_
   refine reg_nil ?_
   refine hK3240 _ _ ?_
   refine one_reg ?_
   refine op_move (ev_base hN3236 rfl s3236_4) ?_
   refine op_move (ev_hit hN3236 rfl) ?_
   refine op_add (r := (((((levels o).getD (LL.length - 1) []).take i).sum + ((levels o).getD (LL.length - 1) []).getD i 0 : Nat) : Int)) (ev_hit hN3236 rfl) (ev_hit hN3236 rfl) (by rw [hLat, ints_at]; have q1 := sum_take9 (L := ((levels o).getD (LL.length - 1) [])) (i := i) (by omega); have q2 := sum_le9 (L := ((levels o).getD (LL.length - 1) [])) (i := i + 1); exact (add64 (by omega)).trans (by omega)) ?_
   refine op_assign (ev_hit hN3236 rfl) ?_
   refine reg_nil ?_
   refine hK3239 _ _ ?_
   refine one_reg ?_
   refine op_add (ev_base hN3236 rfl s3236_19) rfl (add64 (by omega)) ?_
   refine op_move (ev_hit hN3236 rfl) ?_
   refine reg_nil ?_
   -- round 11T 20T
   exact loop_next _ hN3236 hd3236 ⟨(i + 1), rfl, (sl_base hN3236 rfl s3236_2), (sl_base hN3236 rfl s3236_17), (sl_base hN3236 rfl s3236_18), (sl_hit hN3236 rfl).trans (congrArg (Value.int .i64) (by omega)), (sl_hit hN3236 rfl).trans (congrArg (Value.int .i64) (by rw [sum_take9 (by omega)])), (by omega), hb, (by omega), hT, hA3224, hs3235⟩ (by omega)
  · -- 20F
   refine reg_nil ?_
   refine hK3237 _ _ ?_
   refine seq_any fun K3244 hK3244 => ?_
   refine wp_cond_false (ev_hit hN3236 rfl) ?_
   refine wp_exit (then_exit (then_exit (blk_hit ?_)))
   refine hK3229 _ _ ?_
   refine seq_any fun K3245 hK3245 => ?_
   refine one_reg ?_
   refine op_move (ev_base hN3236 rfl s3236_4) ?_
   refine op_assign (ev_hit hN3236 rfl) ?_
   refine reg_nil ?_
   refine hK3245 _ _ ?_
   refine wp_ret ?_
   refine ret1 rfl hd3236 (ev_hit hN3236 rfl) ⟨_, rfl, ?_⟩
   -- path 11T 20F
   exact ⟨hb, congrArg (Value.int .i64) (by rw [← hsum, List.take_of_length_le (by omega)])⟩
 · -- 11F
  refine reg_nil ?_
  refine hK3230 _ _ ?_
  refine wp_cond_false (ev_hit hN rfl) ?_
  refine wp_skip ?_
  refine hK3229 _ _ ?_
  refine seq_any fun K3246 hK3246 => ?_
  refine one_reg ?_
  refine op_move (ev_hit hN rfl) ?_
  refine op_assign (ev_hit hN rfl) ?_
  refine reg_nil ?_
  refine hK3246 _ _ ?_
  refine wp_ret ?_
  refine ret1 rfl hd (ev_hit hN rfl) ⟨_, rfl, ?_⟩
  -- path 11F
  exact ⟨hb, congrArg (Value.int .i64) (by rw [← hsum]; rw [show (levels o) = [] from List.eq_nil_of_length_eq_zero (by omega)]; rfl)⟩

theorem lenTopS {o : TO (List UInt8)} {F : Nat → Prop} {p base : Nat} {w : World} (hT : TopR kS 88 base w p o F) (hn : (toLO o).length ≤ 100000) : Ret Try.prog 15 #[(ptr p 0)] w (fun v' w' => Below w.heap.size w w' ∧ v' = .int .i64 ((toLO o).length : Int)) := by
 have hO9 := hT.2.2.1
 have hb := Below.refl w.heap.size w
 refine enter (N := 28) Try.func15 rfl rfl (by simp) fun a0 hN hd hA => ?_
 have s0 : a0.tmps.getD 0 undef = (ptr p 0) := hA 0 (by simp)
 clear hA
 refine seq_any fun K3247 hK3247 => ?_
 refine one_reg ?_
 refine op_assign rfl ?_
 refine reg_nil ?_
 refine hK3247 _ _ ?_
 refine seq_any fun K3248 hK3248 => ?_
 refine one_reg ?_
 refine op_move (ev_base hN rfl s0) ?_
 refine op_fn (vs := [(ptr p 0)]) ok14 ⟨(ev_hit hN rfl), trivial⟩ (levelsTopS hT hn) ?_
 rintro v3249 w3250 ⟨E3251, LL, hO3249, hA3249, hlev⟩
 have dj3252 : Dj F (Bl v3249) := Dj.fresh (fun k hk => (hT.lt k hk).2) (fun k hk => (hO3249.lt k hk).1)
 have E3251 := grown_of_below E3251
 have z_w3250 := E3251.size
 have hT := hT.keepG (Gr.of0 E3251 NoB) (fun _ _ h => h)
 have hb := below_step0 hb E3251 hb.size
 have hLn := lev_len hlev
 have hle := levels_le hO9
 have hsum := levels_sum (o := o)
 refine op_assign (ev_hit hN rfl) ?_
 refine reg_nil ?_
 refine hK3248 _ _ ?_
 refine seq_any fun K3253 hK3253 => ?_
 refine one_reg ?_
 refine op_assign rfl ?_
 refine reg_nil ?_
 refine hK3253 _ _ ?_
 refine seq_any fun K3254 hK3254 => ?_
 refine seq_any fun K3255 hK3255 => ?_
 refine one_reg ?_
 refine op_move (ev_hit hN rfl) ?_
 refine op_len_rd Try.underlying28 (ev_hit hN rfl) hO3249.rdw ?_
 refine op_gtr (ev_hit hN rfl) rfl (fun c11 => ?_) (fun c11 => ?_)
 · -- 11T
  refine reg_nil ?_
  refine hK3255 _ _ ?_
  refine wp_cond_true (ev_hit hN rfl) ?_
  refine seq_any fun K3256 hK3256 => ?_
  refine one_reg ?_
  refine op_move (ev_hit hN rfl) ?_
  refine op_move (ev_hit hN rfl) ?_
  refine op_len_rd Try.underlying28 (ev_hit hN rfl) hO3249.rdw ?_
  refine op_sub (r := ((LL.length - 1 : Nat) : Int)) (ev_hit hN rfl) rfl ((sub64 (by omega)).trans (by omega)) ?_
  refine op_index_rd slt28 (ev_hit hN rfl) hO3249.rdw (ev_hit hN rfl) (by omega) (by omega) ?_
  intro b3257 o3258 h0b3257 h1b3257 hc3259
  have hs3260 : Own w3250 w.heap.size 3 1 (LL.getD (LL.length - 1) default).1 (LL.getD (LL.length - 1) default).2.length ((LL.getD (LL.length - 1) default).2.map (Value.int .i64)) := hA3249 _ (getD_mem (by omega))
  refine op_load1 (v := (LL.getD (LL.length - 1) default).1) one30 (ev_hit hN rfl) (by have := hc3259 0 (LL.getD (LL.length - 1) default).1 (by decide) (el_ll (i := (LL.length - 1)) (d := default) (by omega) (by omega)); simpa using this) ?_
  have hlm := rd_len hs3260.rdw
  have hLat := lev_at hlev (LL.length - 1)
  have hLl : (LL.getD (LL.length - 1) default).2.length = ((levels o).getD (LL.length - 1) []).length := by rw [hLat]; simp
  rw [← hLn] at hsum
  refine op_len_rd Try.underlying30 (ev_hit hN rfl) hs3260.rdw ?_
  refine op_move rfl ?_
  refine reg_nil ?_
  refine hK3256 _ _ ?_
  refine wp_block ?_
  refine loop_m (fun mz_ az_ w' => ∃ (i : Nat), mz_ = ((levels o).getD (LL.length - 1) []).length - i ∧ (az_.tmps.getD 2 undef = (Value.int .i64 0)) ∧ (az_.tmps.getD 17 undef = (LL.getD (LL.length - 1) default).1) ∧ (az_.tmps.getD 18 undef = (Value.int .i64 (((LL.getD (LL.length - 1) default).2.length : Nat) : Int))) ∧ (az_.tmps.getD 19 undef = (Value.int .i64 ((i : Nat) : Int))) ∧ (az_.tmps.getD 4 undef = (Value.int .i64 ((((((levels o).getD (LL.length - 1) []).take i).sum) : Nat) : Int))) ∧ (i ≤ ((levels o).getD (LL.length - 1) []).length) ∧ (Below w.heap.size w w') ∧ (w3250.heap.size ≤ w'.heap.size) ∧ (TopR kS 88 base w' p o F) ∧ (∀ x9 ∈ LL, Own w' w.heap.size 3 1 x9.1 x9.2.length (x9.2.map (Value.int .i64))) ∧ (Own w' w.heap.size 3 1 (LL.getD (LL.length - 1) default).1 (LL.getD (LL.length - 1) default).2.length ((LL.getD (LL.length - 1) default).2.map (Value.int .i64)))) _ hN hd ⟨0, rfl, (sl_hit hN rfl), (sl_hit hN rfl), (sl_hit hN rfl), (sl_hit hN rfl), (sl_hit hN rfl), (Nat.zero_le _), hb, (Nat.le_refl _), hT, hA3249, hs3260⟩ ?_
  rintro _ a3261 w3261 hN3261 hd3261 ⟨i, rfl, s3261_2, s3261_17, s3261_18, s3261_19, s3261_4, hi, hb, zl_w3261, hT, hA3249, hs3260⟩
  have z_w3261 := hb.size
  refine seq_any fun K3262 hK3262 => ?_
  refine one_reg ?_
  refine op_lss (ev_base hN3261 rfl s3261_19) (ev_base hN3261 rfl s3261_18) (fun c20 => ?_) (fun c20 => ?_)
  · -- 20T
   refine reg_nil ?_
   refine hK3262 _ _ ?_
   refine seq_any fun K3263 hK3263 => ?_
   refine wp_cond_true (ev_hit hN3261 rfl) ?_
   refine wp_skip ?_
   refine hK3263 _ _ ?_
   refine seq_any fun K3264 hK3264 => ?_
   refine wp_block ?_
   refine seq_any fun K3265 hK3265 => ?_
   refine one_reg ?_
   refine op_index_rd slt30 (ev_base hN3261 rfl s3261_17) hs3260.rdw (ev_base hN3261 rfl s3261_19) (by omega) (by omega) ?_
   intro b3266 o3267 h0b3266 h1b3266 hc3268
   refine op_load1 (v := (Value.int .i64 ((LL.getD (LL.length - 1) default).2.getD i 0))) one3 (ev_hit hN3261 rfl) (by have := hc3268 0 (Value.int .i64 ((LL.getD (LL.length - 1) default).2.getD i 0)) (by decide) (el_i64 (i := i) (by omega) (by omega)); simpa using this) ?_
   refine op_assign (ev_hit hN3261 rfl) ?_
   refine reg_nil ?_
   refine hK3265 _ _ ?_
   refine one_reg ?_
   refine op_move (ev_base hN3261 rfl s3261_4) ?_
   refine op_move (ev_hit hN3261 rfl) ?_
   refine op_add (r := (((((levels o).getD (LL.length - 1) []).take i).sum + ((levels o).getD (LL.length - 1) []).getD i 0 : Nat) : Int)) (ev_hit hN3261 rfl) (ev_hit hN3261 rfl) (by rw [hLat, ints_at]; have q1 := sum_take9 (L := ((levels o).getD (LL.length - 1) [])) (i := i) (by omega); have q2 := sum_le9 (L := ((levels o).getD (LL.length - 1) [])) (i := i + 1); exact (add64 (by omega)).trans (by omega)) ?_
   refine op_assign (ev_hit hN3261 rfl) ?_
   refine reg_nil ?_
   refine hK3264 _ _ ?_
   refine one_reg ?_
   refine op_add (ev_base hN3261 rfl s3261_19) rfl (add64 (by omega)) ?_
   refine op_move (ev_hit hN3261 rfl) ?_
   refine reg_nil ?_
   -- round 11T 20T
   exact loop_next _ hN3261 hd3261 ⟨(i + 1), rfl, (sl_base hN3261 rfl s3261_2), (sl_base hN3261 rfl s3261_17), (sl_base hN3261 rfl s3261_18), (sl_hit hN3261 rfl).trans (congrArg (Value.int .i64) (by omega)), (sl_hit hN3261 rfl).trans (congrArg (Value.int .i64) (by rw [sum_take9 (by omega)])), (by omega), hb, (by omega), hT, hA3249, hs3260⟩ (by omega)
  · -- 20F
   refine reg_nil ?_
   refine hK3262 _ _ ?_
   refine seq_any fun K3269 hK3269 => ?_
   refine wp_cond_false (ev_hit hN3261 rfl) ?_
   refine wp_exit (then_exit (then_exit (blk_hit ?_)))
   refine hK3254 _ _ ?_
   refine seq_any fun K3270 hK3270 => ?_
   refine one_reg ?_
   refine op_move (ev_base hN3261 rfl s3261_4) ?_
   refine op_assign (ev_hit hN3261 rfl) ?_
   refine reg_nil ?_
   refine hK3270 _ _ ?_
   refine wp_ret ?_
   refine ret1 rfl hd3261 (ev_hit hN3261 rfl) ⟨_, rfl, ?_⟩
   -- path 11T 20F
   exact ⟨hb, congrArg (Value.int .i64) (by rw [← hsum, List.take_of_length_le (by omega)])⟩
 · -- 11F
  refine reg_nil ?_
  refine hK3255 _ _ ?_
  refine wp_cond_false (ev_hit hN rfl) ?_
  refine wp_skip ?_
  refine hK3254 _ _ ?_
  refine seq_any fun K3271 hK3271 => ?_
  refine one_reg ?_
  refine op_move (ev_hit hN rfl) ?_
  refine op_assign (ev_hit hN rfl) ?_
  refine reg_nil ?_
  refine hK3271 _ _ ?_
  refine wp_ret ?_
  refine ret1 rfl hd (ev_hit hN rfl) ⟨_, rfl, ?_⟩
  -- path 11F
  exact ⟨hb, congrArg (Value.int .i64) (by rw [← hsum]; rw [show (levels o) = [] from List.eq_nil_of_length_eq_zero (by omega)]; rfl)⟩

end Go.Proofs.Ytcpfdfejojghbaa

/- Walks, written by a program: what each function of the translation hands back. -/
namespace Go.Proofs.Ytcpfdfejojghbaa
open Go.Gx Go.RowKit
attribute [local irreducible] wpList wpStill Code.wp Calls
open Go.Bt
theorem scan1I {l : List UInt8} {kv : Value} {x : Int} {D : List (DP (Int))} {ov : Value} {m : Int} {ob lb base : Nat} {w : World} (hbase : base ≤ w.heap.size) (hob : Bx w ob 48 [ov]) (hlb : Bx w lb 3 [.int .i64 m]) (hne : ob ≠ lb) (O : Own w base 51 2 ov D.length (D.flatMap cI)) (ks : ∀ x9 ∈ D.map pk, Own w base 5 1 x9.1 x9.2.length (x9.2.map u8v)) (hkk : RdC w 0 w.heap.size 1 kv l.length (l.map u8v)) (hkn : l.length ≤ 1000000000) (hD : D.length ≤ 1000000) : Ret Try.prog 50 #[(Value.agg #[kv, (Value.int .i64 x)]), (ptr ob 0), (ptr lb 0)] w (fun v' w' => Gr w w' (fun y => y = ob ∨ Bl ov y) ∧ v' = .bool (decide (((D.length + 1 : Nat) : Int) < m)) ∧ ∃ ov' kv', Bx w' ob 48 [ov'] ∧ Own w' base 51 2 ov' (D ++ [(kv', l, x)]).length ((D ++ [(kv', l, x)]).flatMap cI) ∧ (∀ x9 ∈ (D ++ [(kv', l, x)]).map pk, Own w' base 5 1 x9.1 x9.2.length (x9.2.map u8v)) ∧ Bx w' lb 3 [.int .i64 m] ∧ (ov'.ownBlock = ov.ownBlock ∨ ∀ k, ov'.ownBlock = some k → w.heap.size ≤ k) ∧ ∀ k, kv'.ownBlock = some k → w.heap.size ≤ k) := by
 have hi_ob := hob.lt
 have hi_lb := hlb.lt
 have hb := Gr.refl w (fun y => y = ob ∨ Bl ov y)
 refine enter (N := 18) Try.func50 rfl rfl (by simp) fun a0 hN hd hA => ?_
 have s0 : a0.tmps.getD 0 undef = (Value.agg #[kv, (Value.int .i64 x)]) := hA 0 (by simp)
 have s1 : a0.tmps.getD 1 undef = (ptr ob 0) := hA 1 (by simp)
 have s2 : a0.tmps.getD 2 undef = (ptr lb 0) := hA 2 (by simp)
 clear hA
 refine seq_any fun K3297 hK3297 => ?_
 refine one_reg ?_
 refine op_box (cs := [kv, (Value.int .i64 x)]) (ev_base hN rfl s0) rfl ?_
 intro w3298 b3299 lo_b3299 hi_b3299 hB3301 E3300
 have ne_b3299_ov : ov.ownBlock ≠ some b3299 := fun hh => by have := (O.lt _ hh).2; omega
 have z_w3298 := E3300.size
 have hob := hob.keep0 E3300
 have hlb := hlb.keep0 E3300
 have O := O.keep0 E3300
 have ks : ∀ x9 ∈ (D.map pk), Own w3298 base 5 1 x9.1 x9.2.length (x9.2.map u8v) := fun x9 hx9 => (ks x9 hx9).keep0 E3300
 have hkk := hkk.keep0 E3300
 have hb := hb.step0 E3300
 refine op_assign rfl ?_
 refine reg_nil ?_
 refine hK3297 _ _ ?_
 refine seq_any fun K3302 hK3302 => ?_
 refine reg_split (hd := [_, _, _, _, _, _, _, _, _]) (tl := _) 9 mixed (by kernel_rfl) rfl rfl ?_
 refine any_env (φ := phiV [(fun uz => uz = ov), (fun uz => uz = (ptr b3299 0)), (fun uz => uz = kv), (fun _ => True), (fun uz => uz = (ptr b3299 1)), (fun uz => uz = (Value.int .i64 x)), (fun _ => True), (fun _ => True), (fun _ => True)]) (G := fun w' => Bx w' ob 48 [ov] ∧ Bx w' b3299 51 [kv, (Value.int .i64 x)]) [3, 6, 7, 8] (by kernel_rfl) (by kernel_rfl) (by kernel_rfl) (by kernel_rfl) hN (fun w1 w2 E h => by obtain ⟨h0, h1⟩ := h; exact ⟨h0.keep0 E, h1.keep0 E⟩) ⟨hob, hB3301⟩ (ObEs.cons ?_ (ObEs.cons ?_ (ObEs.cons ?_ (ObEs.pass rfl (ObEs.cons ?_ (ObEs.cons ?_ (ObEs.pass rfl (ObEs.pass rfl (ObEs.pass rfl (ObEs.nil)))))))))) (by simp only [putsL_defers]) ?_
 ·
  intro eA aA wA hNA hGA hbsA hdpA
  have qA_1 := (hbsA 1 rfl).trans (sl_base hN rfl s1)
  obtain ⟨hob, hB3301⟩ := hGA
  refine op_load1 (v := ov) one48 (ev_base hNA rfl qA_1) (hob.cell rfl) ?_
  exact obE_end rfl rfl rfl
 ·
  intro eA aA wA hNA hGA hbsA hdpA
  have qA_3 := (hbsA 3 rfl).trans (sl_hit hN rfl)
  refine op_field fld51_0 (ev_base hNA rfl qA_3) ?_
  exact obE_end rfl rfl rfl
 ·
  intro eA aA wA hNA hGA hbsA hdpA
  have qA_6 : Sl aA 6 (ptr b3299 0) := (hdpA 1 _ 6 (by kernel_rfl) rfl rfl).2 rfl
  obtain ⟨hob, hB3301⟩ := hGA
  refine op_load1 (v := kv) one27 (ev_base hNA rfl qA_6) (hB3301.cell rfl) ?_
  exact obE_end rfl rfl rfl
 ·
  intro eA aA wA hNA hGA hbsA hdpA
  have qA_3 := (hbsA 3 rfl).trans (sl_hit hN rfl)
  refine op_field fld51_1 (ev_base hNA rfl qA_3) ?_
  exact obE_end rfl rfl rfl
 ·
  intro eA aA wA hNA hGA hbsA hdpA
  have qA_9 : Sl aA 9 (ptr b3299 1) := (hdpA 4 _ 9 (by kernel_rfl) rfl rfl).2 rfl
  obtain ⟨hob, hB3301⟩ := hGA
  refine op_load1 (v := (Value.int .i64 x)) one3 (ev_base hNA rfl qA_9) (hB3301.cell rfl) ?_
  exact obE_end rfl rfl rfl
 ·
  intro w3303 E3303 _ a3303 hN3303 hbs3303 hdp3303 o_ ho_; obtain rfl := Option.some.inj ho_
  have z_w3303 := E3303.size
  have hob := hob.keep0 E3303
  have hlb := hlb.keep0 E3303
  have O := O.keep0 E3303
  have ks : ∀ x9 ∈ (D.map pk), Own w3303 base 5 1 x9.1 x9.2.length (x9.2.map u8v) := fun x9 hx9 => (ks x9 hx9).keep0 E3303
  have hkk := hkk.keep0 E3303
  have hB3301 := hB3301.keep0 E3303
  have hb := hb.step0 E3303
  have q3303_7 : Sl a3303 7 kv := (hdp3303 2 _ 7 (by kernel_rfl) rfl rfl).2 rfl
  refine op_fn (vs := [kv]) ok41 ⟨(ev_base hN3303 rfl q3303_7), trivial⟩ (clB (hkk.mono (Nat.zero_le _) (by omega)) (by omega)) ?_
  rintro v3304 w3305 ⟨E3306, hO3304⟩
  have dja3307 : ∀ x9 ∈ (D.map pk), DJ x9.1 v3304 := fun x9 hx9 k hk hg => by have q1 := ((ks x9 hx9).lt k hk).2; have q2 := (hO3304.lt k hg).1; omega
  have E3306 := grown_of_below E3306
  have z_w3305 := E3306.size
  have hob := hob.keep0 E3306
  have hlb := hlb.keep0 E3306
  have O := O.keep0 E3306
  have ks : ∀ x9 ∈ (D.map pk), Own w3305 base 5 1 x9.1 x9.2.length (x9.2.map u8v) := fun x9 hx9 => (ks x9 hx9).keep0 E3306
  have hkk := hkk.keep0 E3306
  have hB3301 := hB3301.keep0 E3306
  have hb := hb.step0 E3306
  have hO3304 := hO3304.mono (base' := w.heap.size) (by omega)
  skip
  skip
  refine ke_end rfl (by decide) rfl ⟨hob, hB3301⟩ ?_
  intro w3308 E3308 _ a3308 hN3308 hbs3308 hdp3308 o_ ho_; obtain rfl := Option.some.inj ho_
  have z_w3308 := E3308.size
  have hob := hob.keep0 E3308
  have hlb := hlb.keep0 E3308
  have O := O.keep0 E3308
  have ks : ∀ x9 ∈ (D.map pk), Own w3308 base 5 1 x9.1 x9.2.length (x9.2.map u8v) := fun x9 hx9 => (ks x9 hx9).keep0 E3308
  have hB3301 := hB3301.keep0 E3308
  have hO3304 := hO3304.keep0 E3308
  have hb := hb.step0 E3308
  have q3308_8 : Sl a3308 8 v3304 := (Option.some.inj ((hdp3308 3 _ 8 (by kernel_rfl) rfl rfl).1 0 rfl)).symm
  have q3308_10 : Sl a3308 10 (Value.int .i64 x) := (hdp3308 5 _ 10 (by kernel_rfl) rfl rfl).2 rfl
  refine op_build (pv := [(0, v3304), (1, (Value.int .i64 x))]) (v := (Value.agg #[v3304, (Value.int .i64 x)])) ⟨rfl, (ev_base hN3308 rfl q3308_8), ⟨rfl, (ev_base hN3308 rfl q3308_10), trivial⟩⟩ (by obtain ⟨_, _, _, rfl⟩ := hO3304.sl; kernel_rfl) ?_
  refine ke_end rfl (by decide) rfl ⟨hob, hB3301⟩ ?_
  intro w3309 E3309 _ a3309 hN3309 hbs3309 hdp3309 o_ ho_; obtain rfl := Option.some.inj ho_
  have z_w3309 := E3309.size
  have hob := hob.keep0 E3309
  have hlb := hlb.keep0 E3309
  have O := O.keep0 E3309
  have ks : ∀ x9 ∈ (D.map pk), Own w3309 base 5 1 x9.1 x9.2.length (x9.2.map u8v) := fun x9 hx9 => (ks x9 hx9).keep0 E3309
  have hB3301 := hB3301.keep0 E3309
  have hO3304 := hO3304.keep0 E3309
  have hb := hb.step0 E3309
  have q3309_11 : Sl a3309 11 (Value.agg #[v3304, (Value.int .i64 x)]) := (Option.some.inj ((hdp3309 6 _ 11 (by kernel_rfl) rfl rfl).1 1 rfl)).symm
  refine op_bslice (e := 51) (pv := [(0, (Value.agg #[v3304, (Value.int .i64 x)]))]) (cs := [v3304, (Value.int .i64 x)]) ⟨rfl, (ev_base hN3309 rfl q3309_11), trivial⟩ (by obtain ⟨_, _, _, rfl⟩ := hO3304.sl; kernel_rfl) ?_
  intro w3310 b3311 lo_b3311 hi_b3311 hB3313 E3312
  have ne_b3311_ov : ov.ownBlock ≠ some b3311 := fun hh => by have := (O.lt _ hh).2; omega
  have z_w3310 := E3312.size
  have hob := hob.keep0 E3312
  have hlb := hlb.keep0 E3312
  have O := O.keep0 E3312
  have ks : ∀ x9 ∈ (D.map pk), Own w3310 base 5 1 x9.1 x9.2.length (x9.2.map u8v) := fun x9 hx9 => (ks x9 hx9).keep0 E3312
  have hB3301 := hB3301.keep0 E3312
  have hO3304 := hO3304.keep0 E3312
  have hb := hb.step0 E3312
  refine ke_end rfl (by decide) rfl ⟨hob, hB3301⟩ ?_
  intro w3314 E3314 _ a3314 hN3314 hbs3314 hdp3314 o_ ho_; obtain rfl := Option.some.inj ho_
  have z_w3314 := E3314.size
  have hob := hob.keep0 E3314
  have hlb := hlb.keep0 E3314
  have O := O.keep0 E3314
  have ks : ∀ x9 ∈ (D.map pk), Own w3314 base 5 1 x9.1 x9.2.length (x9.2.map u8v) := fun x9 hx9 => (ks x9 hx9).keep0 E3314
  have hB3301 := hB3301.keep0 E3314
  have hO3304 := hO3304.keep0 E3314
  have hB3313 := hB3313.keep0 E3314
  have hb := hb.step0 E3314
  have q3314_5 : Sl a3314 5 ov := (hdp3314 0 _ 5 (by kernel_rfl) rfl rfl).2 rfl
  have q3314_12 : Sl a3314 12 (Value.slice (some ⟨b3311, 0, none⟩) 1 1) := (Option.some.inj ((hdp3314 7 _ 12 (by kernel_rfl) rfl rfl).1 2 rfl)).symm
  have hP3320 := O
  refine op_append slt48 (ev_base hN3314 rfl q3314_5) hP3320 (ev_base hN3314 rfl q3314_12) (Src.ofRd Try.underlying48 (by decide) (RdC.ofBx (sz := 2) (n := 1) hB3313 rfl (by decide)) (by simp only [List.all_cons, List.all_nil, Bool.true_and, Bool.and_true, hO3304.one]; try rfl)) (by unfold maxLen; omega) (by omega) (Nat.le_trans (by assumption) hb.size) ?_
  intro v3315 w3316 hO3318 E3317 hm3319
  have z_w3316 := E3317.size
  have hob := hob.keepO hP3320 E3317 (by decide)
  have hlb := hlb.keepO hP3320 E3317 (by decide)
  have ks : ∀ x9 ∈ (D.map pk), Own w3316 base 5 1 x9.1 x9.2.length (x9.2.map u8v) := fun x9 hx9 => (ks x9 hx9).keepT hP3320 E3317 (by decide)
  have hB3301 := hB3301.keep E3317 (fun hh => ne_b3299_ov hh.symm)
  have hO3304 := hO3304.keepT hP3320 E3317 (by decide)
  have hB3313 := hB3313.keep E3317 (fun hh => ne_b3311_ov hh.symm)
  have hb := hb.stepL E3317 (fun k _ h => .inr h)
  have hO3318 : Own w3316 base 51 2 v3315 (D.length + 1) ((D.flatMap cI ++ [v3304, (Value.int .i64 x)])) := by simpa [u8v, sv] using hO3318
  have ne_b3299_v3315 : v3315.ownBlock ≠ some b3299 := ne_step (w1 := w3314) ⟨E3317, hm3319⟩ (by omega) ne_b3299_ov
  have ne_b3311_v3315 : v3315.ownBlock ≠ some b3311 := ne_step (w1 := w3314) ⟨E3317, hm3319⟩ (by omega) ne_b3311_ov
  refine ke_end rfl (by decide) rfl ⟨hob, hB3301⟩ ?_
  intro w3321 E3321 a3321 hN3321 hd3321 hbs3321 hph3321
  have hd3321 := hd3321.trans ((by simp only [putsL_defers] : _ = _).trans hd)
  have z_w3321 := E3321.size
  have hob := hob.keep0 E3321
  have hlb := hlb.keep0 E3321
  have ks : ∀ x9 ∈ (D.map pk), Own w3321 base 5 1 x9.1 x9.2.length (x9.2.map u8v) := fun x9 hx9 => (ks x9 hx9).keep0 E3321
  have hB3301 := hB3301.keep0 E3321
  have hO3304 := hO3304.keep0 E3321
  have hB3313 := hB3313.keep0 E3321
  have hO3318 := hO3318.keep0 E3321
  have hb := hb.step0 E3321
  have s3321_1 := (hbs3321 1 rfl).trans (sl_base hN rfl s1)
  have s3321_2 := (hbs3321 2 rfl).trans (sl_base hN rfl s2)
  have s3321_4 := (hbs3321 4 rfl).trans (sl_hit hN rfl)
  have s3321_13 : Sl a3321 13 v3315 := (Option.some.inj ((hph3321 8 _ 13 rfl rfl).1 3 rfl)).symm
  refine split_end ?_
  refine from_seq (tl := [_]) (by decide) (by kernel_rfl) rfl ?_
  have hob_old := hob
  refine op_store (vs := [v3315]) (cs' := [v3315]) size48 (ev_base hN3321 rfl s3321_1) (ev_base hN3321 rfl s3321_13) hO3318.cl rfl (by simp only [List.all_cons, List.all_nil, Bool.true_and, Bool.and_true, hO3318.one]; try rfl) hob (Nat.le_of_ble_eq_true rfl) rfl ?_
  intro w3324 hob E3325
  have z_w3324 := E3325.size
  have hlb := hlb.keep E3325 (fun hh => hlb.ne hob_old (by decide) (Option.some.inj hh))
  have ks : ∀ x9 ∈ (D.map pk), Own w3324 base 5 1 x9.1 x9.2.length (x9.2.map u8v) := fun x9 hx9 => (ks x9 hx9).keepX hob_old E3325 (by decide)
  have hB3301 := hB3301.keep E3325 (fun hh => hB3301.ne hob_old (by decide) (Option.some.inj hh))
  have hO3304 := hO3304.keepX hob_old E3325 (by decide)
  have hB3313 := hB3313.keep E3325 (fun hh => hB3313.ne hob_old (by decide) (Option.some.inj hh))
  have hO3318 := hO3318.keepX hob_old E3325 (by decide)
  have hb := hb.stepB E3325 (.inl rfl)
  refine reg_nil ?_
  refine hK3302 _ _ ?_
  refine seq_any fun K3326 hK3326 => ?_
  refine one_reg ?_
  refine op_load1 (v := v3315) one48 (ev_base hN3321 rfl s3321_1) (hob.cell rfl) ?_
  refine op_len_rd Try.underlying48 (ev_hit hN3321 rfl) hO3318.rdw ?_
  refine op_load1 (v := (Value.int .i64 m)) one3 (ev_base hN3321 rfl s3321_2) (hlb.cell rfl) ?_
  refine op_lss (ev_hit hN3321 rfl) (ev_hit hN3321 rfl) (fun c17 => ?_) (fun c17 => ?_)
  · -- 17T
   refine op_assign (ev_hit hN3321 rfl) ?_
   refine reg_nil ?_
   refine hK3326 _ _ ?_
   refine wp_ret ?_
   refine ret1 rfl hd3321 (ev_hit hN3321 rfl) ⟨_, rfl, ?_⟩
   -- path 17T
   exact ⟨hb, congrArg Value.bool (decide_eq_true (by omega)).symm, v3315, v3304, hob, hO3318.cast (by simp) (by simp [cI]), ks_snoc ks (hO3304.mono (by omega)), hlb, hm3319.imp id fun h k hk => Nat.le_trans (by omega) (h k hk), fun k hk => (hO3304.lt k hk).1⟩
  · -- 17F
   refine op_assign (ev_hit hN3321 rfl) ?_
   refine reg_nil ?_
   refine hK3326 _ _ ?_
   refine wp_ret ?_
   refine ret1 rfl hd3321 (ev_hit hN3321 rfl) ⟨_, rfl, ?_⟩
   -- path 17F
   exact ⟨hb, congrArg Value.bool (decide_eq_false (by omega)).symm, v3315, v3304, hob, hO3318.cast (by simp) (by simp [cI]), ks_snoc ks (hO3304.mono (by omega)), hlb, hm3319.imp id fun h k hk => Nat.le_trans (by omega) (h k hk), fun k hk => (hO3304.lt k hk).1⟩

end Go.Proofs.Ytcpfdfejojghbaa

/- Scans: the pairs from a key on, so many of them. -/
namespace Go.Gx
open Go.Bt Go.RowKit
section
variable {V : Type} {κ : Kd V} {w w' : World} {F G H W R : Nat → Prop} {B base b h p q n ob lb tS : Nat} {m : Int} {L : List Nat} {P : List Nat} {D D2 : List (DP V)} {ov : Value} {x : Ky}
/-- What a scan has taken: the list in a variable, and the limit in another; F: their blocks. -/
def AccR (κ : Kd V) (tS B ob lb : Nat) (m : Int) (w : World) (D : List (DP V)) (F : Nat → Prop) : Prop :=
  B ≤ ob ∧ B ≤ lb ∧ ob ≠ lb ∧ (∃ ov, Bx w ob tS [ov] ∧ Own w B κ.tP κ.pc ov D.length (D.flatMap κ.ce) ∧ ∀ k, F k ↔ k = ob ∨ k = lb ∨ Bl ov k) ∧ Bx w lb 3 [.int .i64 m] ∧ (∀ x9 ∈ D.map pk, Own w B 5 1 x9.1 x9.2.length (x9.2.map u8v)) ∧ (D.map pk).Pairwise (fun a b => Dj (Bl a.1) (Bl b.1))
theorem AccR.lt (T : AccR κ tS B ob lb m w D F) : ∀ k, F k → B ≤ k ∧ k < w.heap.size := fun k hk => by
  obtain ⟨h1, h2, _, ⟨ov, hB, hO, hF⟩, hL, _⟩ := T
  rcases (hF k).1 hk with rfl | rfl | hk
  · exact ⟨h1, hB.lt⟩
  · exact ⟨h2, hL.lt⟩
  · exact hO.lt k hk
theorem AccR.keepG (T : AccR κ tS B ob lb m w D F) (E : Gr w w' H) (hd : Dj F H) (hn : NoK w H) : AccR κ tS B ob lb m w' D F := by
  obtain ⟨h1, h2, h3, ⟨ov, hB, hO, hF⟩, hL, hk, hp⟩ := T
  exact ⟨h1, h2, h3, ⟨ov, hB.keepG E (hd _ ((hF _).2 (.inl rfl))), hO.keepG E (fun k hk => hd k ((hF k).2 (.inr (.inr hk)))), hF⟩, hL.keepG E (hd _ ((hF _).2 (.inr (.inl rfl)))), fun x9 hx => (hk x9 hx).keepG E (hn.key (hk x9 hx |>.mono (Nat.zero_le _))), hp⟩
variable {α : Type} {A : Nat → α → (Nat → Prop) → Prop} {ys9 : List α} {i : Nat} {a : α}
theorem Kids.get (K : Kids A P ys9 G) (hc : ys9[i]? = some a) : ∃ f, A (P.getD i default) a f ∧ ∀ k, f k → G k := by
  obtain ⟨f, G0, h1, _, _, h2, _⟩ := K.cutc hc
  exact ⟨f, h1, h2⟩
theorem pw_snoc {d : DP V} (h : (D.map pk).Pairwise (fun a b => Dj (Bl a.1) (Bl b.1))) (hd : ∀ a ∈ D.map pk, Dj (Bl a.1) (Bl d.1)) : ((D ++ [d]).map pk).Pairwise (fun a b => Dj (Bl a.1) (Bl b.1)) := by
  rw [List.map_append, List.pairwise_append]
  exact ⟨h, List.pairwise_singleton _ _, fun a ha b hb => by rw [show ([d] : List (DP V)).map pk = [pk d] from rfl, List.mem_singleton] at hb; subst hb; exact hd a ha⟩
theorem TreeR.later {h : Nat} {tr : Tr V h} (T : TreeR κ R w h p tr W) (E : Gr w w' (fun k => B ≤ k)) (hW : ∀ k, W k → k < B) (hR : ∀ k, R k → k < B) : TreeR κ R w' h p tr W :=
  T.keepR E (fun k hk hh => by have := hW k hk; omega) (fun k hk hh => by have := hR k hk; omega)
end
end Go.Gx
namespace Go.Bt
section
variable {V : Type} {h : Nat}
/-- The pairs from x on. -/
def geL (x : Ky) (l : List (Ky × V)) : List (Ky × V) := l.filter fun p => decide (x ≤ p.1)
theorem geL_app {x : Ky} {a b : List (Ky × V)} : geL x (a ++ b) = geL x a ++ geL x b := List.filter_append ..
theorem geL_none {x : Ky} {a : List (Ky × V)} (h : ∀ p ∈ a, p.1 < x) : geL x a = [] := by
  unfold geL; rw [List.filter_eq_nil_iff]; intro p hp; have := h p hp; simp only [decide_eq_true_eq]; grind
theorem geL_all {x : Ky} {a : List (Ky × V)} (h : ∀ p ∈ a, x ≤ p.1) : geL x a = a := by
  unfold geL; rw [List.filter_eq_self]; intro p hp; simpa using h p hp
theorem geL_leaf {x : Ky} {l : List (Ky × V)} (H : Sorted (l.map Prod.fst)) : geL x l = l.drop (pos (l.map Prod.fst) x) := by
  conv => lhs; rw [← List.take_append_drop (pos (l.map Prod.fst) x) l]
  have hl := pos_le (l.map Prod.fst) x
  rw [List.length_map] at hl
  rw [geL_app, geL_none, geL_all, List.nil_append]
  · intro p hp
    obtain ⟨q, hq, rfl⟩ := List.getElem_of_mem hp
    rw [List.length_drop] at hq
    rw [List.getElem_drop]
    have := pos_sorted H (x := x) (j := pos (l.map Prod.fst) x + q) (by simp; omega)
    simp only [List.getElem_map] at this
    grind
  · intro p hp
    obtain ⟨q, hq, rfl⟩ := List.getElem_of_mem hp
    rw [List.length_take] at hq
    rw [List.getElem_take]
    have := pos_sorted H (x := x) (j := q) (by simp; omega)
    simp only [List.getElem_map] at this
    grind
/-- A node's pairs from x on are those of its kids from the way on. -/
theorem geL_node {x : Ky} {ks : List Ky} {cs : List (Tr V h)} (N : Nd h ks cs) : geL x (cs.flatMap (toL h)) = (cs.drop (way ks x)).flatMap (fun c => geL x (toL h c)) := by
  have hl : way ks x < cs.length := by have := way_le ks x; have := N.1; omega
  conv => lhs; rw [← List.take_append_drop (way ks x) cs]
  rw [List.flatMap_append, geL_app, geL_none, List.nil_append]
  · generalize cs.drop (way ks x) = r
    induction r with
    | nil => rfl
    | cons c r ih => rw [List.flatMap_cons, geL_app, ih, List.flatMap_cons]
  · intro p hp
    obtain ⟨c, hc, hp⟩ := List.mem_flatMap.1 hp
    obtain ⟨q, hq, rfl⟩ := List.getElem_of_mem hc
    rw [List.length_take] at hq
    rw [List.getElem_take] at hp
    have := (N.2.2 q _ (List.getElem?_eq_getElem (by omega))).2 _ (dom_of_toL hp)
    exact lt_of_way (ks := ks) (by omega)
variable {α β : Type} {f : α → List β} {l : List α} {i j n : Nat} {c : α}
theorem scan_more (hc : l[i + j]? = some c) : ((l.drop i).take (j + 1)).flatMap f = ((l.drop i).take j).flatMap f ++ f c := by
  obtain ⟨hi, rfl⟩ := List.getElem?_eq_some_iff.1 hc
  have hj : j < (l.drop i).length := by rw [List.length_drop]; omega
  rw [← List.take_append_getElem hj, List.flatMap_append, List.getElem_drop]; simp
theorem geL_le {x : Ky} {l : List (Ky × V)} : (geL x l).length ≤ l.length := List.length_filter_le ..
theorem scan_room {x : Ky} {cs : List (Tr V h)} {i j : Nat} {c : Tr V h} (hc : cs[i + j]? = some c) : (((cs.drop i).take j).flatMap fun c => geL x (toL h c)).length + (toL h c).length ≤ (cs.flatMap (toL h)).length := by
  have h1 : ∀ l : List (Tr V h), (l.flatMap fun c => geL x (toL h c)).length ≤ (l.flatMap (toL h)).length := fun l => by
    induction l with
    | nil => exact Nat.le_refl _
    | cons a t ih => rw [List.flatMap_cons, List.flatMap_cons, List.length_append, List.length_append]; have := geL_le (x := x) (l := toL h a); omega
  obtain ⟨hl, rfl⟩ := List.getElem?_eq_some_iff.1 hc
  have e : cs = cs.take i ++ ((cs.drop i).take j ++ cs[i + j] :: cs.drop (i + j + 1)) := by
    rw [← List.drop_eq_getElem_cons hl, ← List.drop_drop, List.take_append_drop, List.take_append_drop]
  have h2 := h1 ((cs.drop i).take j)
  have e2 := congrArg (fun l => (l.flatMap (toL h)).length) e
  simp only [List.flatMap_append, List.flatMap_cons, List.length_append] at e2
  omega
theorem scan_le : ((l.take n).flatMap f).length ≤ (l.flatMap f).length := by
  conv => rhs; rw [← List.take_append_drop n l, List.flatMap_append, List.length_append]
  omega
theorem scan_cut (h : n ≤ ((l.take j).flatMap f).length) : (l.flatMap f).take n = ((l.take j).flatMap f).take n := by
  conv => lhs; rw [← List.take_append_drop j l, List.flatMap_append]
  rw [List.take_append_of_le_length h]
end
end Go.Bt

/- Walks, written by a program: what each function of the translation hands back. -/
namespace Go.Proofs.Ytcpfdfejojghbaa
open Go.Gx Go.RowKit
attribute [local irreducible] wpList wpStill Code.wp Calls
open Go.Bt
theorem yieldI {l : List UInt8} {kv : Value} {x : Int} {D : List (DP (Int))} {m : Int} {ob lb B : Nat} {F : Nat → Prop} {w : World} (hA : AccR kI 48 B ob lb m w D F) (hB : B ≤ w.heap.size) (hk : RdC w 0 w.heap.size 1 kv l.length (l.map u8v)) (hkn : l.length ≤ 1000000000) (hD : D.length ≤ 1000000) :
    Ret Try.prog 50 #[(Value.agg #[kv, (Value.int .i64 x)]), ptr ob 0, ptr lb 0] w (fun v' w' => Gr w w' F ∧ v' = .bool (decide (((D.length + 1 : Nat) : Int) < m)) ∧ ∃ kv' F', AccR kI 48 B ob lb m w' (D ++ [(kv', l, x)]) F' ∧ NewF w.heap.size F F') := by
  obtain ⟨h1, h2, h3, ⟨ov, hb, hO, hF⟩, hL, hks, hpw⟩ := hA
  refine (scan1I hB hb hL h3 hO hks hk hkn hD).mono fun v' w' h => ?_
  obtain ⟨E, hv, ov', kv', hb', hO', hks', hL', hm, hfr⟩ := h
  refine ⟨E.mono fun k _ hk => (hF k).2 (hk.elim .inl fun q => .inr (.inr q)), hv, kv', _, ⟨h1, h2, h3, ⟨ov', hb', hO', fun k => Iff.rfl⟩, hL', hks', pw_snoc hpw fun a ha k h q => by have := ((hks a ha).lt k h).2; have := hfr k q; omega⟩, fun k hk => ?_⟩
  rcases hk with hk | hk | hk
  · exact .inl ((hF k).2 (.inl hk))
  · exact .inl ((hF k).2 (.inr (.inl hk)))
  · rcases hm with hm | hm
    · exact .inl ((hF k).2 (.inr (.inr (hm.symm.trans hk))))
    · exact .inr (hm k hk)
end Go.Proofs.Ytcpfdfejojghbaa

/- Walks, written by a program: what each function of the translation hands back. -/
namespace Go.Proofs.Ytcpfdfejojghbaa
open Go.Gx Go.RowKit
attribute [local irreducible] wpList wpStill Code.wp Calls
open Go.Bt
theorem scanLI {x : List UInt8} {xv pv : Value} {D0 D : List (DP (Int))} {lim ob lb B p : Nat} {F : Nat → Prop} {w : World} (hx : Bx w p 115 [pv, .slice none 0 0, .slice none 0 0]) (op : Own w 0 51 2 pv D0.length (D0.flatMap cI)) (ks : ∀ x9 ∈ D0.map pk, Own w 0 5 1 x9.1 x9.2.length (x9.2.map u8v)) (hs : Sorted (kys D0)) (hn : D0.length ≤ 1000) (hop : RdC w 0 B 2 pv D0.length (D0.flatMap cI)) (hks : ∀ x9 ∈ D0.map pk, RdC w 0 B 1 x9.1 x9.2.length (x9.2.map u8v)) (hkl : ∀ x9 ∈ D0.map pk, x9.2.length ≤ 1000000000) (hxr : RdC w 0 B 1 xv x.length (x.map u8v)) (hA : AccR kI 48 B ob lb (lim : Int) w D F) (hB : B ≤ w.heap.size) (hD : D.length < lim) (hlim : lim ≤ 9223372036854775807) (hDM : D.length + D0.length ≤ 100000) : Ret Try.prog 49 #[(ptr p 0), xv, (Value.func (.func 50) #[] #[(ptr ob 0), (ptr lb 0)])] w (fun v' w' => Gr w w' (fun k => B ≤ k) ∧ v' = .bool (decide (D.length + ((D0.drop (pos (kys D0) x)).map Prod.snd).length < lim)) ∧ ∃ D2 F2, AccR kI 48 B ob lb (lim : Int) w' (D ++ D2) F2 ∧ D2.map Prod.snd = ((D0.drop (pos (kys D0) x)).map Prod.snd).take (lim - D.length)) := by
 have hdl : (D0.drop (pos (kys D0) x)).length = D0.length - (pos (kys D0) x) := List.length_drop
 have hpl := pos_leP (D := D0) (x := x)
 have hb := Gr.refl w (fun k => B ≤ k)
 refine enter (N := 56) Try.func49 rfl rfl (by simp) fun a0 hN hd hA => ?_
 have s0 : a0.tmps.getD 0 undef = (ptr p 0) := hA 0 (by simp)
 have s1 : a0.tmps.getD 1 undef = xv := hA 1 (by simp)
 have s2 : a0.tmps.getD 2 undef = (Value.func (.func 50) #[] #[(ptr ob 0), (ptr lb 0)]) := hA 2 (by simp)
 clear hA
 refine seq_any fun K3387 hK3387 => ?_
 refine one_reg ?_
 refine op_assign rfl ?_
 refine reg_nil ?_
 refine hK3387 _ _ ?_
 refine seq_any fun K3388 hK3388 => ?_
 refine seq_any fun K3389 hK3389 => ?_
 refine one_reg ?_
 refine op_move (ev_base hN rfl s0) ?_
 refine op_fn (vs := [(ptr p 0)]) ok81 ⟨(ev_hit hN rfl), trivial⟩ (Ret.flip (leafLI hx op)) ?_
 rintro _ _ ⟨rfl, rfl⟩
 refine reg_nil ?_
 refine hK3389 _ _ ?_
 refine wp_cond_true (ev_hit hN rfl) ?_
 refine seq_any fun K3390 hK3390 => ?_
 refine one_reg ?_
 refine op_move (ev_base hN rfl s0) ?_
 refine op_move (ev_base hN rfl s1) ?_
 refine op_fn (vs := [(ptr p 0), xv]) ok82 ⟨(ev_hit hN rfl), ⟨(ev_hit hN rfl), trivial⟩⟩ (findI hx op ks hs (by omega) (hxr.mono (Nat.zero_le _) (by omega))) ?_
 rintro _ w3391 ⟨E3392, rfl⟩
 have E3392 := grown_of_below E3392
 have z_w3391 := E3392.size
 have hx := hx.keep0 E3392
 have op := op.keep0 E3392
 have ks : ∀ x9 ∈ (D0.map pk), Own w3391 0 5 1 x9.1 x9.2.length (x9.2.map u8v) := fun x9 hx9 => (ks x9 hx9).keep0 E3392
 have hop := hop.keep0 E3392
 have hks : ∀ x9 ∈ (D0.map pk), RdC w3391 0 B 1 x9.1 x9.2.length (x9.2.map u8v) := fun x9 hx9 => (hks x9 hx9).keep0 E3392
 have hxr := hxr.keep0 E3392
 have hA := hA.keepG (Gr.of0 E3392 NoB) (fun _ _ h => h) (NoK.no _)
 have hb := hb.step0 E3392
 refine op_move (ev_hit hN rfl) ?_
 refine op_extract (ev_hit hN rfl) rfl ?_
 refine op_extract (ev_hit hN rfl) rfl ?_
 refine op_assign (ev_hit hN rfl) ?_
 refine op_assign (ev_hit hN rfl) ?_
 refine reg_nil ?_
 refine hK3390 _ _ ?_
 refine seq_any fun K3393 hK3393 => ?_
 refine seq_any fun K3394 hK3394 => ?_
 refine one_reg ?_
 refine op_move (ev_base hN rfl s0) ?_
 refine op_nil (ev_hit hN rfl) ?_
 refine op_field fld115_0 (ev_hit hN rfl) ?_
 refine op_load1 (v := pv) one48 (ev_hit hN rfl) (hx.cell rfl) ?_
 refine op_move (ev_hit hN rfl) ?_
 refine op_slice_rd (lo := ((pos (kys D0) x))) (hi := D0.length) slt48 (ev_hit hN rfl) hop (.inr ⟨_, _, rfl, (ev_hit hN rfl)⟩) (.inl ⟨rfl, rfl⟩) (by omega) (by omega) ?_
 intro v3395 hR3396
 have hR3396 : RdC w3391 0 B 2 v3395 ((D0.drop (pos (kys D0) x)).length) (((D0.drop (pos (kys D0) x))).flatMap cI) := by exact hR3396.cast (by simp) (by rw [flat_drop cI_len, List.take_of_length_le (by rw [flat_len9 cI_len]; simp)])
 refine op_len_rd Try.underlying48 (ev_hit hN rfl) hR3396 ?_
 refine op_move rfl ?_
 refine reg_nil ?_
 refine hK3394 _ _ ?_
 refine wp_block ?_
 refine loop_m (fun mz_ az_ w' => ∃ (i : Nat) (D2 : List (DP (Int))) (FA : Nat → Prop), mz_ = (D0.drop (pos (kys D0) x)).length - i ∧ (az_.tmps.getD 0 undef = (ptr p 0)) ∧ (az_.tmps.getD 1 undef = xv) ∧ (az_.tmps.getD 2 undef = (Value.func (.func 50) #[] #[(ptr ob 0), (ptr lb 0)])) ∧ (az_.tmps.getD 26 undef = v3395) ∧ (az_.tmps.getD 27 undef = (Value.int .i64 ((((D0.drop (pos (kys D0) x)).length) : Nat) : Int))) ∧ (az_.tmps.getD 28 undef = (Value.int .i64 ((i : Nat) : Int))) ∧ (i ≤ (D0.drop (pos (kys D0) x)).length) ∧ (D2.map Prod.snd = ((D0.drop (pos (kys D0) x)).map Prod.snd).take i) ∧ (D2.length = i) ∧ (D.length + i < lim) ∧ (Gr w w' (fun k => B ≤ k)) ∧ (w3391.heap.size ≤ w'.heap.size) ∧ (RdC w' 0 B 2 pv D0.length (D0.flatMap cI)) ∧ (∀ x9 ∈ (D0.map pk), RdC w' 0 B 1 x9.1 x9.2.length (x9.2.map u8v)) ∧ (RdC w' 0 B 1 xv x.length (x.map u8v)) ∧ (RdC w' 0 B 2 v3395 ((D0.drop (pos (kys D0) x)).length) (((D0.drop (pos (kys D0) x))).flatMap cI)) ∧ (AccR kI 48 B ob lb (lim : Int) w' (D ++ D2) FA)) _ hN hd ⟨0, [], F, rfl, (sl_base hN rfl s0), (sl_base hN rfl s1), (sl_base hN rfl s2), (sl_hit hN rfl), (sl_hit hN rfl), (sl_hit hN rfl), (Nat.zero_le _), rfl, rfl, (by omega), hb, (Nat.le_refl _), hop, hks, hxr, hR3396, (by simpa using hA)⟩ ?_
 rintro _ a3397 w3397 hN3397 hd3397 ⟨i, D2, FA, rfl, s3397_0, s3397_1, s3397_2, s3397_26, s3397_27, s3397_28, hi, hD2, hDl, hlt, hb, zl_w3397, hop, hks, hxr, hR3396, hAi⟩
 have z_w3397 := hb.size
 refine seq_any fun K3398 hK3398 => ?_
 refine one_reg ?_
 refine op_lss (ev_base hN3397 rfl s3397_28) (ev_base hN3397 rfl s3397_27) (fun c29 => ?_) (fun c29 => ?_)
 · -- 29T
  refine reg_nil ?_
  refine hK3398 _ _ ?_
  refine seq_any fun K3399 hK3399 => ?_
  refine wp_cond_true (ev_hit hN3397 rfl) ?_
  refine wp_skip ?_
  refine hK3399 _ _ ?_
  refine seq_any fun K3400 hK3400 => ?_
  refine wp_block ?_
  refine seq_any fun K3401 hK3401 => ?_
  refine one_reg ?_
  refine op_index_rd slt48 (ev_base hN3397 rfl s3397_26) hR3396 (ev_base hN3397 rfl s3397_28) (by omega) (by omega) ?_
  intro b3402 o3403 h0b3402 h1b3402 hc3404
  refine op_loadA (cs := [((D0.drop (pos (kys D0) x)).getD i default).1, (Value.int .i64 ((D0.drop (pos (kys D0) x)).getD i default).2.2)]) agg51 rfl (ev_hit hN3397 rfl) (fun j u hu => hc3404 j u (by have := (List.getElem?_eq_some_iff.1 hu).1; simpa using this) ((el_pI (i := i) (by omega) (by first | omega | (simp only [List.length_drop, List.length_take]; omega))) j u hu)) ?_
  refine op_alloc (cs := [(Value.slice none 0 0), (Value.int .i64 0)]) zero51 rfl ?_
  intro w3405 b3406 lo_b3406 hi_b3406 hB3408 E3407
  have dj3409 : ¬ FA b3406 := fun hf => by have := (hAi.lt _ hf).2; omega
  have z_w3405 := E3407.size
  have hop := hop.keep0 E3407
  have hks : ∀ x9 ∈ (D0.map pk), RdC w3405 0 B 1 x9.1 x9.2.length (x9.2.map u8v) := fun x9 hx9 => (hks x9 hx9).keep0 E3407
  have hxr := hxr.keep0 E3407
  have hR3396 := hR3396.keep0 E3407
  have hAi := hAi.keepG (Gr.of0 E3407 NoB) (fun _ _ h => h) (NoK.no _)
  have hb := hb.step0 E3407
  have hB3408_old := hB3408
  refine op_store (vs := [((D0.drop (pos (kys D0) x)).getD i default).1, (Value.int .i64 ((D0.drop (pos (kys D0) x)).getD i default).2.2)]) (cs' := [((D0.drop (pos (kys D0) x)).getD i default).1, (Value.int .i64 ((D0.drop (pos (kys D0) x)).getD i default).2.2)]) size51 (ev_hit hN3397 rfl) (ev_hit hN3397 rfl) rfl rfl (by simp only [List.all_cons, List.all_nil, Bool.true_and, Bool.and_true, (show RdC _ _ _ _ ((D0.drop (pos (kys D0) x)).getD i default).1 _ _ from hks (pk ((D0.drop (pos (kys D0) x)).getD i default)) (List.mem_map.2 ⟨((D0.drop (pos (kys D0) x)).getD i default), (List.mem_of_mem_drop (getD_mem (by first | omega | (simp only [List.length_drop, List.length_take]; omega)))), rfl⟩)).one]; try rfl) hB3408 (Nat.le_of_ble_eq_true rfl) rfl ?_
  intro w3412 hB3408 E3413
  have z_w3412 := E3413.size
  have hop := hop.keep E3413 (fun k hk => .inr (by simp at hk; omega))
  have hks : ∀ x9 ∈ (D0.map pk), RdC w3412 0 B 1 x9.1 x9.2.length (x9.2.map u8v) := fun x9 hx9 => (hks x9 hx9).keep E3413 (fun k hk => .inr (by simp at hk; omega))
  have hxr := hxr.keep E3413 (fun k hk => .inr (by simp at hk; omega))
  have hR3396 := hR3396.keep E3413 (fun k hk => .inr (by simp at hk; omega))
  have hAi := hAi.keepG (Gr.of E3413) (Dj.one dj3409) (NoK.ofBx hB3408_old (by decide))
  have hb := hb.step1 E3413 (by omega)
  refine reg_nil ?_
  refine hK3401 _ _ ?_
  refine seq_any fun K3414 hK3414 => ?_
  refine one_reg ?_
  refine op_move (ev_base hN3397 rfl s3397_2) ?_
  refine op_loadA (cs := [((D0.drop (pos (kys D0) x)).getD i default).1, (Value.int .i64 ((D0.drop (pos (kys D0) x)).getD i default).2.2)]) agg51 rfl (ev_hit hN3397 rfl) (fun j u hu => by rw [Nat.zero_add]; exact hB3408.cell hu) ?_
  refine op_fnv (fs := []) (vs := [(Value.agg #[((D0.drop (pos (kys D0) x)).getD i default).1, (Value.int .i64 ((D0.drop (pos (kys D0) x)).getD i default).2.2)])]) (cs := [(ptr ob 0), (ptr lb 0)]) (ev_hit hN3397 rfl) ok50 ⟨(ev_hit hN3397 rfl), trivial⟩ (yieldI (l := ((D0.drop (pos (kys D0) x)).getD i default).2.1) (x := ((D0.drop (pos (kys D0) x)).getD i default).2.2) hAi (by omega) (((hks _ (List.mem_map.2 ⟨((D0.drop (pos (kys D0) x)).getD i default), List.mem_of_mem_drop (getD_mem (by simp; omega)), rfl⟩))).mono (Nat.le_refl _) (by omega)) ((hkl _ (List.mem_map.2 ⟨((D0.drop (pos (kys D0) x)).getD i default), List.mem_of_mem_drop (getD_mem (by simp; omega)), rfl⟩))) (by simp; omega)) ?_
  rintro _ w3416 ⟨E3417, rfl, kv3415, F2_3415, hA3415, hN3415⟩
  have bd3418 := hB3408.lt
  have hAi_old := hAi
  have z_w3416 := E3417.size
  have hop := hop.keepG E3417 (fun k hk => .inr (by have := hAi_old.lt k hk; omega))
  have hks : ∀ x9 ∈ (D0.map pk), RdC w3416 0 B 1 x9.1 x9.2.length (x9.2.map u8v) := fun x9 hx9 => (hks x9 hx9).keepG E3417 (fun k hk => .inr (by have := hAi_old.lt k hk; omega))
  have hxr := hxr.keepG E3417 (fun k hk => .inr (by have := hAi_old.lt k hk; omega))
  have hR3396 := hR3396.keepG E3417 (fun k hk => .inr (by have := hAi_old.lt k hk; omega))
  have hB3408 := hB3408.keepG E3417 dj3409
  have hb := hb.stepF E3417 (fun k _ h => (hAi_old.lt k h).1)
  have dj3419 : ¬ F2_3415 b3406 := ne_stepF hN3415 bd3418 dj3409
  rcases Bool.eq_false_or_eq_true ((decide (((((D ++ D2)).length + 1 : Nat) : Int) < (lim : Int)))) with c34 | c34
  · -- 34T
   rw [c34]
   refine op_not (ev_hit hN3397 rfl) ?_
   refine reg_nil ?_
   refine hK3414 _ _ ?_
   refine wp_cond_false (ev_hit hN3397 rfl) ?_
   refine wp_skip ?_
   refine hK3400 _ _ ?_
   refine one_reg ?_
   refine op_add (ev_base hN3397 rfl s3397_28) rfl (add64 (by omega)) ?_
   refine op_move (ev_hit hN3397 rfl) ?_
   refine reg_nil ?_
   -- round 29T 34T
   exact loop_next _ hN3397 hd3397 ⟨(i + 1), (D2 ++ [(kv3415, ((D0.drop (pos (kys D0) x)).getD i default).2.1, ((D0.drop (pos (kys D0) x)).getD i default).2.2)]), F2_3415, rfl, (sl_base hN3397 rfl s3397_0), (sl_base hN3397 rfl s3397_1), (sl_base hN3397 rfl s3397_2), (sl_base hN3397 rfl s3397_26), (sl_base hN3397 rfl s3397_27), (sl_hit hN3397 rfl).trans (congrArg (Value.int .i64) (by omega)), (by omega), (by rw [List.map_append, hD2, take9 (d := default) (by simp; omega), getD_map9 (by omega)]; rfl), (by rw [List.length_append, hDl]; rfl), (by have h9 := of_decide_eq_true c34; simp only [List.length_append, hDl] at h9; omega), hb, (by omega), hop, hks, hxr, hR3396, (by simpa using hA3415)⟩ (by omega)
  · -- 34F
   rw [c34]
   refine op_not (ev_hit hN3397 rfl) ?_
   refine reg_nil ?_
   refine hK3414 _ _ ?_
   refine wp_cond_true (ev_hit hN3397 rfl) ?_
   refine seq_any fun K3420 hK3420 => ?_
   refine one_reg ?_
   refine op_assign rfl ?_
   refine reg_nil ?_
   refine hK3420 _ _ ?_
   refine wp_ret (blk_ret (then_ret (then_ret (blk_ret (then_ret (then_ret ( ?_)))))))
   refine ret1 rfl hd3397 (ev_hit hN3397 rfl) ⟨_, rfl, ?_⟩
   -- path 29T 34F
   have h9 := of_decide_eq_false c34
   simp only [List.length_append, hDl] at h9
   exact ⟨hb, congrArg Value.bool (decide_eq_false (by rw [List.length_map]; omega)).symm, D2 ++ [(kv3415, ((D0.drop (pos (kys D0) x)).getD i default).2.1, ((D0.drop (pos (kys D0) x)).getD i default).2.2)], F2_3415, by simpa using hA3415, by rw [show lim - D.length = i + 1 by omega, List.map_append, hD2, take9 (d := default) (by simp; omega), getD_map9 (by omega)]; rfl⟩
 · -- 29F
  refine reg_nil ?_
  refine hK3398 _ _ ?_
  refine seq_any fun K3421 hK3421 => ?_
  refine wp_cond_false (ev_hit hN3397 rfl) ?_
  refine wp_exit (then_exit (then_exit (blk_hit ?_)))
  refine hK3393 _ _ ?_
  refine seq_any fun K3422 hK3422 => ?_
  refine one_reg ?_
  refine op_assign rfl ?_
  refine reg_nil ?_
  refine hK3422 _ _ ?_
  refine wp_ret (then_ret ( ?_))
  refine ret1 rfl hd3397 (ev_hit hN3397 rfl) ⟨_, rfl, ?_⟩
  -- path 29F
  exact ⟨hb, congrArg Value.bool (decide_eq_true (by rw [List.length_map]; omega)).symm, D2, FA, hAi, by rw [hD2, List.take_of_length_le (by simp; omega), List.take_of_length_le (by simp; omega)]⟩

end Go.Proofs.Ytcpfdfejojghbaa

/- Walks, written by a program: what each function of the translation hands back. -/
namespace Go.Proofs.Ytcpfdfejojghbaa
open Go.Gx Go.RowKit
attribute [local irreducible] wpList wpStill Code.wp Calls
open Go.Bt
def ScanI (h : Nat) : Prop := ∀ ⦃x : List UInt8⦄ ⦃xv : Value⦄ ⦃p ob lb B lim : Nat⦄ ⦃t : Tr (Int) h⦄ ⦃R W F : Nat → Prop⦄ ⦃D : List (DP (Int))⦄ ⦃w : World⦄, TreeR kI R w h p t W → Ok h t → szT h t ≤ 6 → (∀ k, W k → k < B) → (∀ k, R k → k < B) → (∀ q ∈ toL h t, q.1.length ≤ 1000000000) → RdC w 0 B 1 xv x.length (x.map u8v) → AccR kI 48 B ob lb (lim : Int) w D F → B ≤ w.heap.size → D.length < lim → lim ≤ 9223372036854775807 → D.length + (toL h t).length ≤ 100000 →
  Ret Try.prog 49 #[ptr p 0, xv, .func (.func 50) #[] #[ptr ob 0, ptr lb 0]] w (fun v' w' => Gr w w' (fun k => B ≤ k) ∧ v' = .bool (decide (D.length + (geL x (toL h t)).length < lim)) ∧ ∃ D2 F2, AccR kI 48 B ob lb (lim : Int) w' (D ++ D2) F2 ∧ D2.map Prod.snd = (geL x (toL h t)).take (lim - D.length))
theorem scan0I : ScanI 0 := by
  intro x xv p ob lb B lim t R W F D w T hO h6 hW hR hkl hxr hA hB hD hlim hDM
  obtain ⟨pv, D0, hL, e⟩ := T
  have e' : (D0.map Prod.snd : List (Ky × (Int))) = t := e
  subst e'
  have h6' : D0.length ≤ 6 := by have h9 : (D0.map Prod.snd).length ≤ 6 := h6; simpa using h9
  have hs : Sorted (kys D0) := hO
  have hg : geL x (toL 0 ((D0.map Prod.snd : List (Ky × (Int))) : Tr (Int) 0)) = (D0.drop (pos (kys D0) x)).map Prod.snd := (geL_leaf (show Sorted ((D0.map Prod.snd).map Prod.fst) from hs)).trans (by rw [List.map_drop]; rfl)
  rw [hg]
  exact scanLI hL.bx hL.op hL.ks hs (by omega) ((hL.op.rd fun k hk => hW k (hL.wv k hk)).mono (Nat.zero_le _) (Nat.le_refl _)) (fun x9 hx9 => ((hL.ks x9 hx9).rd fun k hk => hR k (hL.kr x9 hx9 k hk))) (fun x9 hx9 => by
    obtain ⟨d, hd, rfl⟩ := List.mem_map.1 hx9
    exact hkl d.2 (List.mem_map.2 ⟨d, hd, rfl⟩)) hxr hA hB hD hlim (by have h9 : D.length + (D0.map Prod.snd).length ≤ 100000 := hDM; simpa using h9)
end Go.Proofs.Ytcpfdfejojghbaa

/- Walks, written by a program: what each function of the translation hands back. -/
namespace Go.Proofs.Ytcpfdfejojghbaa
open Go.Gx Go.RowKit
attribute [local irreducible] wpList wpStill Code.wp Calls
open Go.Bt
theorem scanNI {h : Nat} {x : List UInt8} {xv kv cv : Value} {p ob lb B lim : Nat} {K : List DK} {P : List Nat} {cs : List (Tr (Int) h)} {R W G F : Nat → Prop} {D : List (DP (Int))} {w : World} (IH : ScanI h) (hNd : NodeR kI R w p kv cv K P G W) (hKs : KidsR kI R w h P cs G) (hO : Nd h (K.map Prod.snd) cs) (hz : ∀ c ∈ cs, okSz h c) (hn : K.length ≤ 6) (hW : ∀ k, W k → k < B) (hR : ∀ k, R k → k < B) (hkl : ∀ q ∈ cs.flatMap (toL h), q.1.length ≤ 1000000000) (hxr : RdC w 0 B 1 xv x.length (x.map u8v)) (hA : AccR kI 48 B ob lb (lim : Int) w D F) (hB : B ≤ w.heap.size) (hD : D.length < lim) (hlim : lim ≤ 9223372036854775807) (hDM : D.length + (cs.flatMap (toL h)).length ≤ 100000) : Ret Try.prog 49 #[(ptr p 0), xv, (Value.func (.func 50) #[] #[(ptr ob 0), (ptr lb 0)])] w (fun v' w' => Gr w w' (fun k => B ≤ k) ∧ v' = .bool (decide (D.length + ((cs.drop (way (K.map Prod.snd) x)).flatMap fun c => geL x (toL h c)).length < lim)) ∧ ∃ D2 F2, AccR kI 48 B ob lb (lim : Int) w' (D ++ D2) F2 ∧ D2.map Prod.snd = ((cs.drop (way (K.map Prod.snd) x)).flatMap fun c => geL x (toL h c)).take (lim - D.length)) := by
 have hx : Bx w p 115 [.slice none 0 0, kv, cv] := hNd.bx
 have ok := hNd.ok
 have oc : Own w 0 69 1 cv P.length (P.flatMap cN) := hNd.oc
 have ks := hNd.ks
 have hs := hO.2.1
 have hPc : P.length = cs.length := hKs.len
 have hcl : cs.length = K.length + 1 := hO.1.trans (by simp)
 have hPl : P.length = K.length + 1 := hPc.trans hcl
 have hwl : (way (K.map Prod.snd) x) ≤ K.length := by have := way_le (K.map Prod.snd) x; simpa using this
 have hdl : (P.drop (way (K.map Prod.snd) x)).length = P.length - (way (K.map Prod.snd) x) := List.length_drop
 have hoc : RdC w 0 B 1 cv P.length (P.flatMap cN) := (hNd.oc.rd fun k hk => hW k (hNd.wc k hk)).mono (Nat.zero_le _) (Nat.le_refl _)
 have hb := Gr.refl w (fun k => B ≤ k)
 refine enter (N := 56) Try.func49 rfl rfl (by simp) fun a0 hN hd hA => ?_
 have s0 : a0.tmps.getD 0 undef = (ptr p 0) := hA 0 (by simp)
 have s1 : a0.tmps.getD 1 undef = xv := hA 1 (by simp)
 have s2 : a0.tmps.getD 2 undef = (Value.func (.func 50) #[] #[(ptr ob 0), (ptr lb 0)]) := hA 2 (by simp)
 clear hA
 refine seq_any fun K3495 hK3495 => ?_
 refine one_reg ?_
 refine op_assign rfl ?_
 refine reg_nil ?_
 refine hK3495 _ _ ?_
 refine seq_any fun K3496 hK3496 => ?_
 refine seq_any fun K3497 hK3497 => ?_
 refine one_reg ?_
 refine op_move (ev_base hN rfl s0) ?_
 refine op_fn (vs := [(ptr p 0)]) ok81 ⟨(ev_hit hN rfl), trivial⟩ (Ret.flip (leafNI hx ok oc (by omega) (by omega))) ?_
 rintro _ _ ⟨rfl, rfl⟩
 refine reg_nil ?_
 refine hK3497 _ _ ?_
 refine wp_cond_false (ev_hit hN rfl) ?_
 refine wp_skip ?_
 refine hK3496 _ _ ?_
 refine seq_any fun K3498 hK3498 => ?_
 refine seq_any fun K3499 hK3499 => ?_
 refine reg_env (φ := phiV [(fun uz => uz = (ptr p 0)), (fun uz => uz = (ptr p 0)), (fun uz => uz = (ptr p 2)), (fun uz => uz = cv), (fun uz => uz = (ptr p 0)), (fun uz => uz = xv), (fun _ => True), (fun _ => True), (fun _ => True), (fun uz => uz = (Value.int .i64 0))]) (G := fun w' => Bx w' p 115 [(Value.slice none 0 0), kv, cv]) [6, 7, 8] mixed (by kernel_rfl) (by kernel_rfl) (by kernel_rfl) (by kernel_rfl) hN (fun w1 w2 E h => h.keep0 E) hx (ObEs.cons ?_ (ObEs.cons ?_ (ObEs.cons ?_ (ObEs.cons ?_ (ObEs.cons ?_ (ObEs.cons ?_ (ObEs.pass rfl (ObEs.pass rfl (ObEs.pass rfl (ObEs.cons ?_ (ObEs.nil))))))))))) (by simp only [putsL_defers]) ?_
 ·
  intro eA aA wA hNA hGA hbsA hdpA
  have qA_0 := (hbsA 0 rfl).trans (sl_base hN rfl s0)
  refine op_move (ev_base hNA rfl qA_0) ?_
  exact obE_end rfl rfl rfl
 ·
  intro eA aA wA hNA hGA hbsA hdpA
  have qA_37 : Sl aA 37 (ptr p 0) := (hdpA 0 _ 37 (by kernel_rfl) rfl rfl).2 rfl
  refine op_nil (ev_base hNA rfl qA_37) ?_
  exact obE_end rfl rfl rfl
 ·
  intro eA aA wA hNA hGA hbsA hdpA
  have qA_38 : Sl aA 38 (ptr p 0) := (hdpA 1 _ 38 (by kernel_rfl) rfl rfl).2 rfl
  refine op_field fld115_2 (ev_base hNA rfl qA_38) ?_
  exact obE_end rfl rfl rfl
 ·
  intro eA aA wA hNA hGA hbsA hdpA
  have qA_39 : Sl aA 39 (ptr p 2) := (hdpA 2 _ 39 (by kernel_rfl) rfl rfl).2 rfl
  refine op_load1 (v := cv) one113 (ev_base hNA rfl qA_39) (hGA.cell rfl) ?_
  exact obE_end rfl rfl rfl
 ·
  intro eA aA wA hNA hGA hbsA hdpA
  have qA_0 := (hbsA 0 rfl).trans (sl_base hN rfl s0)
  refine op_move (ev_base hNA rfl qA_0) ?_
  exact obE_end rfl rfl rfl
 ·
  intro eA aA wA hNA hGA hbsA hdpA
  have qA_1 := (hbsA 1 rfl).trans (sl_base hN rfl s1)
  refine op_move (ev_base hNA rfl qA_1) ?_
  exact obE_end rfl rfl rfl
 ·
  intro eA aA wA hNA hGA hbsA hdpA
  refine op_move rfl ?_
  exact obE_end rfl rfl rfl
 ·
  intro w3500 E3500 _ a3500 hN3500 hbs3500 hdp3500 o_ ho_; obtain rfl := Option.some.inj ho_
  have z_w3500 := E3500.size
  have hx := hx.keep0 E3500
  have ok := ok.keep0 E3500
  have oc := oc.keep0 E3500
  have ks : ∀ x9 ∈ K, Own w3500 0 5 1 x9.1 x9.2.length (x9.2.map u8v) := fun x9 hx9 => (ks x9 hx9).keep0 E3500
  have hoc := hoc.keep0 E3500
  have hxr := hxr.keep0 E3500
  have hA := hA.keepG (Gr.of0 E3500 NoB) (fun _ _ h => h) (NoK.no _)
  have hb := hb.step0 E3500
  have q3500_41 : Sl a3500 41 (ptr p 0) := (hdp3500 4 _ 41 (by kernel_rfl) rfl rfl).2 rfl
  have q3500_42 : Sl a3500 42 xv := (hdp3500 5 _ 42 (by kernel_rfl) rfl rfl).2 rfl
  refine op_fn (vs := [(ptr p 0), xv]) ok84 ⟨(ev_base hN3500 rfl q3500_41), ⟨(ev_base hN3500 rfl q3500_42), trivial⟩⟩ (wayI hx ok oc ks hs (by omega) (hxr.mono (Nat.zero_le _) (by omega))) ?_
  rintro _ w3501 ⟨E3502, rfl⟩
  have E3502 := grown_of_below E3502
  have z_w3501 := E3502.size
  have hx := hx.keep0 E3502
  have ok := ok.keep0 E3502
  have oc := oc.keep0 E3502
  have ks : ∀ x9 ∈ K, Own w3501 0 5 1 x9.1 x9.2.length (x9.2.map u8v) := fun x9 hx9 => (ks x9 hx9).keep0 E3502
  have hoc := hoc.keep0 E3502
  have hxr := hxr.keep0 E3502
  have hA := hA.keepG (Gr.of0 E3502 NoB) (fun _ _ h => h) (NoK.no _)
  have hb := hb.step0 E3502
  refine ke_end rfl (by decide) rfl hx ?_
  intro w3503 E3503 _ a3503 hN3503 hbs3503 hdp3503 o_ ho_; obtain rfl := Option.some.inj ho_
  have z_w3503 := E3503.size
  have hx := hx.keep0 E3503
  have ok := ok.keep0 E3503
  have oc := oc.keep0 E3503
  have ks : ∀ x9 ∈ K, Own w3503 0 5 1 x9.1 x9.2.length (x9.2.map u8v) := fun x9 hx9 => (ks x9 hx9).keep0 E3503
  have hoc := hoc.keep0 E3503
  have hxr := hxr.keep0 E3503
  have hA := hA.keepG (Gr.of0 E3503 NoB) (fun _ _ h => h) (NoK.no _)
  have hb := hb.step0 E3503
  have q3503_40 : Sl a3503 40 cv := (hdp3503 3 _ 40 (by kernel_rfl) rfl rfl).2 rfl
  have q3503_43 : Sl a3503 43 (Value.int .i64 (((way (K.map Prod.snd) x) : Nat) : Int)) := (Option.some.inj ((hdp3503 6 _ 43 (by kernel_rfl) rfl rfl).1 0 rfl)).symm
  refine op_slice_rd (lo := ((way (K.map Prod.snd) x))) (hi := P.length) slt113 (ev_base hN3503 rfl q3503_40) hoc (.inr ⟨_, _, rfl, (ev_base hN3503 rfl q3503_43)⟩) (.inl ⟨rfl, rfl⟩) (by omega) (by omega) ?_
  intro v3504 hR3505
  have hR3505 : RdC w3503 0 B 1 v3504 ((P.drop (way (K.map Prod.snd) x)).length) (((P.drop (way (K.map Prod.snd) x))).flatMap cN) := by exact hR3505.cast (by simp) (by rw [flat_drop cN_len, List.take_of_length_le (by rw [flat_len9 cN_len]; simp)])
  refine ke_end rfl (by decide) rfl hx ?_
  intro w3506 E3506 _ a3506 hN3506 hbs3506 hdp3506 o_ ho_; obtain rfl := Option.some.inj ho_
  have z_w3506 := E3506.size
  have hx := hx.keep0 E3506
  have ok := ok.keep0 E3506
  have oc := oc.keep0 E3506
  have ks : ∀ x9 ∈ K, Own w3506 0 5 1 x9.1 x9.2.length (x9.2.map u8v) := fun x9 hx9 => (ks x9 hx9).keep0 E3506
  have hoc := hoc.keep0 E3506
  have hxr := hxr.keep0 E3506
  have hA := hA.keepG (Gr.of0 E3506 NoB) (fun _ _ h => h) (NoK.no _)
  have hR3505 := hR3505.keep0 E3506
  have hb := hb.step0 E3506
  have q3506_44 : Sl a3506 44 v3504 := (Option.some.inj ((hdp3506 7 _ 44 (by kernel_rfl) rfl rfl).1 1 rfl)).symm
  refine op_len_rd Try.underlying113 (ev_base hN3506 rfl q3506_44) hR3505 ?_
  refine ke_end rfl (by decide) rfl hx ?_
  intro w3507 E3507 a3507 hN3507 hd3507 hbs3507 hph3507
  have hd3507 := hd3507.trans ((by simp only [putsL_defers] : _ = _).trans hd)
  have z_w3507 := E3507.size
  have hx := hx.keep0 E3507
  have ok := ok.keep0 E3507
  have oc := oc.keep0 E3507
  have ks : ∀ x9 ∈ K, Own w3507 0 5 1 x9.1 x9.2.length (x9.2.map u8v) := fun x9 hx9 => (ks x9 hx9).keep0 E3507
  have hoc := hoc.keep0 E3507
  have hxr := hxr.keep0 E3507
  have hA := hA.keepG (Gr.of0 E3507 NoB) (fun _ _ h => h) (NoK.no _)
  have hR3505 := hR3505.keep0 E3507
  have hb := hb.step0 E3507
  have s3507_1 := (hbs3507 1 rfl).trans (sl_base hN rfl s1)
  have s3507_2 := (hbs3507 2 rfl).trans (sl_base hN rfl s2)
  have s3507_6 := (hbs3507 6 rfl).trans (sl_hit hN rfl)
  have s3507_44 : Sl a3507 44 v3504 := (Option.some.inj ((hph3507 7 _ 44 rfl rfl).1 1 rfl)).symm
  have s3507_45 : Sl a3507 45 (Value.int .i64 ((((P.drop (way (K.map Prod.snd) x)).length) : Nat) : Int)) := (Option.some.inj ((hph3507 8 _ 45 rfl rfl).1 2 rfl)).symm
  have s3507_46 : Sl a3507 46 (Value.int .i64 0) := (hph3507 9 _ 46 rfl rfl).2 rfl
  refine hK3499 _ _ ?_
  refine wp_block ?_
  refine loop_m (fun mz_ az_ w' => ∃ (j : Nat) (D2 : List (DP (Int))) (FA : Nat → Prop), mz_ = (P.drop (way (K.map Prod.snd) x)).length - j ∧ (az_.tmps.getD 1 undef = xv) ∧ (az_.tmps.getD 2 undef = (Value.func (.func 50) #[] #[(ptr ob 0), (ptr lb 0)])) ∧ (az_.tmps.getD 44 undef = v3504) ∧ (az_.tmps.getD 45 undef = (Value.int .i64 ((((P.drop (way (K.map Prod.snd) x)).length) : Nat) : Int))) ∧ (az_.tmps.getD 46 undef = (Value.int .i64 ((j : Nat) : Int))) ∧ (j ≤ (P.drop (way (K.map Prod.snd) x)).length) ∧ (D2.map Prod.snd = (((cs.drop (way (K.map Prod.snd) x)).take j).flatMap fun c => geL x (toL h c))) ∧ (D.length + (((cs.drop (way (K.map Prod.snd) x)).take j).flatMap fun c => geL x (toL h c)).length < lim) ∧ (Gr w w' (fun k => B ≤ k)) ∧ (w3507.heap.size ≤ w'.heap.size) ∧ (RdC w' 0 B 1 cv P.length (P.flatMap cN)) ∧ (RdC w' 0 B 1 xv x.length (x.map u8v)) ∧ (RdC w' 0 B 1 v3504 ((P.drop (way (K.map Prod.snd) x)).length) (((P.drop (way (K.map Prod.snd) x))).flatMap cN)) ∧ (AccR kI 48 B ob lb (lim : Int) w' (D ++ D2) FA)) _ hN3507 hd3507 ⟨0, [], F, rfl, (sl_base hN3507 rfl s3507_1), (sl_base hN3507 rfl s3507_2), (sl_base hN3507 rfl s3507_44), (sl_base hN3507 rfl s3507_45), (sl_base hN3507 rfl s3507_46), (Nat.zero_le _), rfl, (by simpa using hD), hb, (Nat.le_refl _), hoc, hxr, hR3505, (by simpa using hA)⟩ ?_
  rintro _ a3508 w3508 hN3508 hd3508 ⟨j, D2, FA, rfl, s3508_1, s3508_2, s3508_44, s3508_45, s3508_46, hj, hD2, hlt, hb, zl_w3508, hoc, hxr, hR3505, hAj⟩
  have z_w3508 := hb.size
  refine seq_any fun K3509 hK3509 => ?_
  refine one_reg ?_
  refine op_lss (ev_base hN3508 rfl s3508_46) (ev_base hN3508 rfl s3508_45) (fun c47 => ?_) (fun c47 => ?_)
  · -- 47T
   refine reg_nil ?_
   refine hK3509 _ _ ?_
   refine seq_any fun K3510 hK3510 => ?_
   refine wp_cond_true (ev_hit hN3508 rfl) ?_
   refine wp_skip ?_
   refine hK3510 _ _ ?_
   refine seq_any fun K3511 hK3511 => ?_
   refine wp_block ?_
   refine seq_any fun K3512 hK3512 => ?_
   refine one_reg ?_
   refine op_index_rd slt113 (ev_base hN3508 rfl s3508_44) hR3505 (ev_base hN3508 rfl s3508_46) (by omega) (by omega) ?_
   intro b3513 o3514 h0b3513 h1b3513 hc3515
   refine op_load1 (v := (ptr ((P.drop (way (K.map Prod.snd) x)).getD j default) 0)) one69 (ev_hit hN3508 rfl) (by have := hc3515 0 (ptr ((P.drop (way (K.map Prod.snd) x)).getD j default) 0) (by decide) (el_pn (i := j) (by omega) (by first | omega | (simp only [List.length_drop, List.length_take]; omega))); simpa using this) ?_
   refine op_assign (ev_hit hN3508 rfl) ?_
   refine reg_nil ?_
   refine hK3512 _ _ ?_
   refine seq_any fun K3516 hK3516 => ?_
   refine one_reg ?_
   refine op_move (ev_hit hN3508 rfl) ?_
   refine op_move (ev_base hN3508 rfl s3508_1) ?_
   refine op_move (ev_base hN3508 rfl s3508_2) ?_
   have hl2 : D2.length = (((cs.drop (way (K.map Prod.snd) x)).take j).flatMap fun c => geL x (toL h c)).length := by have := congrArg List.length hD2; simpa using this
   obtain ⟨c, hc, hcO, _⟩ := hO.at (i := (way (K.map Prod.snd) x) + j) (by simp; omega)
   obtain ⟨f, hf, hfG⟩ := Kids.get hKs hc
   have hTn : TreeR kI R w3508 h (P.getD ((way (K.map Prod.snd) x) + j) default) c f := TreeR.later hf hb (fun k hk => hW k (hNd.wg k (hfG k hk))) hR
   have hpe : (P.drop (way (K.map Prod.snd) x)).getD j default = P.getD ((way (K.map Prod.snd) x) + j) default := by simp [List.getD_eq_getElem?_getD]
   rw [← hpe] at hTn
   have hmj : (((cs.drop (way (K.map Prod.snd) x)).take (j + 1)).flatMap fun c => geL x (toL h c)) = (((cs.drop (way (K.map Prod.snd) x)).take j).flatMap fun c => geL x (toL h c)) ++ geL x (toL h c) := scan_more hc
   refine op_fn (vs := [(ptr ((P.drop (way (K.map Prod.snd) x)).getD j default) 0), xv, (Value.func (.func 50) #[] #[(ptr ob 0), (ptr lb 0)])]) ok49 ⟨(ev_hit hN3508 rfl), ⟨(ev_hit hN3508 rfl), ⟨(ev_hit hN3508 rfl), trivial⟩⟩⟩ (IH hTn hcO (by have := (hz c (List.mem_of_getElem? hc)).2; omega) (fun k hk => hW k (hNd.wg k (hfG k hk))) hR (fun q hq => hkl q (List.mem_flatMap.2 ⟨c, List.mem_of_getElem? hc, hq⟩)) hxr hAj (by omega) (by rw [List.length_append]; omega) hlim (by have h9 := scan_room (x := x) hc; rw [List.length_append]; omega)) ?_
   rintro _ w3518 ⟨E3519, rfl, E2_3517, F2_3517, hA3517, hE3517⟩
   have z_w3518 := E3519.size
   have hoc := hoc.keepG E3519 (fun k hk => .inr hk)
   have hxr := hxr.keepG E3519 (fun k hk => .inr hk)
   have hR3505 := hR3505.keepG E3519 (fun k hk => .inr hk)
   have hb := hb.go E3519 (fun k _ h => h)
   rcases Bool.eq_false_or_eq_true ((decide (((D ++ D2)).length + (geL x (toL h c)).length < lim))) with c53 | c53
   · -- 53T
    rw [c53]
    refine op_not (ev_hit hN3508 rfl) ?_
    refine reg_nil ?_
    refine hK3516 _ _ ?_
    refine wp_cond_false (ev_hit hN3508 rfl) ?_
    refine wp_skip ?_
    refine hK3511 _ _ ?_
    refine one_reg ?_
    refine op_add (ev_base hN3508 rfl s3508_46) rfl (add64 (by omega)) ?_
    refine op_move (ev_hit hN3508 rfl) ?_
    refine reg_nil ?_
    -- round 47T 53T
    exact loop_next _ hN3508 hd3508 ⟨(j + 1), (D2 ++ E2_3517), F2_3517, rfl, (sl_base hN3508 rfl s3508_1), (sl_base hN3508 rfl s3508_2), (sl_base hN3508 rfl s3508_44), (sl_base hN3508 rfl s3508_45), (sl_hit hN3508 rfl).trans (congrArg (Value.int .i64) (by omega)), (by omega), (by rw [hmj, List.map_append, hD2, hE3517, List.take_of_length_le (l := geL x (toL h c)) (by have h9 := of_decide_eq_true c53; rw [List.length_append] at h9 ⊢; omega)]), (by have h9 := of_decide_eq_true c53; rw [hmj]; rw [List.length_append] at h9 ⊢; omega), hb, (by omega), hoc, hxr, hR3505, (by simpa using hA3517)⟩ (by omega)
   · -- 53F
    rw [c53]
    refine op_not (ev_hit hN3508 rfl) ?_
    refine reg_nil ?_
    refine hK3516 _ _ ?_
    refine wp_cond_true (ev_hit hN3508 rfl) ?_
    refine seq_any fun K3520 hK3520 => ?_
    refine one_reg ?_
    refine op_assign rfl ?_
    refine reg_nil ?_
    refine hK3520 _ _ ?_
    refine wp_ret (blk_ret (then_ret (then_ret (blk_ret (then_ret ( ?_))))))
    refine ret1 rfl hd3508 (ev_hit hN3508 rfl) ⟨_, rfl, ?_⟩
    -- path 47T 53F
    have h9 := of_decide_eq_false c53
    rw [List.length_append] at h9
    have hle : (((cs.drop (way (K.map Prod.snd) x)).take (j + 1)).flatMap fun c => geL x (toL h c)).length ≤ ((cs.drop (way (K.map Prod.snd) x)).flatMap fun c => geL x (toL h c)).length := scan_le
    exact ⟨hb, congrArg Value.bool (decide_eq_false (by rw [hmj, List.length_append] at hle; omega)).symm, D2 ++ E2_3517, F2_3517, by simpa using hA3517, by rw [scan_cut (j := j + 1) (by rw [hmj, List.length_append]; omega), hmj, List.map_append, hD2, hE3517, List.take_append, List.take_of_length_le (l := (((cs.drop (way (K.map Prod.snd) x)).take j).flatMap fun c => geL x (toL h c))) (by omega), List.length_append, hl2, Nat.sub_add_eq]⟩
  · -- 47F
   refine reg_nil ?_
   refine hK3509 _ _ ?_
   refine seq_any fun K3521 hK3521 => ?_
   refine wp_cond_false (ev_hit hN3508 rfl) ?_
   refine wp_exit (then_exit (then_exit (blk_hit ?_)))
   refine hK3498 _ _ ?_
   refine seq_any fun K3522 hK3522 => ?_
   refine one_reg ?_
   refine op_assign rfl ?_
   refine reg_nil ?_
   refine hK3522 _ _ ?_
   refine wp_ret ?_
   refine ret1 rfl hd3508 (ev_hit hN3508 rfl) ⟨_, rfl, ?_⟩
   -- path 47F
   have hall : (((cs.drop (way (K.map Prod.snd) x)).take j).flatMap fun c => geL x (toL h c)) = ((cs.drop (way (K.map Prod.snd) x)).flatMap fun c => geL x (toL h c)) := by rw [List.take_of_length_le (by simp; simp at hj; omega)]
   rw [hall] at hD2 hlt
   exact ⟨hb, congrArg Value.bool (decide_eq_true hlt).symm, D2, FA, hAj, by rw [hD2, List.take_of_length_le (by omega)]⟩

end Go.Proofs.Ytcpfdfejojghbaa

/- Walks, written by a program: what each function of the translation hands back. -/
namespace Go.Proofs.Ytcpfdfejojghbaa
open Go.Gx Go.RowKit
attribute [local irreducible] wpList wpStill Code.wp Calls
open Go.Bt
end Go.Proofs.Ytcpfdfejojghbaa

/- Walks, written by a program: what each function of the translation hands back. -/
namespace Go.Proofs.Ytcpfdfejojghbaa
open Go.Gx Go.RowKit
attribute [local irreducible] wpList wpStill Code.wp Calls
open Go.Bt
theorem scanAllI : ∀ h, ScanI h
  | 0 => scan0I
  | h + 1 => by
    intro x xv p ob lb B lim t R W F D w T hO h6 hW hR hkl hxr hA hB hD hlim hDM
    obtain ⟨kv, cv, K, P, G, hN, hKs, e⟩ := T
    obtain ⟨kl, cs⟩ := t
    have e' : K.map Prod.snd = kl := e
    subst e'
    obtain ⟨h1, h2⟩ := ok_node.1 hO
    have hg : geL x (toL (h + 1) ((K.map Prod.snd, cs) : Tr (Int) (h + 1))) = (cs.drop (way (K.map Prod.snd) x)).flatMap (fun c => geL x (toL h c)) := geL_node h1
    rw [hg]
    exact scanNI (scanAllI h) hN hKs h1 h2 (by have h9 : (K.map Prod.snd).length ≤ 6 := h6; simpa using h9) hW hR hkl hxr hA hB hD hlim hDM
end Go.Proofs.Ytcpfdfejojghbaa

/- Walks, written by a program: what each function of the translation hands back. -/
namespace Go.Proofs.Ytcpfdfejojghbaa
open Go.Gx Go.RowKit
attribute [local irreducible] wpList wpStill Code.wp Calls
open Go.Bt
theorem scanT0I {p : Nat} {m : Int} {xv : Value} {w : World} (hx : Bx w p 71 [.pointer none]) : Ret Try.prog 24 #[(ptr p 0), xv, (Value.int .i64 m)] w (fun v' w' => Below w.heap.size w w' ∧ v' = .slice none 0 0) := by
 have hb := Below.refl w.heap.size w
 refine enter (N := 29) Try.func24 rfl rfl (by simp) fun a0 hN hd hA => ?_
 have s0 : a0.tmps.getD 0 undef = (ptr p 0) := hA 0 (by simp)
 have s1 : a0.tmps.getD 1 undef = xv := hA 1 (by simp)
 have s2 : a0.tmps.getD 2 undef = (Value.int .i64 m) := hA 2 (by simp)
 clear hA
 refine seq_any fun K3579 hK3579 => ?_
 refine one_reg ?_
 refine op_box (cs := [(Value.int .i64 m)]) (ev_base hN rfl s2) rfl ?_
 intro w3580 b3581 lo_b3581 hi_b3581 hB3583 E3582
 have z_w3580 := E3582.size
 have hx := hx.keep0 E3582
 have hb := below_step0 hb E3582 hb.size
 refine op_assign rfl ?_
 refine reg_nil ?_
 refine hK3579 _ _ ?_
 refine seq_any fun K3584 hK3584 => ?_
 refine seq_any fun K3585 hK3585 => ?_
 refine one_reg ?_
 refine op_move (ev_base hN rfl s0) ?_
 refine op_peq_some ptrt45 (ev_hit hN rfl) rfl ?_
 refine op_move (ev_hit hN rfl) ?_
 refine g_true (j := 2) (dj := 10) (b := false) rfl rfl rfl (ev_hit hN rfl) ?_
 refine op_move (ev_base hN rfl s0) ?_
 refine g_true (j := 2) (dj := 10) (b := false) rfl rfl rfl (ev_hit hN rfl) ?_
 refine op_nil (ev_hit hN rfl) ?_
 refine g_true (j := 2) (dj := 10) (b := false) rfl rfl rfl (ev_hit hN rfl) ?_
 refine op_field fld71_0 (ev_hit hN rfl) ?_
 refine g_true (j := 2) (dj := 10) (b := false) rfl rfl rfl (ev_hit hN rfl) ?_
 refine op_load1 (v := (Value.pointer none)) one69 (ev_hit hN rfl) (hx.cell rfl) ?_
 refine g_true (j := 2) (dj := 10) (b := false) rfl rfl rfl (ev_hit hN rfl) ?_
 refine op_peq_none ptrt69 (ev_hit hN rfl) rfl ?_
 refine op_pick_f (ev_hit hN rfl) (ev_hit hN rfl) ?_
 refine op_move (ev_hit hN rfl) ?_
 refine g_false (j := 9) (dj := 17) (b := false) rfl rfl rfl (ev_hit hN rfl) rfl rfl ?_
 refine g_false (j := 9) (dj := 17) (b := false) rfl rfl rfl (ev_hit hN rfl) rfl rfl ?_
 refine op_pick_t (ev_hit hN rfl) rfl ?_
 refine reg_nil ?_
 refine hK3585 _ _ ?_
 refine wp_cond_true (ev_hit hN rfl) ?_
 refine seq_any fun K3586 hK3586 => ?_
 refine one_reg ?_
 refine op_assign rfl ?_
 refine reg_nil ?_
 refine hK3586 _ _ ?_
 refine wp_ret (then_ret ( ?_))
 refine ret1 rfl hd (ev_hit hN rfl) ⟨_, rfl, ?_⟩
 -- path
 exact ⟨hb, rfl⟩

theorem scanT1I {x : List UInt8} {xv : Value} {p q h lim : Nat} {t : Tr (Int) h} {R W : Nat → Prop} {w : World} (hx : Bx w p 71 [ptr q 0]) (hT : TreeR kI R w h q t W) (hO : Ok h t) (h6 : szT h t ≤ 6) (hR : ∀ k, R k → k < w.heap.size) (hkl : ∀ q ∈ toL h t, q.1.length ≤ 1000000000) (hxr : RdC w 0 w.heap.size 1 xv x.length (x.map u8v)) (h1 : 1 ≤ lim) (hlim : lim ≤ 9223372036854775807) (hDM : (toL h t).length ≤ 100000) : Ret Try.prog 24 #[(ptr p 0), xv, (Value.int .i64 ((lim : Nat) : Int))] w (fun v' w' => Below w.heap.size w w' ∧ ∃ D2 : List (DP (Int)), Own w' w.heap.size 51 2 v' D2.length (D2.flatMap cI) ∧ (∀ x9 ∈ D2.map pk, Own w' w.heap.size 5 1 x9.1 x9.2.length (x9.2.map u8v)) ∧ D2.map Prod.snd = (geL x (toL h t)).take lim ∧ (D2.map pk).Pairwise (fun a b => Dj (Bl a.1) (Bl b.1))) := by
 have hb := Below.refl w.heap.size w
 refine enter (N := 29) Try.func24 rfl rfl (by simp) fun a0 hN hd hA => ?_
 have s0 : a0.tmps.getD 0 undef = (ptr p 0) := hA 0 (by simp)
 have s1 : a0.tmps.getD 1 undef = xv := hA 1 (by simp)
 have s2 : a0.tmps.getD 2 undef = (Value.int .i64 ((lim : Nat) : Int)) := hA 2 (by simp)
 clear hA
 refine seq_any fun K3587 hK3587 => ?_
 refine one_reg ?_
 refine op_box (cs := [(Value.int .i64 ((lim : Nat) : Int))]) (ev_base hN rfl s2) rfl ?_
 intro w3588 b3589 lo_b3589 hi_b3589 hB3591 E3590
 have z_w3588 := E3590.size
 have hx := hx.keep0 E3590
 have hxr := hxr.keep0 E3590
 have hb := below_step0 hb E3590 hb.size
 refine op_assign rfl ?_
 refine reg_nil ?_
 refine hK3587 _ _ ?_
 refine seq_any fun K3592 hK3592 => ?_
 refine seq_any fun K3593 hK3593 => ?_
 refine one_reg ?_
 refine op_move (ev_base hN rfl s0) ?_
 refine op_peq_some ptrt45 (ev_hit hN rfl) rfl ?_
 refine op_move (ev_hit hN rfl) ?_
 refine g_true (j := 2) (dj := 10) (b := false) rfl rfl rfl (ev_hit hN rfl) ?_
 refine op_move (ev_base hN rfl s0) ?_
 refine g_true (j := 2) (dj := 10) (b := false) rfl rfl rfl (ev_hit hN rfl) ?_
 refine op_nil (ev_hit hN rfl) ?_
 refine g_true (j := 2) (dj := 10) (b := false) rfl rfl rfl (ev_hit hN rfl) ?_
 refine op_field fld71_0 (ev_hit hN rfl) ?_
 refine g_true (j := 2) (dj := 10) (b := false) rfl rfl rfl (ev_hit hN rfl) ?_
 refine op_load1 (v := (ptr q 0)) one69 (ev_hit hN rfl) (hx.cell rfl) ?_
 refine g_true (j := 2) (dj := 10) (b := false) rfl rfl rfl (ev_hit hN rfl) ?_
 refine op_peq_some ptrt69 (ev_hit hN rfl) rfl ?_
 refine op_pick_f (ev_hit hN rfl) (ev_hit hN rfl) ?_
 refine op_move (ev_hit hN rfl) ?_
 refine g_true (j := 9) (dj := 17) (b := false) rfl rfl rfl (ev_hit hN rfl) ?_
 refine op_load1 (v := (Value.int .i64 ((lim : Nat) : Int))) one3 (ev_hit hN rfl) (hB3591.cell rfl) ?_
 refine g_true (j := 9) (dj := 17) (b := false) rfl rfl rfl (ev_hit hN rfl) ?_
 refine op_lss (ev_hit hN rfl) rfl (fun c19 => ?_) (fun c19 => ?_)
 · -- 19T
  exfalso; omega
 · -- 19F
  refine op_pick_f (ev_hit hN rfl) (ev_hit hN rfl) ?_
  refine reg_nil ?_
  refine hK3593 _ _ ?_
  refine wp_cond_false (ev_hit hN rfl) ?_
  refine wp_skip ?_
  refine hK3592 _ _ ?_
  refine seq_any fun K3594 hK3594 => ?_
  refine one_reg ?_
  refine op_alloc (cs := [(Value.slice none 0 0)]) zero48 rfl ?_
  intro w3595 b3596 lo_b3596 hi_b3596 hB3598 E3597
  have z_w3595 := E3597.size
  have hx := hx.keep0 E3597
  have hxr := hxr.keep0 E3597
  have hB3591 := hB3591.keep0 E3597
  have hb := below_step0 hb E3597 hb.size
  refine reg_nil ?_
  refine hK3594 _ _ ?_
  refine seq_any fun K3599 hK3599 => ?_
  refine one_reg ?_
  refine op_move (ev_base hN rfl s0) ?_
  refine op_nil (ev_hit hN rfl) ?_
  refine op_field fld71_0 (ev_hit hN rfl) ?_
  refine op_load1 (v := (ptr q 0)) one69 (ev_hit hN rfl) (hx.cell rfl) ?_
  refine op_move (ev_base hN rfl s1) ?_
  refine op_mkfn (cv := [(ptr b3596 0), (ptr b3589 0)]) ⟨(ev_hit hN rfl), ⟨(ev_hit hN rfl), trivial⟩⟩ ?_
  refine op_fn (vs := [(ptr q 0), xv, (Value.func (.func 50) #[] #[(ptr b3596 0), (ptr b3589 0)])]) ok49 ⟨(ev_hit hN rfl), ⟨(ev_hit hN rfl), ⟨(ev_hit hN rfl), trivial⟩⟩⟩ (scanAllI h (TreeR.later (B := w.heap.size) hT (Gr.ofBelow hb _) hT.ty.lt hR) hO h6 hT.ty.lt hR hkl hxr (show AccR kI 48 w.heap.size b3596 b3589 (lim : Int) w3595 [] (fun k => k = b3596 ∨ k = b3589 ∨ Bl (.slice none 0 0) k) from ⟨by omega, by omega, by omega, ⟨_, hB3598, Own.nil _ _ _ _, fun _ => Iff.rfl⟩, hB3591, fun _ h => (by cases h), List.Pairwise.nil⟩) hb.size (show 0 < lim by omega) hlim (by simpa using hDM)) ?_
  rintro _ w3601 ⟨E3602, rfl, D2_3600, F2_3600, hA3600, hE3600⟩
  have z_w3601 := E3602.size
  have hb := below_stepG hb E3602 hb.size (fun k hk => hk)
  obtain ⟨_, _, _, ⟨ov3600, hob3600, hOv3600, _⟩, _, hks3600, hpw9⟩ := hA3600
  refine reg_nil ?_
  refine hK3599 _ _ ?_
  refine seq_any fun K3603 hK3603 => ?_
  refine one_reg ?_
  refine op_load1 (v := ov3600) one48 (ev_hit hN rfl) (hob3600.cell rfl) ?_
  refine op_assign (ev_hit hN rfl) ?_
  refine reg_nil ?_
  refine hK3603 _ _ ?_
  refine wp_ret ?_
  refine ret1 rfl hd (ev_hit hN rfl) ⟨_, rfl, ?_⟩
  -- path 19F
  exact ⟨hb, D2_3600, hOv3600, hks3600, by simpa using hE3600, hpw9⟩

theorem scanT2I {p q : Nat} {m : Int} {xv : Value} {w : World} (hx : Bx w p 71 [ptr q 0]) (hm : m < 1) : Ret Try.prog 24 #[(ptr p 0), xv, (Value.int .i64 m)] w (fun v' w' => Below w.heap.size w w' ∧ v' = .slice none 0 0) := by
 have hb := Below.refl w.heap.size w
 refine enter (N := 29) Try.func24 rfl rfl (by simp) fun a0 hN hd hA => ?_
 have s0 : a0.tmps.getD 0 undef = (ptr p 0) := hA 0 (by simp)
 have s1 : a0.tmps.getD 1 undef = xv := hA 1 (by simp)
 have s2 : a0.tmps.getD 2 undef = (Value.int .i64 m) := hA 2 (by simp)
 clear hA
 refine seq_any fun K3654 hK3654 => ?_
 refine one_reg ?_
 refine op_box (cs := [(Value.int .i64 m)]) (ev_base hN rfl s2) rfl ?_
 intro w3655 b3656 lo_b3656 hi_b3656 hB3658 E3657
 have z_w3655 := E3657.size
 have hx := hx.keep0 E3657
 have hb := below_step0 hb E3657 hb.size
 refine op_assign rfl ?_
 refine reg_nil ?_
 refine hK3654 _ _ ?_
 refine seq_any fun K3659 hK3659 => ?_
 refine seq_any fun K3660 hK3660 => ?_
 refine one_reg ?_
 refine op_move (ev_base hN rfl s0) ?_
 refine op_peq_some ptrt45 (ev_hit hN rfl) rfl ?_
 refine op_move (ev_hit hN rfl) ?_
 refine g_true (j := 2) (dj := 10) (b := false) rfl rfl rfl (ev_hit hN rfl) ?_
 refine op_move (ev_base hN rfl s0) ?_
 refine g_true (j := 2) (dj := 10) (b := false) rfl rfl rfl (ev_hit hN rfl) ?_
 refine op_nil (ev_hit hN rfl) ?_
 refine g_true (j := 2) (dj := 10) (b := false) rfl rfl rfl (ev_hit hN rfl) ?_
 refine op_field fld71_0 (ev_hit hN rfl) ?_
 refine g_true (j := 2) (dj := 10) (b := false) rfl rfl rfl (ev_hit hN rfl) ?_
 refine op_load1 (v := (ptr q 0)) one69 (ev_hit hN rfl) (hx.cell rfl) ?_
 refine g_true (j := 2) (dj := 10) (b := false) rfl rfl rfl (ev_hit hN rfl) ?_
 refine op_peq_some ptrt69 (ev_hit hN rfl) rfl ?_
 refine op_pick_f (ev_hit hN rfl) (ev_hit hN rfl) ?_
 refine op_move (ev_hit hN rfl) ?_
 refine g_true (j := 9) (dj := 17) (b := false) rfl rfl rfl (ev_hit hN rfl) ?_
 refine op_load1 (v := (Value.int .i64 m)) one3 (ev_hit hN rfl) (hB3658.cell rfl) ?_
 refine g_true (j := 9) (dj := 17) (b := false) rfl rfl rfl (ev_hit hN rfl) ?_
 refine op_lss (ev_hit hN rfl) rfl (fun c19 => ?_) (fun c19 => ?_)
 · -- 19T
  refine op_pick_f (ev_hit hN rfl) (ev_hit hN rfl) ?_
  refine reg_nil ?_
  refine hK3660 _ _ ?_
  refine wp_cond_true (ev_hit hN rfl) ?_
  refine seq_any fun K3661 hK3661 => ?_
  refine one_reg ?_
  refine op_assign rfl ?_
  refine reg_nil ?_
  refine hK3661 _ _ ?_
  refine wp_ret (then_ret ( ?_))
  refine ret1 rfl hd (ev_hit hN rfl) ⟨_, rfl, ?_⟩
  -- path 19T
  exact ⟨hb, rfl⟩
 · -- 19F
  exfalso; omega

end Go.Proofs.Ytcpfdfejojghbaa

/- Walks, written by a program: what each function of the translation hands back. -/
namespace Go.Proofs.Ytcpfdfejojghbaa
open Go.Gx Go.RowKit
attribute [local irreducible] wpList wpStill Code.wp Calls
open Go.Bt
theorem scanTopI {o : TO (Int)} {F : Nat → Prop} {x : List UInt8} {xv : Value} {p base : Nat} {m : Int} {w : World} (hT : TopR kI 71 base w p o F) (hkl : ∀ q ∈ toLO o, q.1.length ≤ 1000000000) (hxr : RdC w 0 w.heap.size 1 xv x.length (x.map u8v)) (hm : m ≤ 9223372036854775807) (hDM : (toLO o).length ≤ 100000) :
    Ret Try.prog 24 #[ptr p 0, xv, .int .i64 m] w (fun v' w' => Below w.heap.size w w' ∧ ∃ D2 : List (DP (Int)), Own w' w.heap.size 51 2 v' D2.length (D2.flatMap cI) ∧ (∀ x9 ∈ D2.map pk, Own w' w.heap.size 5 1 x9.1 x9.2.length (x9.2.map u8v)) ∧ D2.map Prod.snd = (geL x (toLO o)).take m.toNat ∧ (D2.map pk).Pairwise (fun a b => Dj (Bl a.1) (Bl b.1))) := by
  obtain ⟨hF, hlt, hO, root, hB', hr⟩ := hT
  rcases hr with ⟨rfl, rfl⟩ | ⟨q, R, W, rfl, hTO, hFW, hFR⟩
  · exact (scanT0I hB').mono fun v' w' h => by
      obtain ⟨hb, rfl⟩ := h
      exact ⟨hb, [], Own.nil _ _ _ _, fun _ h => (by cases h), by simp [toLO, geL], List.Pairwise.nil⟩
  · match o, hO, hTO, hkl, hDM with
    | some ⟨h, t⟩, hO, hTO, hkl, hDM =>
      rcases (by omega : m < 1 ∨ 1 ≤ m) with h1 | h1
      · exact (scanT2I hB' h1).mono fun v' w' h => by
          obtain ⟨hb, rfl⟩ := h
          exact ⟨hb, [], Own.nil _ _ _ _, fun _ h => (by cases h), by rw [show m.toNat = 0 by omega]; simp, List.Pairwise.nil⟩
      · obtain ⟨lim, rfl⟩ : ∃ lim : Nat, m = (lim : Int) := ⟨m.toNat, by omega⟩
        exact scanT1I hB' hTO hO.1 hO.2.2 (fun k hk => (hlt k (hFR k hk)).2) hkl hxr (by omega) (by omega) hDM
end Go.Proofs.Ytcpfdfejojghbaa

/- Two neighbouring kids: cut out, put back, joined; how a node lends and joins, plainly. -/
namespace Go.Gx
open Go.Bt Go.RowKit
section
variable {α : Type} {A : Nat → α → (Nat → Prop) → Prop} {ys9 : List α} {a b c d : α} {i : Nat} {P : List Nat} {G G0 f g : Nat → Prop}
end
end Go.Gx
namespace Go.Bt
section
variable {V : Type} {h i : Nat} {ks : List Ky} {cs : List (Tr V h)} {a b c : Tr V h}
end
end Go.Bt
namespace Go.Gx
open Go.Bt Go.RowKit
section
variable {V : Type} [Inhabited V] {h i : Nat} {K Ka Kb : List DK} {D Da Db : List (DP V)} {cs ta tb : List (Tr V h)} {w : World} {R : Nat → Prop}
end
section
variable {V : Type} {h i : Nat} {K Ka Kb : List DK} {D Da Db : List (DP V)} {cs ta tb : List (Tr V h)} {w : World} {R : Nat → Prop}
/-! blocks of unlike types are not the same -/
end
end Go.Gx

/- Small laws for walks, the forty-second part: where an element lies, told ahead; nothing appended to nothing. -/
namespace Go.Gx
open Go.RowKit
section
variable {P : Program} {Q : Exit → Act → World → Prop} {a : Act} {w w' w9 : World} {l : List (Nat × Value)} {ops : Array Oper} {rest : List Oper}
variable {d ty t e xt yt tx i : Nat} {p : String} {af : Array Edge} {x y : Operand} {v : Value} {k : IntKind} {n base sz by_ b o : Nat} {cs ws : List Value} {zv : Value} {r : Int}
/-- '[]byte("..")' of a constant: a row of bytes gets the mark of a conversion, behind its last cell. -/
theorem op_conv_bytes (ht : P.underlying t = some (.slice e)) (he : P.underlying e = some (.int .u8)) (hx : (putsL a l).eval x = .slice (some ⟨b, 0, none⟩) n n) (B : Bx w b e cs) (hl : cs.length = n) (hm : n ≤ maxLen) (hbase : base ≤ b)
    (h : ∀ w', Own w' base e 1 (.slice (some ⟨b, 0, none⟩) n n) n cs → w.grownBy w' (some b) → wpList P ops Q rest (putsL a ((d, .slice (some ⟨b, 0, none⟩) n n) :: l)) w') :
    wpList P ops Q (⟨some d, .convert t t x, ty, p, af, none⟩ :: rest) (putsL a l) w := by
  have hsh : w.shape? b = some (e, n) := by rw [← hl]; exact Bx.shape B
  have hr : (convert t t (.slice (some ⟨b, 0, none⟩) n n)).run P w = .ok (.slice (some ⟨b, 0, none⟩) n n) (w.freeze ⟨b, n, none⟩ 1) := by
    simp [convert, run_underlying ht, run_underlying he, markStringish, hsh]
  have B' : w.heap[b]? = some (.cells cs.toArray e (0, 0)) := B
  have hne : (1 : Nat) ≠ 0 := by decide
  refine op_gen (v := .slice (some ⟨b, 0, none⟩) n n) rfl (by simp only [execOp, hx, Sem.run_bind, hr, Result.andThen_ok, Sem.run_pure]; rfl) (h _ ?_ ?_)
  · refine ⟨by omega, .inr ⟨b, 0, n, cs.toArray, (n, n + 1), rfl, hbase, ?_, ?_, Nat.le_refl _, hm, ?_, ?_⟩⟩
    · unfold World.freeze
      rw [if_neg hne]
      show (w.heap.modify b _)[b]? = _
      rw [Array.getElem?_modify, if_pos rfl, B']
      rfl
    · intro j hj; simp at hj ⊢; omega
    · simp; omega
    · simp [← hl]
  · refine ⟨?_, ?_, ?_, ?_, fun k hk hn => ?_⟩
    · unfold World.freeze; rw [if_neg hne]
    · unfold World.freeze; rw [if_neg hne]
    · unfold World.freeze; rw [if_neg hne]
    · unfold World.freeze; rw [if_neg hne]; simp
    · unfold World.freeze
      rw [if_neg hne]
      show (w.heap.modify b _)[k]? = _
      rw [Array.getElem?_modify, if_neg (fun e => hn (by rw [e]))]
end
end Go.Gx

/- Walks, written by a program: what each function of the translation hands back. -/
namespace Go.Proofs.Ytcpfdfejojghbaa
open Go.Gx Go.RowKit
attribute [local irreducible] wpList wpStill Code.wp Calls
open Go.Bt
end Go.Proofs.Ytcpfdfejojghbaa

/- Walks, written by a program: what each function of the translation hands back. -/
namespace Go.Proofs.Ytcpfdfejojghbaa
open Go.Gx Go.RowKit
attribute [local irreducible] wpList wpStill Code.wp Calls
open Go.Bt
end Go.Proofs.Ytcpfdfejojghbaa

/- Walks, written by a program: what each function of the translation hands back. -/
namespace Go.Proofs.Ytcpfdfejojghbaa
open Go.Gx Go.RowKit
attribute [local irreducible] wpList wpStill Code.wp Calls
open Go.Bt
end Go.Proofs.Ytcpfdfejojghbaa

/- Walks, written by a program: what each function of the translation hands back. -/
namespace Go.Proofs.Ytcpfdfejojghbaa
open Go.Gx Go.RowKit
attribute [local irreducible] wpList wpStill Code.wp Calls
open Go.Bt
end Go.Proofs.Ytcpfdfejojghbaa

/- Walks, written by a program: what each function of the translation hands back. -/
namespace Go.Proofs.Ytcpfdfejojghbaa
open Go.Gx Go.RowKit
attribute [local irreducible] wpList wpStill Code.wp Calls
open Go.Bt
end Go.Proofs.Ytcpfdfejojghbaa

/- Walks, written by a program: what each function of the translation hands back. -/
namespace Go.Proofs.Ytcpfdfejojghbaa
open Go.Gx Go.RowKit
attribute [local irreducible] wpList wpStill Code.wp Calls
open Go.Bt
end Go.Proofs.Ytcpfdfejojghbaa

/- Walks, written by a program: what each function of the translation hands back. -/
namespace Go.Proofs.Ytcpfdfejojghbaa
open Go.Gx Go.RowKit
attribute [local irreducible] wpList wpStill Code.wp Calls
open Go.Bt
end Go.Proofs.Ytcpfdfejojghbaa

/- Walks, written by a program: what each function of the translation hands back. -/
namespace Go.Proofs.Ytcpfdfejojghbaa
open Go.Gx Go.RowKit
attribute [local irreducible] wpList wpStill Code.wp Calls
open Go.Bt
end Go.Proofs.Ytcpfdfejojghbaa

/- Walks, written by a program: what each function of the translation hands back. -/
namespace Go.Proofs.Ytcpfdfejojghbaa
open Go.Gx Go.RowKit
attribute [local irreducible] wpList wpStill Code.wp Calls
open Go.Bt
end Go.Proofs.Ytcpfdfejojghbaa

/- Dropping a key: leaves, and the root that is no more needed. -/
namespace Go.Gx
open Go.Bt Go.RowKit
section
variable {V : Type} {k : Ky} {D : List (DP V)}
variable {h i : Nat} {K : List DK} {ts : List (Tr V h)} {c : Tr V h}
variable {κ : Kd V} {R R' W F H : Nat → Prop} {w w' : World} {p q : Nat} {o : TO V} {t : Tr V h}
end
end Go.Gx

/- Walks, written by a program: what each function of the translation hands back. -/
namespace Go.Proofs.Ytcpfdfejojghbaa
open Go.Gx Go.RowKit
attribute [local irreducible] wpList wpStill Code.wp Calls
open Go.Bt
end Go.Proofs.Ytcpfdfejojghbaa

/- Walks, written by a program: what each function of the translation hands back. -/
namespace Go.Proofs.Ytcpfdfejojghbaa
open Go.Gx Go.RowKit
attribute [local irreducible] wpList wpStill Code.wp Calls
open Go.Bt
end Go.Proofs.Ytcpfdfejojghbaa

/- Walks, written by a program: what each function of the translation hands back. -/
namespace Go.Proofs.Ytcpfdfejojghbaa
open Go.Gx Go.RowKit
attribute [local irreducible] wpList wpStill Code.wp Calls
open Go.Bt
end Go.Proofs.Ytcpfdfejojghbaa

/- Walks, written by a program: what each function of the translation hands back. -/
namespace Go.Proofs.Ytcpfdfejojghbaa
open Go.Gx Go.RowKit
attribute [local irreducible] wpList wpStill Code.wp Calls
open Go.Bt
end Go.Proofs.Ytcpfdfejojghbaa

/- Walks, written by a program: what each function of the translation hands back. -/
namespace Go.Proofs.Ytcpfdfejojghbaa
open Go.Gx Go.RowKit
attribute [local irreducible] wpList wpStill Code.wp Calls
open Go.Bt
end Go.Proofs.Ytcpfdfejojghbaa

/- What trees have, as rising lists: putting, dropping, looking up. -/
namespace Go.Bt
section
variable {V : Type} {h : Nat} {k x y : Ky} {v : V} {o : TO V} {l : List (Ky × V)}
abbrev ks1 (l : List (Ky × V)) : List Ky := l.map Prod.fst
abbrev SortedL (l : List (Ky × V)) : Prop := Sorted (ks1 l)
def ltL (x : Ky) (l : List (Ky × V)) : List (Ky × V) := l.filter fun p => decide (p.1 < x)
def gtL (x : Ky) (l : List (Ky × V)) : List (Ky × V) := l.filter fun p => decide (x < p.1)
def putL (k : Ky) (v : V) (l : List (Ky × V)) : List (Ky × V) := ltL k l ++ (k, v) :: gtL k l
def getL (k : Ky) (l : List (Ky × V)) : Option V := (l.find? fun p => decide (p.1 = k)).map Prod.snd
theorem mem_ltL {p : Ky × V} : p ∈ ltL k l ↔ p ∈ l ∧ p.1 < k := by simp [ltL]
theorem mem_gtL {p : Ky × V} : p ∈ gtL k l ↔ p ∈ l ∧ k < p.1 := by simp [gtL]
theorem sub_sorted (P : Ky × V → Bool) (H : SortedL l) : SortedL (l.filter P) := List.Pairwise.sublist (List.Sublist.map _ List.filter_sublist) H
theorem sorted_app {a b : List (Ky × V)} : SortedL (a ++ b) ↔ SortedL a ∧ SortedL b ∧ ∀ p ∈ a, ∀ q ∈ b, p.1 < q.1 := by
  show List.Pairwise _ ((a ++ b).map Prod.fst) ↔ _
  rw [List.map_append, List.pairwise_append]
  refine and_congr Iff.rfl (and_congr Iff.rfl ⟨fun H p hp q hq => H _ (List.mem_map.2 ⟨p, hp, rfl⟩) _ (List.mem_map.2 ⟨q, hq, rfl⟩), fun H a ha b hb => ?_⟩)
  obtain ⟨p, hp, rfl⟩ := List.mem_map.1 ha
  obtain ⟨q, hq, rfl⟩ := List.mem_map.1 hb
  exact H p hp q hq
theorem sorted_cons {p : Ky × V} {b : List (Ky × V)} : SortedL (p :: b) ↔ (∀ q ∈ b, p.1 < q.1) ∧ SortedL b := by
  show List.Pairwise _ (p.1 :: b.map Prod.fst) ↔ _
  rw [List.pairwise_cons]
  refine and_congr ⟨fun H q hq => H _ (List.mem_map.2 ⟨q, hq, rfl⟩), fun H a ha => ?_⟩ Iff.rfl
  obtain ⟨q, hq, rfl⟩ := List.mem_map.1 ha
  exact H q hq
theorem putL_sorted (H : SortedL l) : SortedL (putL k v l) := by
  refine sorted_app.2 ⟨sub_sorted _ H, sorted_cons.2 ⟨fun q hq => (mem_gtL.1 hq).2, sub_sorted _ H⟩, fun p hp q hq => ?_⟩
  have h1 := (mem_ltL.1 hp).2
  rcases List.mem_cons.1 hq with rfl | hq
  · exact h1
  · have := (mem_gtL.1 hq).2; grind
theorem mem_putL {p : Ky × V} : p ∈ putL k v l ↔ p = (k, v) ∨ (p.1 ≠ k ∧ p ∈ l) := by
  unfold putL
  rw [List.mem_append, List.mem_cons, mem_ltL, mem_gtL]
  grind
theorem put_toL (H : OkO o) : toLO (putO k v o).2 = putL k v (toLO o) := by
  obtain ⟨a, _, b⟩ := putO_ok (k := k) (x := v) H
  exact sorted_ext (toLO_sorted a) (putL_sorted (toLO_sorted H)) fun p => (b p).trans mem_putL.symm
theorem has_iff : (ks1 l).contains k = true ↔ ∃ p ∈ l, p.1 = k := by rw [List.contains_iff_mem, List.mem_map]
theorem put_was (H : OkO o) : (putO k v o).1 = (ks1 (toLO o)).contains k := Bool.eq_iff_iff.2 ((putO_ok H).2.1.trans has_iff.symm)
/-! as positions -/
theorem pos_cons {ks : List Ky} {y : Ky} : pos (y :: ks) x = pos ks x + if y < x then 1 else 0 := by
  unfold pos; rw [List.countP_cons]; simp
theorem pos_zero {ks : List Ky} (h : ∀ y ∈ ks, ¬ y < x) : pos ks x = 0 := by
  unfold pos; rw [List.countP_eq_zero]; intro a ha; simpa using h a ha
theorem ltL_take : ∀ {l : List (Ky × V)}, SortedL l → ltL x l = l.take (pos (ks1 l) x)
  | [], _ => rfl
  | p :: l, H => by
    obtain ⟨h1, h2⟩ := sorted_cons.1 H
    have ih := ltL_take h2
    have e : pos (ks1 (p :: l)) x = pos (ks1 l) x + if p.1 < x then 1 else 0 := pos_cons
    rw [e]
    by_cases hp : p.1 < x
    · rw [if_pos hp, List.take_succ_cons, ← ih]; simp [ltL, hp]
    · rw [if_neg hp]
      have z : pos (ks1 l) x = 0 := pos_zero fun y hy => by
        obtain ⟨q, hq, rfl⟩ := List.mem_map.1 hy
        have := h1 q hq; grind
      rw [z] at ih ⊢
      show ltL x (p :: l) = []
      have : ltL x (p :: l) = ltL x l := by simp [ltL, hp]
      rw [this, ih]; rfl
theorem gtL_drop : ∀ {l : List (Ky × V)}, SortedL l → gtL x l = l.drop (pos (ks1 l) x + if (ks1 l).contains x then 1 else 0)
  | [], _ => rfl
  | p :: l, H => by
    obtain ⟨h1, h2⟩ := sorted_cons.1 H
    have ih := gtL_drop h2
    have e : pos (ks1 (p :: l)) x = pos (ks1 l) x + if p.1 < x then 1 else 0 := pos_cons
    have ec : (ks1 (p :: l)).contains x = (x == p.1 || (ks1 l).contains x) := rfl
    rw [e, ec]
    by_cases hp : p.1 < x
    · rw [if_pos hp]
      have e1 : (x == p.1) = false := by simp only [beq_eq_false_iff_ne]; intro e; grind
      rw [e1, Bool.false_or, show ∀ a b : Nat, a + 1 + b = a + b + 1 by intro a b; omega, List.drop_succ_cons, ← ih]
      have : ¬ x < p.1 := by grind
      simp [gtL, this]
    · rw [if_neg hp]
      have z : pos (ks1 l) x = 0 := pos_zero fun y hy => by
        obtain ⟨q, hq, rfl⟩ := List.mem_map.1 hy
        have := h1 q hq; grind
      have c : (ks1 l).contains x = false := by
        rw [Bool.eq_false_iff]; intro h
        obtain ⟨q, hq, rfl⟩ := has_iff.1 h
        exact hp (h1 q hq)
      have a : gtL x l = l := by rw [ih, z, c]; rfl
      rw [z, c, Bool.or_false]
      by_cases hx : x = p.1
      · subst hx
        have : ¬ p.1 < p.1 := by grind
        simp only [beq_self_eq_true, if_true, Nat.zero_add, List.drop_succ_cons, List.drop_zero]
        rw [← a]; simp [gtL, this]
      · have e1 : (x == p.1) = false := by simpa using hx
        rw [e1]
        have : x < p.1 := by grind
        show gtL x (p :: l) = p :: l
        have e2 : gtL x (p :: l) = p :: gtL x l := by simp [gtL, this]
        rw [e2, a]
theorem putL_pos (H : SortedL l) : putL k v l = l.take (pos (ks1 l) k) ++ (k, v) :: l.drop (pos (ks1 l) k + if (ks1 l).contains k then 1 else 0) := by
  unfold putL; rw [ltL_take H, gtL_drop H]
theorem putL_len (H : SortedL l) : (putL k v l).length = l.length + if (ks1 l).contains k then 0 else 1 := by
  rw [putL_pos H, List.length_append, List.length_cons, List.length_take, List.length_drop]
  have h1 := pos_le (ks1 l) k
  have h2 : (ks1 l).length = l.length := List.length_map ..
  by_cases hc : (ks1 l).contains k = true
  · obtain ⟨h, _⟩ := pos_hit (show Sorted (ks1 l) from H) (List.contains_iff_mem.1 hc)
    rw [if_pos hc, if_pos hc]; omega
  · rw [if_neg hc, if_neg hc]; omega
theorem getL_hit (H : SortedL l) {q : Ky × V} {r : List (Ky × V)} (h : (geL x l).take 1 = q :: r) (e : q.1 = x) : getL x l = some q.2 := by
  have hq : q ∈ geL x l := List.mem_of_mem_take (h ▸ List.mem_cons_self ..)
  have hq : q ∈ l := (List.mem_filter.1 hq).1
  have hf : (l.find? fun p => decide (p.1 = x)).isSome = true := by rw [List.find?_isSome]; exact ⟨q, hq, by simpa using e⟩
  obtain ⟨p, hp⟩ := Option.isSome_iff_exists.1 hf
  have h1 := List.mem_of_find?_eq_some hp
  have h2 : p.1 = x := by simpa using List.find?_some hp
  have : p = q := mem_key (show Sorted (l.map Prod.fst) from H) h1 hq (h2.trans e.symm)
  unfold getL; rw [hp, this]; rfl
theorem getL_none (h : ∀ p ∈ l, p.1 ≠ x) : getL x l = none := by
  unfold getL
  rw [List.find?_eq_none.2 fun p hp => by simpa using h p hp]; rfl
theorem getL_miss0 (h : (geL x l).take 1 = []) : getL x l = none := getL_none fun p hp e => by
  have h0 : geL x l = [] := by cases hg : geL x l with | nil => rfl | cons a t => rw [hg] at h; cases h
  have : p ∈ geL x l := by unfold geL; rw [List.mem_filter]; exact ⟨hp, by subst e; simp⟩
  rw [h0] at this; cases this
theorem getL_miss1 (H : SortedL l) {q : Ky × V} {r : List (Ky × V)} (h : (geL x l).take 1 = q :: r) (e : q.1 ≠ x) : getL x l = none := getL_none fun p hp e2 => by
  have hs := sub_sorted (fun p : Ky × V => decide (x ≤ p.1)) H
  have hg : ∃ t, geL x l = q :: t := by cases hg : geL x l with | nil => rw [hg] at h; cases h | cons a t => rw [hg, List.take_succ_cons] at h; injection h with h1 h2; exact ⟨t, by rw [h1]⟩
  obtain ⟨t, ht⟩ := hg
  have hp' : p ∈ geL x l := by unfold geL; rw [List.mem_filter]; exact ⟨hp, by subst e2; simp⟩
  have hq : x ≤ q.1 := by
    have : q ∈ geL x l := ht ▸ List.mem_cons_self ..
    simpa using (List.mem_filter.1 this).2
  have hs' : SortedL (q :: t) := ht ▸ hs
  rw [ht] at hp'
  rcases List.mem_cons.1 hp' with rfl | hp'
  · exact e e2
  · have := (sorted_cons.1 hs').1 p hp'; grind
end
end Go.Bt
namespace Go.Gx
open Go.Bt Go.RowKit
section
variable {V : Type} {κ : Kd V} {w w' : World} {F H : Nat → Prop} {base tT p n : Nat} {M : List (Ky × V)} {o : TO V}
/-- A tree, told by what it has. -/
def TopL (κ : Kd V) (tT base : Nat) (w : World) (p : Nat) (M : List (Ky × V)) (F : Nat → Prop) : Prop := ∃ o, TopR κ tT base w p o F ∧ toLO o = M
theorem TopL.lt (T : TopL κ tT base w p M F) : ∀ k, F k → base ≤ k ∧ k < w.heap.size := by obtain ⟨o, h, _⟩ := T; exact h.lt
theorem TopL.keepG (T : TopL κ tT base w p M F) (E : Gr w w' H) (hd : Dj F H) : TopL κ tT base w' p M F := by obtain ⟨o, h, e⟩ := T; exact ⟨o, h.keepG E hd, e⟩
theorem TopL.sorted (T : TopL κ tT base w p M F) : SortedL M := by obtain ⟨o, h, rfl⟩ := T; exact toLO_sorted h.2.2.1
end
end Go.Gx

/- What trees' levels are like, plainly. -/
namespace Go.Bt
section
variable {V : Type} {h : Nat} {o : TO V}
/-- How many nodes stand on the i-th level, told by the one above. -/
def wantL (L : List (List Nat)) : Nat → Nat
  | 0 => 1
  | i + 1 => ((L.getD i []).map (· + 1)).sum
def Shp : Nat → Nat → List (List Nat) → Prop
  | _, _, [] => True
  | low, want, r :: rest => r.length = want ∧ (∀ n ∈ r, low ≤ n ∧ n ≤ 6) ∧ Shp 3 ((r.map (· + 1)).sum) rest
theorem Shp.at : ∀ {L : List (List Nat)} {low want i : Nat}, Shp low want L → i < L.length → (L.getD i []).length = (if i = 0 then want else wantL L i) ∧ ∀ n ∈ L.getD i [], (if i = 0 then low else 3) ≤ n ∧ n ≤ 6
  | [], _, _, _, _, hi => absurd hi (Nat.not_lt_zero _)
  | r :: rest, low, want, 0, H, _ => by obtain ⟨h1, h2, _⟩ := H; exact ⟨h1, h2⟩
  | r :: rest, low, want, i + 1, H, hi => by
    obtain ⟨h1, h2, h3⟩ := H
    have := Shp.at h3 (i := i) (by simpa using hi)
    rw [List.getD_cons_succ]
    refine ⟨?_, fun n hn => ?_⟩
    · rw [this.1, if_neg (Nat.succ_ne_zero i)]
      cases i with
      | zero => rfl
      | succ i => rw [if_neg (Nat.succ_ne_zero i)]; rfl
    · have q := this.2 n hn
      rw [if_neg (Nat.succ_ne_zero i)]
      refine ⟨?_, q.2⟩
      have := q.1
      split at this <;> exact this
theorem kids_sum {now : List (Tr V (h + 1))} (H : ∀ t ∈ now, t.2.length = t.1.length + 1) : (now.flatMap fun t => t.2).length = ((now.map (szT (h + 1))).map (· + 1)).sum := by
  induction now with
  | nil => rfl
  | cons t r ih =>
    rw [List.flatMap_cons, List.length_append, ih (fun t ht => H t (List.mem_cons_of_mem _ ht)), H t (List.mem_cons_self ..)]
    simp [szT]
theorem lvl_shp : ∀ {h : Nat} {now : List (Tr V h)} {low : Nat}, (∀ t ∈ now, Ok h t ∧ low ≤ szT h t ∧ szT h t ≤ 6) → Shp low now.length (lvl h now)
  | 0, now, low, H => by
    refine ⟨List.length_map .., fun n hn => ?_, trivial⟩
    obtain ⟨t, ht, rfl⟩ := List.mem_map.1 hn
    exact (H t ht).2
  | h + 1, now, low, H => by
    refine ⟨List.length_map .., fun n hn => ?_, ?_⟩
    · obtain ⟨t, ht, rfl⟩ := List.mem_map.1 hn
      exact (H t ht).2
    · have e := kids_sum (h := h) (now := now) fun t ht => (ok_node.1 (H t ht).1).1.1
      rw [← e]
      refine lvl_shp fun c hc => ?_
      obtain ⟨t, ht, hc⟩ := List.mem_flatMap.1 hc
      obtain ⟨N, hs⟩ := ok_node.1 (H t ht).1
      obtain ⟨i, hi, rfl⟩ := List.getElem_of_mem hc
      exact ⟨(N.2.2 i _ (List.getElem?_eq_getElem hi)).1, hs _ hc⟩
theorem levels_shp (H : OkO o) : Shp 1 1 (levels o) := by
  match o, H with
  | none, _ => trivial
  | some ⟨h, t⟩, H => exact lvl_shp (now := [t]) fun c hc => by rw [List.mem_singleton.1 hc]; exact ⟨H.1, H.2.1, H.2.2⟩
theorem levels_at (H : OkO o) {i : Nat} (hi : i < (levels o).length) : ((levels o).getD i []).length = wantL (levels o) i ∧ ∀ n ∈ (levels o).getD i [], 1 ≤ n ∧ n ≤ 6 ∧ (0 < i → 3 ≤ n) := by
  have a := (levels_shp H).at hi
  refine ⟨?_, fun n hn => ?_⟩
  · rw [a.1]; split
    · rename_i e; subst e; rfl
    · rfl
  · have q := a.2 n hn
    split at q
    · exact ⟨q.1, q.2, fun h => by omega⟩
    · exact ⟨by omega, q.2, fun _ => q.1⟩
theorem levels_none (H : OkO o) : (levels o).length = 0 ↔ (toLO o).length = 0 := by
  match o, H with
  | none, _ => exact ⟨fun _ => rfl, fun _ => rfl⟩
  | some ⟨h, t⟩, H =>
    have h1 : (levels (some ⟨h, t⟩ : TO V)).length = h + 1 := lvl_len
    have h2 := Go.Gx.toL_pos H.1 H.2.1
    exact ⟨fun q => by omega, fun q => by have : (toL h t).length = 0 := q; omega⟩
/-! how deep a tree is -/
theorem sum_low {r : List Nat} {m : Nat} (H : ∀ n ∈ r, m ≤ n) : m * r.length ≤ r.sum := by
  induction r with
  | nil => simp
  | cons a t ih => have := ih (fun n hn => H n (List.mem_cons_of_mem _ hn)); have := H a (List.mem_cons_self ..); rw [List.length_cons, List.sum_cons, Nat.mul_add]; omega
theorem sum_suc {r : List Nat} : (r.map (· + 1)).sum = r.sum + r.length := by
  induction r with
  | nil => rfl
  | cons a t ih => simp only [List.map_cons, List.sum_cons, List.length_cons, ih]; omega
theorem want_grows (H : OkO o) {i : Nat} (hi : i + 1 < (levels o).length) : ((levels o).getD i []).length * (if i = 0 then 2 else 4) ≤ ((levels o).getD (i + 1) []).length := by
  obtain ⟨_, a⟩ := levels_at H (i := i) (by omega)
  obtain ⟨b, _⟩ := levels_at H hi
  rw [b]
  show _ ≤ (((levels o).getD i []).map (· + 1)).sum
  rw [sum_suc]
  split
  · have := sum_low (m := 1) fun n hn => (a n hn).1; omega
  · have := sum_low (m := 3) fun n hn => (a n hn).2.2 (by omega); omega
theorem cons9 {α : Type} [Inhabited α] {l : List α} (h : 0 < l.length) : l = l.getD 0 default :: l.tail := by
  match l, h with
  | a :: t, _ => rfl
/-- What is known of a tree's levels: n keys. -/
structure LevOk (L : List (List Nat)) (n : Nat) : Prop where
  zero : L.length = 0 ↔ n = 0
  at_ : ∀ i, i < L.length → (L.getD i []).length = wantL L i ∧ ∀ m ∈ L.getD i [], 1 ≤ m ∧ m ≤ 6 ∧ (0 < i → 3 ≤ m)
  grows : ∀ i, i + 1 < L.length → (L.getD i []).length * (if i = 0 then 2 else 4) ≤ (L.getD (i + 1) []).length
  sum : (L.getD (L.length - 1) []).sum = n
  le : L.length ≤ n
theorem lev_ok (H : OkO o) : LevOk (levels o) (toLO o).length := ⟨levels_none H, fun _ hi => levels_at H hi, fun _ hi => want_grows H hi, Go.Gx.levels_sum, Go.Gx.levels_le H⟩
end
end Go.Bt

/- Walks, written by a program: what each function of the translation hands back. -/
namespace Go.Proofs.Ytcpfdfejojghbaa
open Go.Gx Go.RowKit
attribute [local irreducible] wpList wpStill Code.wp Calls
open Go.Bt
theorem newLI {w : World} : Ret Try.prog 22 #[] w (fun v' w' => Below w.heap.size w w' ∧ ∃ p F, v' = ptr p 0 ∧ TopL kI 71 w.heap.size w' p [] F) := (newI).mono fun v' w' h => by
  obtain ⟨E, p, e, T⟩ := h
  exact ⟨E, p, _, e, none, T, rfl⟩
theorem putLsI {M : List (Ky × (Int))} {k : List UInt8} {xv : Value} {x : Int} {F : Nat → Prop} {p base L B : Nat} {w : World} (hT : TopL kI 71 base w p M F) (hb : base ≤ w.heap.size) (hk : RdC w L B 1 xv k.length (k.map u8v)) (hB : B ≤ w.heap.size) (hap : ∀ j, F j → j < L ∨ B ≤ j) (hkn : k.length ≤ 1000000000) :
    Ret Try.prog 23 #[ptr p 0, xv, (Value.int .i64 x)] w (fun v' w' => Gr w w' F ∧ v' = .bool ((ks1 M).contains k) ∧ ∃ F', TopL kI 71 base w' p (putL k x M) F' ∧ NewF w.heap.size F F') := by
  obtain ⟨o, T, rfl⟩ := hT
  refine (putTopI T hb hk hB hap hkn).mono fun v' w' h => ?_
  obtain ⟨E, e, F', T', N⟩ := h
  exact ⟨E, e.trans (congrArg Value.bool (put_was T.2.2.1)), F', ⟨_, T', put_toL T.2.2.1⟩, N⟩
theorem scanLsI {M : List (Ky × (Int))} {F : Nat → Prop} {x : List UInt8} {xv : Value} {p base : Nat} {m : Int} {w : World} (hT : TopL kI 71 base w p M F) (hkl : ∀ q ∈ M, q.1.length ≤ 1000000000) (hxr : RdC w 0 w.heap.size 1 xv x.length (x.map u8v)) (hm : m ≤ 9223372036854775807) (hDM : M.length ≤ 100000) : Ret Try.prog 24 #[ptr p 0, xv, .int .i64 m] w (fun v' w' => Below w.heap.size w w' ∧ ∃ D2 : List (DP (Int)), Own w' w.heap.size 51 2 v' D2.length (D2.flatMap cI) ∧ (∀ x9 ∈ D2.map pk, Own w' w.heap.size 5 1 x9.1 x9.2.length (x9.2.map u8v)) ∧ D2.map Prod.snd = (geL x M).take m.toNat ∧ (D2.map pk).Pairwise (fun a b => Dj (Bl a.1) (Bl b.1))) := by
  obtain ⟨o, T, rfl⟩ := hT
  exact scanTopI T hkl hxr hm hDM
theorem lenLsI {M : List (Ky × (Int))} {F : Nat → Prop} {p base : Nat} {w : World} (hT : TopL kI 71 base w p M F) (hDM : M.length ≤ 100000) : Ret Try.prog 25 #[ptr p 0] w (fun v' w' => Below w.heap.size w w' ∧ v' = .int .i64 (M.length : Int)) := by
  obtain ⟨o, T, rfl⟩ := hT
  exact lenTopI T hDM
theorem levLsI {M : List (Ky × (Int))} {F : Nat → Prop} {p base : Nat} {w : World} (hT : TopL kI 71 base w p M F) (hDM : M.length ≤ 100000) : Ret Try.prog 33 #[ptr p 0] w (fun v' w' => Below w.heap.size w w' ∧ ∃ (LL : List (Value × List Int)) (LV : List (List Nat)), Own w' w.heap.size 30 1 v' LL.length (LL.flatMap (fun x9 => [x9.1])) ∧ (∀ x9 ∈ LL, Own w' w.heap.size 3 1 x9.1 x9.2.length (x9.2.map (Value.int .i64))) ∧ LL.map Prod.snd = LV.map (fun l => l.map Int.ofNat) ∧ LevOk LV M.length) := by
  obtain ⟨o, T, rfl⟩ := hT
  refine (levelsTopI T hDM).mono fun v' w' h => ?_
  obtain ⟨E, LL, h1, h2, h3⟩ := h
  exact ⟨E, LL, _, h1, h2, h3, lev_ok T.2.2.1⟩
theorem newLS {w : World} : Ret Try.prog 12 #[] w (fun v' w' => Below w.heap.size w w' ∧ ∃ p F, v' = ptr p 0 ∧ TopL kS 88 w.heap.size w' p [] F) := (newS).mono fun v' w' h => by
  obtain ⟨E, p, e, T⟩ := h
  exact ⟨E, p, _, e, none, T, rfl⟩
theorem putLsS {M : List (Ky × (List UInt8))} {k : List UInt8} {xv : Value} {x : List UInt8} {F : Nat → Prop} {p base L B : Nat} {w : World} (hT : TopL kS 88 base w p M F) (hb : base ≤ w.heap.size) (hk : RdC w L B 1 xv k.length (k.map u8v)) (hB : B ≤ w.heap.size) (hap : ∀ j, F j → j < L ∨ B ≤ j) (hkn : k.length ≤ 1000000000) :
    Ret Try.prog 13 #[ptr p 0, xv, (Value.string (bs x))] w (fun v' w' => Gr w w' F ∧ v' = .bool ((ks1 M).contains k) ∧ ∃ F', TopL kS 88 base w' p (putL k x M) F' ∧ NewF w.heap.size F F') := by
  obtain ⟨o, T, rfl⟩ := hT
  refine (putTopS T hb hk hB hap hkn).mono fun v' w' h => ?_
  obtain ⟨E, e, F', T', N⟩ := h
  exact ⟨E, e.trans (congrArg Value.bool (put_was T.2.2.1)), F', ⟨_, T', put_toL T.2.2.1⟩, N⟩
theorem lenLsS {M : List (Ky × (List UInt8))} {F : Nat → Prop} {p base : Nat} {w : World} (hT : TopL kS 88 base w p M F) (hDM : M.length ≤ 100000) : Ret Try.prog 15 #[ptr p 0] w (fun v' w' => Below w.heap.size w w' ∧ v' = .int .i64 (M.length : Int)) := by
  obtain ⟨o, T, rfl⟩ := hT
  exact lenTopS T hDM
theorem levLsS {M : List (Ky × (List UInt8))} {F : Nat → Prop} {p base : Nat} {w : World} (hT : TopL kS 88 base w p M F) (hDM : M.length ≤ 100000) : Ret Try.prog 14 #[ptr p 0] w (fun v' w' => Below w.heap.size w w' ∧ ∃ (LL : List (Value × List Int)) (LV : List (List Nat)), Own w' w.heap.size 30 1 v' LL.length (LL.flatMap (fun x9 => [x9.1])) ∧ (∀ x9 ∈ LL, Own w' w.heap.size 3 1 x9.1 x9.2.length (x9.2.map (Value.int .i64))) ∧ LL.map Prod.snd = LV.map (fun l => l.map Int.ofNat) ∧ LevOk LV M.length) := by
  obtain ⟨o, T, rfl⟩ := hT
  refine (levelsTopS T hDM).mono fun v' w' h => ?_
  obtain ⟨E, LL, h1, h2, h3⟩ := h
  exact ⟨E, LL, _, h1, h2, h3, lev_ok T.2.2.1⟩
end Go.Proofs.Ytcpfdfejojghbaa
