/- Walks, written by a program: what each function of the translation hands back. -/
import Derived.Test.YtkkongnmcfdioaaV8
import Derived.Test.YtkkongnmcfdioaaVPlain
namespace Go.Proofs.Ytkkongnmcfdioaa
open Go.Gx Go.RowKit
attribute [local irreducible] wpList Code.wp Calls

theorem ValueInts_ret (a b : Int) (w : World) (ha : -9223372036854775808 ≤ a ∧ a ≤ 9223372036854775807) (hb2 : -9223372036854775808 ≤ b ∧ b ≤ 9223372036854775807) : Ret Try.prog 8 #[(Value.int .i64 a), (Value.int .i64 b)] w (fun v' w' => Below w.heap.size w w' ∧ v' = .bool true) := by
  have hb := Below.refl w.heap.size w
  refine enter (N := 43) Try.func8 rfl rfl (by simp) fun a0 hN hd hA => ?_
  have s0 : a0.tmps.getD 0 undef = (Value.int .i64 a) := hA 0 (by simp)
  have s1 : a0.tmps.getD 1 undef = (Value.int .i64 b) := hA 1 (by simp)
  clear hA
  refine seq_any fun K622 hK622 => ?_
  refine one_reg ?_
  refine op_assign rfl ?_
  refine reg_nil ?_
  refine hK622 _ _ ?_
  refine seq_any fun K623 hK623 => ?_
  refine seq_any fun K624 hK624 => ?_
  refine one_reg ?_
  refine op_fn (vs := []) ok30 trivial (begun4_ret _) ?_
  rintro _ w625 ⟨E626, rfl⟩
  have E626 := grown_of_below E626
  have z_w625 := E626.size
  have hb := below_step0 hb E626 hb.size
  refine op_not (ev_hit hN rfl) ?_
  refine reg_nil ?_
  refine hK624 _ _ ?_
  refine wp_cond_false (ev_hit hN rfl) ?_
  refine wp_skip ?_
  refine hK623 _ _ ?_
  refine seq_any fun K627 hK627 => ?_
  refine reg_quiet (Φ := phiL [(fun u _ => u = (Value.int .i64 a)), (fun u _ => u = (Value.agg #[(Value.int .i64 1), (Value.int .i64 a), (Value.string (bs []))])), (fun u w' => ∃ (v629 : Value), u = v629 ∧ Own w' w625.heap.size 5 1 v629 (keyV ⟨1, a, []⟩).length ((keyV ⟨1, a, []⟩).map u8v)), (fun u _ => u = (Value.string (bs (keyV ⟨1, a, []⟩)))), (fun u _ => u = (Value.int .i64 b)), (fun u _ => u = (Value.agg #[(Value.int .i64 1), (Value.int .i64 b), (Value.string (bs []))])), (fun u w' => ∃ (v634 : Value), u = v634 ∧ Own w' w625.heap.size 5 1 v634 (keyV ⟨1, b, []⟩).length ((keyV ⟨1, b, []⟩).map u8v)), (fun u _ => u = (Value.string (bs (keyV ⟨1, b, []⟩)))), (fun u _ => u = (Value.string (bs (keyV ⟨1, a, []⟩)))), (fun u _ => u = (Value.string (bs (keyV ⟨1, b, []⟩))))]) mixed (by kernel_rfl) (by kernel_rfl) (by kernel_rfl) hN (StL.get (StL.eq (StL.eq (StL.cons (fun u w1 w2 E h => by obtain ⟨x0, hv, f0⟩ := h; exact ⟨x0, hv, f0.keep0 E⟩) (StL.eq (StL.eq (StL.eq (StL.cons (fun u w1 w2 E h => by obtain ⟨x0, hv, f0⟩ := h; exact ⟨x0, hv, f0.keep0 E⟩) (StL.eq (StL.eq (StL.eq (StL.nil _)))))))))))) (ObL.get (s := 10) (ObL.cons ?_ (ObL.cons ?_ (ObL.cons ?_ (ObL.cons ?_ (ObL.cons ?_ (ObL.cons ?_ (ObL.cons ?_ (ObL.cons ?_ (ObL.cons ?_ (ObL.cons ?_ (ObL.nil))))))))))) rfl) ?_
  · -- operation 0, slot 10
    intro a628 w628 hN628 hR628 hbs628 hdp628
    have hR628 : w625.grownBy w628 none := hR628
    have q628_0 : a628.tmps.getD 0 undef = (Value.int .i64 a) := (hbs628 0 rfl).trans (sl_base hN rfl s0)
    clear hbs628 hdp628
    refine op_move (ev_base hN628 rfl q628_0) ?_
    exact obN_end rfl rfl ((grown_refl _ _))
  · -- operation 1, slot 11
    intro a629 w629 hN629 hR629 hbs629 hdp629
    have hR629 : w625.grownBy w629 none := hR629
    have q629_10 : a629.tmps.getD 10 undef = (Value.int .i64 a) := hdp629 0 _ 10 (by kernel_rfl) rfl rfl
    clear hbs629 hdp629
    refine op_build (pv := [(0, (Value.int .i64 1)), (1, (Value.int .i64 a))]) (v := (Value.agg #[(Value.int .i64 1), (Value.int .i64 a), (Value.string (bs []))])) ⟨rfl, rfl, ⟨rfl, (ev_base hN629 rfl q629_10), trivial⟩⟩ (by kernel_rfl) ?_
    exact obN_end rfl rfl ((grown_refl _ _))
  · -- operation 2, slot 12
    intro a630 w630 hN630 hR630 hbs630 hdp630
    have hR630 : w625.grownBy w630 none := hR630
    have z_w630 := hR630.size
    have hb := below_step0 hb hR630 hb.size
    have q630_11 : a630.tmps.getD 11 undef = (Value.agg #[(Value.int .i64 1), (Value.int .i64 a), (Value.string (bs []))]) := hdp630 1 _ 11 (by kernel_rfl) rfl rfl
    clear hbs630 hdp630
    have hq631 : RdC w630 0 w630.heap.size 1 (Value.slice none 0 0) ([] : List UInt8).length (([] : List UInt8).map u8v) := by simpa using ((RdC.nil _ 0 0 1).mono (L' := 0) (B' := w630.heap.size) (Nat.zero_le _) (by omega))
    refine op_fn (vs := [(Value.slice none 0 0), (Value.agg #[(Value.int .i64 1), (Value.int .i64 a), (Value.string (bs []))])]) ok34 ⟨rfl, ⟨(ev_base hN630 rfl q630_11), trivial⟩⟩ (Key_ret [] ⟨1, a, []⟩ _ _ (by first | assumption | omega | (simp only [List.length_append, List.length_cons, List.length_nil, List.length_drop, List.length_take]; omega) | (dsimp only; omega) | decide | (simp [keyV, be8_len]; done)) (by first | assumption | omega | (simp only [List.length_append, List.length_cons, List.length_nil, List.length_drop, List.length_take]; omega) | (dsimp only; omega) | decide | (simp [keyV, be8_len]; done)) (by first | assumption | omega | (simp only [List.length_append, List.length_cons, List.length_nil, List.length_drop, List.length_take]; omega) | (dsimp only; omega) | decide | (simp [keyV, be8_len]; done)) hq631) ?_
    rintro v632 w634 ⟨E635, hO633⟩
    have E635 := grown_of_below E635
    have z_w634 := E635.size
    have hb := below_step0 hb E635 hb.size
    have hO633 : Own w634 w625.heap.size 5 1 v632 (keyV ⟨1, a, []⟩).length ((keyV ⟨1, a, []⟩).map u8v) := by simpa using hO633.mono (base' := w625.heap.size) (by omega)
    exact obN_end rfl ⟨v632, rfl, hO633⟩ (E635)
  · -- operation 3, slot 13
    intro a636 w636 hN636 hR636 hbs636 hdp636
    have hR636 : w625.grownBy w636 none := hR636
    have z_w636 := hR636.size
    have hb := below_step0 hb hR636 hb.size
    obtain ⟨v629, q636_12, hO630⟩ := hdp636 2 _ 12 (by kernel_rfl) rfl rfl
    have hO630 : Own w636 w625.heap.size 5 1 v629 (keyV ⟨1, a, []⟩).length ((keyV ⟨1, a, []⟩).map u8v) := hO630
    clear hbs636 hdp636
    refine op_str_of (bl := (keyV ⟨1, a, []⟩)) Try.underlying22 Try.underlying5 Try.underlying9 (ev_base hN636 rfl q636_12) hO630.rdw ?_
    exact obN_end rfl rfl ((grown_refl _ _))
  · -- operation 4, slot 14
    intro a637 w637 hN637 hR637 hbs637 hdp637
    have hR637 : w625.grownBy w637 none := hR637
    have q637_1 : a637.tmps.getD 1 undef = (Value.int .i64 b) := (hbs637 1 rfl).trans (sl_base hN rfl s1)
    clear hbs637 hdp637
    refine op_move (ev_base hN637 rfl q637_1) ?_
    exact obN_end rfl rfl ((grown_refl _ _))
  · -- operation 5, slot 15
    intro a638 w638 hN638 hR638 hbs638 hdp638
    have hR638 : w625.grownBy w638 none := hR638
    have q638_14 : a638.tmps.getD 14 undef = (Value.int .i64 b) := hdp638 4 _ 14 (by kernel_rfl) rfl rfl
    clear hbs638 hdp638
    refine op_build (pv := [(0, (Value.int .i64 1)), (1, (Value.int .i64 b))]) (v := (Value.agg #[(Value.int .i64 1), (Value.int .i64 b), (Value.string (bs []))])) ⟨rfl, rfl, ⟨rfl, (ev_base hN638 rfl q638_14), trivial⟩⟩ (by kernel_rfl) ?_
    exact obN_end rfl rfl ((grown_refl _ _))
  · -- operation 6, slot 16
    intro a639 w639 hN639 hR639 hbs639 hdp639
    have hR639 : w625.grownBy w639 none := hR639
    have z_w639 := hR639.size
    have hb := below_step0 hb hR639 hb.size
    have q639_15 : a639.tmps.getD 15 undef = (Value.agg #[(Value.int .i64 1), (Value.int .i64 b), (Value.string (bs []))]) := hdp639 5 _ 15 (by kernel_rfl) rfl rfl
    clear hbs639 hdp639
    have hq640 : RdC w639 0 w639.heap.size 1 (Value.slice none 0 0) ([] : List UInt8).length (([] : List UInt8).map u8v) := by simpa using ((RdC.nil _ 0 0 1).mono (L' := 0) (B' := w639.heap.size) (Nat.zero_le _) (by omega))
    refine op_fn (vs := [(Value.slice none 0 0), (Value.agg #[(Value.int .i64 1), (Value.int .i64 b), (Value.string (bs []))])]) ok34 ⟨rfl, ⟨(ev_base hN639 rfl q639_15), trivial⟩⟩ (Key_ret [] ⟨1, b, []⟩ _ _ (by first | assumption | omega | (simp only [List.length_append, List.length_cons, List.length_nil, List.length_drop, List.length_take]; omega) | (dsimp only; omega) | decide | (simp [keyV, be8_len]; done)) (by first | assumption | omega | (simp only [List.length_append, List.length_cons, List.length_nil, List.length_drop, List.length_take]; omega) | (dsimp only; omega) | decide | (simp [keyV, be8_len]; done)) (by first | assumption | omega | (simp only [List.length_append, List.length_cons, List.length_nil, List.length_drop, List.length_take]; omega) | (dsimp only; omega) | decide | (simp [keyV, be8_len]; done)) hq640) ?_
    rintro v641 w643 ⟨E644, hO642⟩
    have E644 := grown_of_below E644
    have z_w643 := E644.size
    have hb := below_step0 hb E644 hb.size
    have hO642 : Own w643 w625.heap.size 5 1 v641 (keyV ⟨1, b, []⟩).length ((keyV ⟨1, b, []⟩).map u8v) := by simpa using hO642.mono (base' := w625.heap.size) (by omega)
    exact obN_end rfl ⟨v641, rfl, hO642⟩ (E644)
  · -- operation 7, slot 17
    intro a645 w645 hN645 hR645 hbs645 hdp645
    have hR645 : w625.grownBy w645 none := hR645
    have z_w645 := hR645.size
    have hb := below_step0 hb hR645 hb.size
    obtain ⟨v634, q645_16, hO635⟩ := hdp645 6 _ 16 (by kernel_rfl) rfl rfl
    have hO635 : Own w645 w625.heap.size 5 1 v634 (keyV ⟨1, b, []⟩).length ((keyV ⟨1, b, []⟩).map u8v) := hO635
    clear hbs645 hdp645
    refine op_str_of (bl := (keyV ⟨1, b, []⟩)) Try.underlying22 Try.underlying5 Try.underlying9 (ev_base hN645 rfl q645_16) hO635.rdw ?_
    exact obN_end rfl rfl ((grown_refl _ _))
  · -- operation 8, slot 5
    intro a646 w646 hN646 hR646 hbs646 hdp646
    have hR646 : w625.grownBy w646 none := hR646
    have q646_13 : a646.tmps.getD 13 undef = (Value.string (bs (keyV ⟨1, a, []⟩))) := hdp646 3 _ 13 (by kernel_rfl) rfl rfl
    clear hbs646 hdp646
    refine op_assign (ev_base hN646 rfl q646_13) ?_
    exact obN_end rfl rfl ((grown_refl _ _))
  · -- operation 9, slot 6
    intro a647 w647 hN647 hR647 hbs647 hdp647
    have hR647 : w625.grownBy w647 none := hR647
    have q647_17 : a647.tmps.getD 17 undef = (Value.string (bs (keyV ⟨1, b, []⟩))) := hdp647 7 _ 17 (by kernel_rfl) rfl rfl
    clear hbs647 hdp647
    refine op_assign (ev_base hN647 rfl q647_17) ?_
    exact obN_end rfl rfl ((grown_refl _ _))
  · -- behind the region
    intro a648 w648 hN648 hd648 hbs648 hph648 E648
    have hd648 := hd648.trans hd
    have s648_0 : a648.tmps.getD 0 undef = (Value.int .i64 a) := (hbs648 0 rfl).trans (sl_base hN rfl s0)
    have s648_1 : a648.tmps.getD 1 undef = (Value.int .i64 b) := (hbs648 1 rfl).trans (sl_base hN rfl s1)
    have s648_4 : a648.tmps.getD 4 undef = (Value.bool false) := (hbs648 4 rfl).trans (sl_hit hN rfl)
    have s648_5 : a648.tmps.getD 5 undef = (Value.string (bs (keyV ⟨1, a, []⟩))) := hph648 8 _ 5 rfl rfl
    have s648_6 : a648.tmps.getD 6 undef = (Value.string (bs (keyV ⟨1, b, []⟩))) := hph648 9 _ 6 rfl rfl
    have s648_8 : a648.tmps.getD 8 undef = (Value.bool true) := (hbs648 8 rfl).trans (sl_hit hN rfl)
    have s648_9 : a648.tmps.getD 9 undef = (Value.bool false) := (hbs648 9 rfl).trans (sl_hit hN rfl)
    have s648_10 : a648.tmps.getD 10 undef = (Value.int .i64 a) := hph648 0 _ 10 rfl rfl
    have s648_11 : a648.tmps.getD 11 undef = (Value.agg #[(Value.int .i64 1), (Value.int .i64 a), (Value.string (bs []))]) := hph648 1 _ 11 rfl rfl
    obtain ⟨v629, s648_12, hO630⟩ := hph648 2 _ 12 rfl rfl
    have hO630 : Own w648 w625.heap.size 5 1 v629 (keyV ⟨1, a, []⟩).length ((keyV ⟨1, a, []⟩).map u8v) := hO630
    have s648_13 : a648.tmps.getD 13 undef = (Value.string (bs (keyV ⟨1, a, []⟩))) := hph648 3 _ 13 rfl rfl
    have s648_14 : a648.tmps.getD 14 undef = (Value.int .i64 b) := hph648 4 _ 14 rfl rfl
    have s648_15 : a648.tmps.getD 15 undef = (Value.agg #[(Value.int .i64 1), (Value.int .i64 b), (Value.string (bs []))]) := hph648 5 _ 15 rfl rfl
    obtain ⟨v634, s648_16, hO635⟩ := hph648 6 _ 16 rfl rfl
    have hO635 : Own w648 w625.heap.size 5 1 v634 (keyV ⟨1, b, []⟩).length ((keyV ⟨1, b, []⟩).map u8v) := hO635
    have s648_17 : a648.tmps.getD 17 undef = (Value.string (bs (keyV ⟨1, b, []⟩))) := hph648 7 _ 17 rfl rfl
    clear hbs648 hph648
    have E648 : w625.grownBy w648 none := E648
    have z_w648 := E648.size
    have hb := below_step0 hb E648 hb.size
    refine hK627 _ _ ?_
    refine seq_any fun K649 hK649 => ?_
    refine one_reg ?_
    refine op_assign rfl ?_
    refine reg_nil ?_
    refine hK649 _ _ ?_
    refine seq_any fun K650 hK650 => ?_
    refine seq_any fun K651 hK651 => ?_
    refine one_reg ?_
    refine op_move (ev_base hN648 rfl s648_0) ?_
    refine op_move (ev_base hN648 rfl s648_1) ?_
    refine op_lss (ev_hit hN648 rfl) (ev_hit hN648 rfl) (fun c20 => ?_) (fun c20 => ?_)
    · -- 20 True
      refine reg_nil ?_
      refine hK651 _ _ ?_
      refine wp_cond_true (ev_hit hN648 rfl) ?_
      refine one_reg ?_
      refine op_assign rfl ?_
      refine reg_nil ?_
      refine hK650 _ _ ?_
      refine seq_any fun K652 hK652 => ?_
      refine one_reg ?_
      refine op_move (ev_base hN648 rfl s648_5) ?_
      refine op_len_str Try.underlying9 (ev_hit hN648 rfl) ?_
      refine op_eql (ev_hit hN648 rfl) rfl (fun c26 => ?_) (fun c26 => ?_)
      · -- 26 True
        refine op_move (ev_hit hN648 rfl) ?_
        refine g_true (j := 3) (dj := 27) (b := true) rfl rfl rfl (ev_hit hN648 rfl) ?_
        refine op_move (ev_base hN648 rfl s648_5) ?_
        refine g_true (j := 3) (dj := 27) (b := true) rfl rfl rfl (ev_hit hN648 rfl) ?_
        refine op_move (ev_base hN648 rfl s648_6) ?_
        refine g_true (j := 3) (dj := 27) (b := true) rfl rfl rfl (ev_hit hN648 rfl) ?_
        refine op_fn (vs := [(Value.string (bs (keyV ⟨1, a, []⟩))), (Value.string (bs (keyV ⟨1, b, []⟩)))]) ok42 ⟨(ev_hit hN648 rfl), ⟨(ev_hit hN648 rfl), trivial⟩⟩ (CompareText_ret (keyV ⟨1, a, []⟩) (keyV ⟨1, b, []⟩) _ (by first | assumption | omega | (simp only [List.length_append, List.length_cons, List.length_nil, List.length_drop, List.length_take]; omega) | (dsimp only; omega) | decide | (simp [keyV, be8_len]; done)) (by first | assumption | omega | (simp only [List.length_append, List.length_cons, List.length_nil, List.length_drop, List.length_take]; omega) | (dsimp only; omega) | decide | (simp [keyV, be8_len]; done))) ?_
        rintro _ w653 ⟨E654, rfl⟩
        have E654 := grown_of_below E654
        have z_w653 := E654.size
        have hO630 := hO630.keep0 E654
        have hO635 := hO635.keep0 E654
        have hb := below_step0 hb E654 hb.size
        refine g_true (j := 3) (dj := 27) (b := true) rfl rfl rfl (ev_hit hN648 rfl) ?_
        refine op_move (ev_hit hN648 rfl) ?_
        refine g_true (j := 3) (dj := 27) (b := true) rfl rfl rfl (ev_hit hN648 rfl) ?_
        refine op_eql (ev_hit hN648 rfl) (ev_hit hN648 rfl) (fun c32 => ?_) (fun c32 => ?_)
        · -- 32 True
          refine op_pick_t (ev_hit hN648 rfl) (ev_hit hN648 rfl) ?_
          refine op_move (ev_hit hN648 rfl) ?_
          refine g_true (j := 10) (dj := 34) (b := true) rfl rfl rfl (ev_hit hN648 rfl) ?_
          refine op_move (ev_base hN648 rfl s648_0) ?_
          refine g_true (j := 10) (dj := 34) (b := true) rfl rfl rfl (ev_hit hN648 rfl) ?_
          refine op_build (pv := [(0, (Value.int .i64 1)), (1, (Value.int .i64 a))]) (v := (Value.agg #[(Value.int .i64 1), (Value.int .i64 a), (Value.string (bs []))])) ⟨rfl, rfl, ⟨rfl, (ev_hit hN648 rfl), trivial⟩⟩ (by kernel_rfl) ?_
          refine g_true (j := 10) (dj := 34) (b := true) rfl rfl rfl (ev_hit hN648 rfl) ?_
          refine op_move (ev_base hN648 rfl s648_1) ?_
          refine g_true (j := 10) (dj := 34) (b := true) rfl rfl rfl (ev_hit hN648 rfl) ?_
          refine op_build (pv := [(0, (Value.int .i64 1)), (1, (Value.int .i64 b))]) (v := (Value.agg #[(Value.int .i64 1), (Value.int .i64 b), (Value.string (bs []))])) ⟨rfl, rfl, ⟨rfl, (ev_hit hN648 rfl), trivial⟩⟩ (by kernel_rfl) ?_
          refine g_true (j := 10) (dj := 34) (b := true) rfl rfl rfl (ev_hit hN648 rfl) ?_
          refine op_fn (vs := [(Value.agg #[(Value.int .i64 1), (Value.int .i64 a), (Value.string (bs []))]), (Value.agg #[(Value.int .i64 1), (Value.int .i64 b), (Value.string (bs []))])]) ok35 ⟨(ev_hit hN648 rfl), ⟨(ev_hit hN648 rfl), trivial⟩⟩ (Compare_ret ⟨1, a, []⟩ ⟨1, b, []⟩ _) ?_
          rintro _ w655 ⟨E656, rfl⟩
          have E656 := grown_of_below E656
          have z_w655 := E656.size
          have hO630 := hO630.keep0 E656
          have hO635 := hO635.keep0 E656
          have hb := below_step0 hb E656 hb.size
          refine g_true (j := 10) (dj := 34) (b := true) rfl rfl rfl (ev_hit hN648 rfl) ?_
          refine op_move (ev_hit hN648 rfl) ?_
          refine g_true (j := 10) (dj := 34) (b := true) rfl rfl rfl (ev_hit hN648 rfl) ?_
          refine op_eql (ev_hit hN648 rfl) (ev_hit hN648 rfl) (fun c41 => ?_) (fun c41 => ?_)
          · -- 41 True
            refine op_pick_t (ev_hit hN648 rfl) (ev_hit hN648 rfl) ?_
            refine op_assign (ev_hit hN648 rfl) ?_
            refine reg_nil ?_
            refine hK652 _ _ ?_
            refine wp_ret ?_
            refine ret1 rfl hd648 (ev_hit hN648 rfl) ⟨_, rfl, ?_⟩
            -- path 20T 26T 32T 41T
            exact ⟨hb, rfl⟩
          · -- 41 False
            exact absurd (by simp only [cmpW, cmpI, cmpT]; (repeat' split) <;> omega) c41
        · -- 32 False
          exact absurd (by have := key_int ha hb2; simp only [keyV, if_true]; rw [this]; simp only [cmpI]; (repeat' split) <;> omega) c32
      · -- 26 False
        exact absurd (by simp [keyV, be8_len]) c26
    · -- 20 False
      refine reg_nil ?_
      refine hK651 _ _ ?_
      refine wp_cond_false (ev_hit hN648 rfl) ?_
      refine seq_any fun K657 hK657 => ?_
      refine one_reg ?_
      refine op_move (ev_base hN648 rfl s648_0) ?_
      refine op_move (ev_base hN648 rfl s648_1) ?_
      refine op_gtr (ev_hit hN648 rfl) (ev_hit hN648 rfl) (fun c23 => ?_) (fun c23 => ?_)
      · -- 23 True
        refine reg_nil ?_
        refine hK657 _ _ ?_
        refine wp_cond_true (ev_hit hN648 rfl) ?_
        refine one_reg ?_
        refine op_assign rfl ?_
        refine reg_nil ?_
        refine hK650 _ _ ?_
        refine seq_any fun K658 hK658 => ?_
        refine one_reg ?_
        refine op_move (ev_base hN648 rfl s648_5) ?_
        refine op_len_str Try.underlying9 (ev_hit hN648 rfl) ?_
        refine op_eql (ev_hit hN648 rfl) rfl (fun c26 => ?_) (fun c26 => ?_)
        · -- 26 True
          refine op_move (ev_hit hN648 rfl) ?_
          refine g_true (j := 3) (dj := 27) (b := true) rfl rfl rfl (ev_hit hN648 rfl) ?_
          refine op_move (ev_base hN648 rfl s648_5) ?_
          refine g_true (j := 3) (dj := 27) (b := true) rfl rfl rfl (ev_hit hN648 rfl) ?_
          refine op_move (ev_base hN648 rfl s648_6) ?_
          refine g_true (j := 3) (dj := 27) (b := true) rfl rfl rfl (ev_hit hN648 rfl) ?_
          refine op_fn (vs := [(Value.string (bs (keyV ⟨1, a, []⟩))), (Value.string (bs (keyV ⟨1, b, []⟩)))]) ok42 ⟨(ev_hit hN648 rfl), ⟨(ev_hit hN648 rfl), trivial⟩⟩ (CompareText_ret (keyV ⟨1, a, []⟩) (keyV ⟨1, b, []⟩) _ (by first | assumption | omega | (simp only [List.length_append, List.length_cons, List.length_nil, List.length_drop, List.length_take]; omega) | (dsimp only; omega) | decide | (simp [keyV, be8_len]; done)) (by first | assumption | omega | (simp only [List.length_append, List.length_cons, List.length_nil, List.length_drop, List.length_take]; omega) | (dsimp only; omega) | decide | (simp [keyV, be8_len]; done))) ?_
          rintro _ w659 ⟨E660, rfl⟩
          have E660 := grown_of_below E660
          have z_w659 := E660.size
          have hO630 := hO630.keep0 E660
          have hO635 := hO635.keep0 E660
          have hb := below_step0 hb E660 hb.size
          refine g_true (j := 3) (dj := 27) (b := true) rfl rfl rfl (ev_hit hN648 rfl) ?_
          refine op_move (ev_hit hN648 rfl) ?_
          refine g_true (j := 3) (dj := 27) (b := true) rfl rfl rfl (ev_hit hN648 rfl) ?_
          refine op_eql (ev_hit hN648 rfl) (ev_hit hN648 rfl) (fun c32 => ?_) (fun c32 => ?_)
          · -- 32 True
            refine op_pick_t (ev_hit hN648 rfl) (ev_hit hN648 rfl) ?_
            refine op_move (ev_hit hN648 rfl) ?_
            refine g_true (j := 10) (dj := 34) (b := true) rfl rfl rfl (ev_hit hN648 rfl) ?_
            refine op_move (ev_base hN648 rfl s648_0) ?_
            refine g_true (j := 10) (dj := 34) (b := true) rfl rfl rfl (ev_hit hN648 rfl) ?_
            refine op_build (pv := [(0, (Value.int .i64 1)), (1, (Value.int .i64 a))]) (v := (Value.agg #[(Value.int .i64 1), (Value.int .i64 a), (Value.string (bs []))])) ⟨rfl, rfl, ⟨rfl, (ev_hit hN648 rfl), trivial⟩⟩ (by kernel_rfl) ?_
            refine g_true (j := 10) (dj := 34) (b := true) rfl rfl rfl (ev_hit hN648 rfl) ?_
            refine op_move (ev_base hN648 rfl s648_1) ?_
            refine g_true (j := 10) (dj := 34) (b := true) rfl rfl rfl (ev_hit hN648 rfl) ?_
            refine op_build (pv := [(0, (Value.int .i64 1)), (1, (Value.int .i64 b))]) (v := (Value.agg #[(Value.int .i64 1), (Value.int .i64 b), (Value.string (bs []))])) ⟨rfl, rfl, ⟨rfl, (ev_hit hN648 rfl), trivial⟩⟩ (by kernel_rfl) ?_
            refine g_true (j := 10) (dj := 34) (b := true) rfl rfl rfl (ev_hit hN648 rfl) ?_
            refine op_fn (vs := [(Value.agg #[(Value.int .i64 1), (Value.int .i64 a), (Value.string (bs []))]), (Value.agg #[(Value.int .i64 1), (Value.int .i64 b), (Value.string (bs []))])]) ok35 ⟨(ev_hit hN648 rfl), ⟨(ev_hit hN648 rfl), trivial⟩⟩ (Compare_ret ⟨1, a, []⟩ ⟨1, b, []⟩ _) ?_
            rintro _ w661 ⟨E662, rfl⟩
            have E662 := grown_of_below E662
            have z_w661 := E662.size
            have hO630 := hO630.keep0 E662
            have hO635 := hO635.keep0 E662
            have hb := below_step0 hb E662 hb.size
            refine g_true (j := 10) (dj := 34) (b := true) rfl rfl rfl (ev_hit hN648 rfl) ?_
            refine op_move (ev_hit hN648 rfl) ?_
            refine g_true (j := 10) (dj := 34) (b := true) rfl rfl rfl (ev_hit hN648 rfl) ?_
            refine op_eql (ev_hit hN648 rfl) (ev_hit hN648 rfl) (fun c41 => ?_) (fun c41 => ?_)
            · -- 41 True
              refine op_pick_t (ev_hit hN648 rfl) (ev_hit hN648 rfl) ?_
              refine op_assign (ev_hit hN648 rfl) ?_
              refine reg_nil ?_
              refine hK658 _ _ ?_
              refine wp_ret ?_
              refine ret1 rfl hd648 (ev_hit hN648 rfl) ⟨_, rfl, ?_⟩
              -- path 20F 23T 26T 32T 41T
              exact ⟨hb, rfl⟩
            · -- 41 False
              exact absurd (by simp only [cmpW, cmpI, cmpT]; (repeat' split) <;> omega) c41
          · -- 32 False
            exact absurd (by have := key_int ha hb2; simp only [keyV, if_true]; rw [this]; simp only [cmpI]; (repeat' split) <;> omega) c32
        · -- 26 False
          exact absurd (by simp [keyV, be8_len]) c26
      · -- 23 False
        refine reg_nil ?_
        refine hK657 _ _ ?_
        refine wp_cond_false (ev_hit hN648 rfl) ?_
        refine wp_skip ?_
        refine hK650 _ _ ?_
        refine seq_any fun K663 hK663 => ?_
        refine one_reg ?_
        refine op_move (ev_base hN648 rfl s648_5) ?_
        refine op_len_str Try.underlying9 (ev_hit hN648 rfl) ?_
        refine op_eql (ev_hit hN648 rfl) rfl (fun c26 => ?_) (fun c26 => ?_)
        · -- 26 True
          refine op_move (ev_hit hN648 rfl) ?_
          refine g_true (j := 3) (dj := 27) (b := true) rfl rfl rfl (ev_hit hN648 rfl) ?_
          refine op_move (ev_base hN648 rfl s648_5) ?_
          refine g_true (j := 3) (dj := 27) (b := true) rfl rfl rfl (ev_hit hN648 rfl) ?_
          refine op_move (ev_base hN648 rfl s648_6) ?_
          refine g_true (j := 3) (dj := 27) (b := true) rfl rfl rfl (ev_hit hN648 rfl) ?_
          refine op_fn (vs := [(Value.string (bs (keyV ⟨1, a, []⟩))), (Value.string (bs (keyV ⟨1, b, []⟩)))]) ok42 ⟨(ev_hit hN648 rfl), ⟨(ev_hit hN648 rfl), trivial⟩⟩ (CompareText_ret (keyV ⟨1, a, []⟩) (keyV ⟨1, b, []⟩) _ (by first | assumption | omega | (simp only [List.length_append, List.length_cons, List.length_nil, List.length_drop, List.length_take]; omega) | (dsimp only; omega) | decide | (simp [keyV, be8_len]; done)) (by first | assumption | omega | (simp only [List.length_append, List.length_cons, List.length_nil, List.length_drop, List.length_take]; omega) | (dsimp only; omega) | decide | (simp [keyV, be8_len]; done))) ?_
          rintro _ w664 ⟨E665, rfl⟩
          have E665 := grown_of_below E665
          have z_w664 := E665.size
          have hO630 := hO630.keep0 E665
          have hO635 := hO635.keep0 E665
          have hb := below_step0 hb E665 hb.size
          refine g_true (j := 3) (dj := 27) (b := true) rfl rfl rfl (ev_hit hN648 rfl) ?_
          refine op_move (ev_hit hN648 rfl) ?_
          refine g_true (j := 3) (dj := 27) (b := true) rfl rfl rfl (ev_hit hN648 rfl) ?_
          refine op_eql (ev_hit hN648 rfl) (ev_hit hN648 rfl) (fun c32 => ?_) (fun c32 => ?_)
          · -- 32 True
            refine op_pick_t (ev_hit hN648 rfl) (ev_hit hN648 rfl) ?_
            refine op_move (ev_hit hN648 rfl) ?_
            refine g_true (j := 10) (dj := 34) (b := true) rfl rfl rfl (ev_hit hN648 rfl) ?_
            refine op_move (ev_base hN648 rfl s648_0) ?_
            refine g_true (j := 10) (dj := 34) (b := true) rfl rfl rfl (ev_hit hN648 rfl) ?_
            refine op_build (pv := [(0, (Value.int .i64 1)), (1, (Value.int .i64 a))]) (v := (Value.agg #[(Value.int .i64 1), (Value.int .i64 a), (Value.string (bs []))])) ⟨rfl, rfl, ⟨rfl, (ev_hit hN648 rfl), trivial⟩⟩ (by kernel_rfl) ?_
            refine g_true (j := 10) (dj := 34) (b := true) rfl rfl rfl (ev_hit hN648 rfl) ?_
            refine op_move (ev_base hN648 rfl s648_1) ?_
            refine g_true (j := 10) (dj := 34) (b := true) rfl rfl rfl (ev_hit hN648 rfl) ?_
            refine op_build (pv := [(0, (Value.int .i64 1)), (1, (Value.int .i64 b))]) (v := (Value.agg #[(Value.int .i64 1), (Value.int .i64 b), (Value.string (bs []))])) ⟨rfl, rfl, ⟨rfl, (ev_hit hN648 rfl), trivial⟩⟩ (by kernel_rfl) ?_
            refine g_true (j := 10) (dj := 34) (b := true) rfl rfl rfl (ev_hit hN648 rfl) ?_
            refine op_fn (vs := [(Value.agg #[(Value.int .i64 1), (Value.int .i64 a), (Value.string (bs []))]), (Value.agg #[(Value.int .i64 1), (Value.int .i64 b), (Value.string (bs []))])]) ok35 ⟨(ev_hit hN648 rfl), ⟨(ev_hit hN648 rfl), trivial⟩⟩ (Compare_ret ⟨1, a, []⟩ ⟨1, b, []⟩ _) ?_
            rintro _ w666 ⟨E667, rfl⟩
            have E667 := grown_of_below E667
            have z_w666 := E667.size
            have hO630 := hO630.keep0 E667
            have hO635 := hO635.keep0 E667
            have hb := below_step0 hb E667 hb.size
            refine g_true (j := 10) (dj := 34) (b := true) rfl rfl rfl (ev_hit hN648 rfl) ?_
            refine op_move (ev_hit hN648 rfl) ?_
            refine g_true (j := 10) (dj := 34) (b := true) rfl rfl rfl (ev_hit hN648 rfl) ?_
            refine op_eql (ev_hit hN648 rfl) (ev_hit hN648 rfl) (fun c41 => ?_) (fun c41 => ?_)
            · -- 41 True
              refine op_pick_t (ev_hit hN648 rfl) (ev_hit hN648 rfl) ?_
              refine op_assign (ev_hit hN648 rfl) ?_
              refine reg_nil ?_
              refine hK663 _ _ ?_
              refine wp_ret ?_
              refine ret1 rfl hd648 (ev_hit hN648 rfl) ⟨_, rfl, ?_⟩
              -- path 20F 23F 26T 32T 41T
              exact ⟨hb, rfl⟩
            · -- 41 False
              exact absurd (by simp only [cmpW, cmpI, cmpT]; (repeat' split) <;> omega) c41
          · -- 32 False
            exact absurd (by have := key_int ha hb2; simp only [keyV, if_true]; rw [this]; simp only [cmpI]; (repeat' split) <;> omega) c32
        · -- 26 False
          exact absurd (by simp [keyV, be8_len]) c26

end Go.Proofs.Ytkkongnmcfdioaa
