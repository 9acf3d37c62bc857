/- Walks, written by a program: what each function of the translation hands back. -/
import Derived.Test.YtkkongnmcfdioaaV1
namespace Go.Proofs.Ytkkongnmcfdioaa
open Go.Gx Go.RowKit
attribute [local irreducible] wpList Code.wp Calls

theorem CompareText_ret (s t : List UInt8) (w : World) (hs : s.length ≤ 4000000000000000000) (ht : t.length ≤ 4000000000000000000) : Ret Try.prog 42 #[(Value.string (bs s)), (Value.string (bs t))] w (fun v' w' => Below w.heap.size w w' ∧ v' = .int .i64 (cmpT s t)) := by
  have hb := Below.refl w.heap.size w
  refine enter (N := 42) Try.func42 rfl rfl (by simp) fun a0 hN hd hA => ?_
  have s0 : a0.tmps.getD 0 undef = (Value.string (bs s)) := hA 0 (by simp)
  have s1 : a0.tmps.getD 1 undef = (Value.string (bs t)) := hA 1 (by simp)
  clear hA
  refine seq_any fun K30 hK30 => ?_
  refine one_reg ?_
  refine op_assign rfl ?_
  refine reg_nil ?_
  refine hK30 _ _ ?_
  refine seq_any fun K31 hK31 => ?_
  refine seq_any fun K32 hK32 => ?_
  refine one_reg ?_
  refine op_assign rfl ?_
  refine reg_nil ?_
  refine hK32 _ _ ?_
  refine wp_block ?_
  refine loop_m (fun m a w' => ∃ (i : Nat), m = s.length - i ∧ (a.tmps.getD 0 undef = (Value.string (bs s))) ∧ (a.tmps.getD 1 undef = (Value.string (bs t))) ∧ (a.tmps.getD 5 undef = (Value.int .i64 ((i : Nat) : Int))) ∧ (i ≤ s.length ∧ i ≤ t.length) ∧ (cmpT s t = cmpT (s.drop i) (t.drop i)) ∧ (Below w.heap.size w w')) _ hN hd ⟨0, rfl, (sl_base hN rfl s0), (sl_base hN rfl s1), (sl_hit hN rfl), ⟨Nat.zero_le _, Nat.zero_le _⟩, rfl, hb⟩ ?_
  rintro _ a33 w33 hN33 hd33 ⟨i, rfl, s33_0, s33_1, s33_5, hi, he, hb⟩
  have z_w33 := hb.size
  refine seq_any fun K34 hK34 => ?_
  refine seq_any fun K35 hK35 => ?_
  refine one_reg ?_
  refine op_move (ev_base hN33 rfl s33_5) ?_
  refine op_move (ev_base hN33 rfl s33_0) ?_
  refine op_len_str Try.underlying9 (ev_hit hN33 rfl) ?_
  refine op_lss (ev_hit hN33 rfl) (ev_hit hN33 rfl) (fun c9 => ?_) (fun c9 => ?_)
  · -- 9 True
    refine op_move (ev_hit hN33 rfl) ?_
    refine g_true (j := 4) (dj := 10) (b := true) rfl rfl rfl (ev_hit hN33 rfl) ?_
    refine op_move (ev_base hN33 rfl s33_5) ?_
    refine g_true (j := 4) (dj := 10) (b := true) rfl rfl rfl (ev_hit hN33 rfl) ?_
    refine op_move (ev_base hN33 rfl s33_1) ?_
    refine g_true (j := 4) (dj := 10) (b := true) rfl rfl rfl (ev_hit hN33 rfl) ?_
    refine op_len_str Try.underlying9 (ev_hit hN33 rfl) ?_
    refine g_true (j := 4) (dj := 10) (b := true) rfl rfl rfl (ev_hit hN33 rfl) ?_
    refine op_lss (ev_hit hN33 rfl) (ev_hit hN33 rfl) (fun c14 => ?_) (fun c14 => ?_)
    · -- 14 True
      refine op_pick_t (ev_hit hN33 rfl) (ev_hit hN33 rfl) ?_
      refine reg_nil ?_
      refine hK35 _ _ ?_
      refine wp_cond_true (ev_hit hN33 rfl) ?_
      refine wp_skip ?_
      refine hK34 _ _ ?_
      refine seq_any fun K36 hK36 => ?_
      refine wp_block ?_
      refine seq_any fun K37 hK37 => ?_
      refine seq_any fun K38 hK38 => ?_
      refine reg_quiet (Φ := phiL [(fun u _ => u = (Value.string (bs s))), (fun u _ => u = (Value.int .i64 ((i : Nat) : Int))), (fun u _ => u = (Value.int .u8 ((s.getD i 0).toNat : Int))), (fun u _ => u = (Value.string (bs t))), (fun u _ => u = (Value.int .i64 ((i : Nat) : Int))), (fun u _ => u = (Value.int .u8 ((t.getD i 0).toNat : Int))), (fun u _ => u = (Value.bool (decide (((s.getD i 0).toNat : Int) < ((t.getD i 0).toNat : Int)))))]) mixed (by kernel_rfl) (by kernel_rfl) (by kernel_rfl) hN33 (StL.get (StL.eq (StL.eq (StL.eq (StL.eq (StL.eq (StL.eq (StL.eq (StL.nil _))))))))) (ObL.get (s := 7) (ObL.cons ?_ (ObL.cons ?_ (ObL.cons ?_ (ObL.cons ?_ (ObL.cons ?_ (ObL.cons ?_ (ObL.cons ?_ (ObL.nil)))))))) rfl) ?_
      · -- operation 0, slot 18
        intro a39 w39 hN39 hR39 hbs39 hdp39
        have hR39 : w33.grownBy w39 none := hR39
        have q39_0 : a39.tmps.getD 0 undef = (Value.string (bs s)) := (hbs39 0 rfl).trans (sl_base hN33 rfl s33_0)
        clear hbs39 hdp39
        refine op_move (ev_base hN39 rfl q39_0) ?_
        exact obN_end rfl rfl ((grown_refl _ _))
      · -- operation 1, slot 19
        intro a40 w40 hN40 hR40 hbs40 hdp40
        have hR40 : w33.grownBy w40 none := hR40
        have q40_5 : a40.tmps.getD 5 undef = (Value.int .i64 ((i : Nat) : Int)) := (hbs40 5 rfl).trans (sl_base hN33 rfl s33_5)
        clear hbs40 hdp40
        refine op_move (ev_base hN40 rfl q40_5) ?_
        exact obN_end rfl rfl ((grown_refl _ _))
      · -- operation 2, slot 20
        intro a41 w41 hN41 hR41 hbs41 hdp41
        have hR41 : w33.grownBy w41 none := hR41
        have z_w41 := hR41.size
        have hb := below_step0 hb hR41 hb.size
        have q41_18 : a41.tmps.getD 18 undef = (Value.string (bs s)) := hdp41 0 _ 18 (by kernel_rfl) rfl rfl
        have q41_19 : a41.tmps.getD 19 undef = (Value.int .i64 ((i : Nat) : Int)) := hdp41 1 _ 19 (by kernel_rfl) rfl rfl
        clear hbs41 hdp41
        refine op_index_str (b := (s.getD i 0)) Try.underlying9 (ev_base hN41 rfl q41_18) (ev_base hN41 rfl q41_19) (by omega) (el_str (i := i) (by omega) (by omega)) ?_
        exact obN_end rfl rfl ((grown_refl _ _))
      · -- operation 3, slot 21
        intro a42 w42 hN42 hR42 hbs42 hdp42
        have hR42 : w33.grownBy w42 none := hR42
        have q42_1 : a42.tmps.getD 1 undef = (Value.string (bs t)) := (hbs42 1 rfl).trans (sl_base hN33 rfl s33_1)
        clear hbs42 hdp42
        refine op_move (ev_base hN42 rfl q42_1) ?_
        exact obN_end rfl rfl ((grown_refl _ _))
      · -- operation 4, slot 22
        intro a43 w43 hN43 hR43 hbs43 hdp43
        have hR43 : w33.grownBy w43 none := hR43
        have q43_5 : a43.tmps.getD 5 undef = (Value.int .i64 ((i : Nat) : Int)) := (hbs43 5 rfl).trans (sl_base hN33 rfl s33_5)
        clear hbs43 hdp43
        refine op_move (ev_base hN43 rfl q43_5) ?_
        exact obN_end rfl rfl ((grown_refl _ _))
      · -- operation 5, slot 23
        intro a44 w44 hN44 hR44 hbs44 hdp44
        have hR44 : w33.grownBy w44 none := hR44
        have z_w44 := hR44.size
        have hb := below_step0 hb hR44 hb.size
        have q44_21 : a44.tmps.getD 21 undef = (Value.string (bs t)) := hdp44 3 _ 21 (by kernel_rfl) rfl rfl
        have q44_22 : a44.tmps.getD 22 undef = (Value.int .i64 ((i : Nat) : Int)) := hdp44 4 _ 22 (by kernel_rfl) rfl rfl
        clear hbs44 hdp44
        refine op_index_str (b := (t.getD i 0)) Try.underlying9 (ev_base hN44 rfl q44_21) (ev_base hN44 rfl q44_22) (by omega) (el_str (i := i) (by omega) (by omega)) ?_
        exact obN_end rfl rfl ((grown_refl _ _))
      · -- operation 6, slot 24
        intro a45 w45 hN45 hR45 hbs45 hdp45
        have hR45 : w33.grownBy w45 none := hR45
        have q45_20 : a45.tmps.getD 20 undef = (Value.int .u8 ((s.getD i 0).toNat : Int)) := hdp45 2 _ 20 (by kernel_rfl) rfl rfl
        have q45_23 : a45.tmps.getD 23 undef = (Value.int .u8 ((t.getD i 0).toNat : Int)) := hdp45 5 _ 23 (by kernel_rfl) rfl rfl
        clear hbs45 hdp45
        refine op_cmp (b := (decide (((s.getD i 0).toNat : Int) < ((t.getD i 0).toNat : Int)))) (ev_base hN45 rfl q45_20) (ev_base hN45 rfl q45_23) (b_lss rfl) ?_
        exact obN_end rfl rfl ((grown_refl _ _))
      · -- behind the region
        intro a46 w46 hN46 hd46 hbs46 hph46 E46
        have hd46 := hd46.trans hd33
        have s46_0 : a46.tmps.getD 0 undef = (Value.string (bs s)) := (hbs46 0 rfl).trans (sl_base hN33 rfl s33_0)
        have s46_1 : a46.tmps.getD 1 undef = (Value.string (bs t)) := (hbs46 1 rfl).trans (sl_base hN33 rfl s33_1)
        have s46_5 : a46.tmps.getD 5 undef = (Value.int .i64 ((i : Nat) : Int)) := (hbs46 5 rfl).trans (sl_base hN33 rfl s33_5)
        have s46_6 : a46.tmps.getD 6 undef = (Value.int .i64 ((i : Nat) : Int)) := (hbs46 6 rfl).trans (sl_hit hN33 rfl)
        have s46_7 : a46.tmps.getD 7 undef = (Value.string (bs s)) := (hbs46 7 rfl).trans (sl_hit hN33 rfl)
        have s46_8 : a46.tmps.getD 8 undef = (Value.int .i64 (s.length : Int)) := (hbs46 8 rfl).trans (sl_hit hN33 rfl)
        have s46_9 : a46.tmps.getD 9 undef = (Value.bool true) := (hbs46 9 rfl).trans (sl_hit hN33 rfl)
        have s46_10 : a46.tmps.getD 10 undef = (Value.bool true) := (hbs46 10 rfl).trans (sl_hit hN33 rfl)
        have s46_11 : a46.tmps.getD 11 undef = (Value.int .i64 ((i : Nat) : Int)) := (hbs46 11 rfl).trans (sl_hit hN33 rfl)
        have s46_12 : a46.tmps.getD 12 undef = (Value.string (bs t)) := (hbs46 12 rfl).trans (sl_hit hN33 rfl)
        have s46_13 : a46.tmps.getD 13 undef = (Value.int .i64 (t.length : Int)) := (hbs46 13 rfl).trans (sl_hit hN33 rfl)
        have s46_14 : a46.tmps.getD 14 undef = (Value.bool true) := (hbs46 14 rfl).trans (sl_hit hN33 rfl)
        have s46_15 : a46.tmps.getD 15 undef = (Value.bool true) := (hbs46 15 rfl).trans (sl_hit hN33 rfl)
        have s46_18 : a46.tmps.getD 18 undef = (Value.string (bs s)) := hph46 0 _ 18 rfl rfl
        have s46_19 : a46.tmps.getD 19 undef = (Value.int .i64 ((i : Nat) : Int)) := hph46 1 _ 19 rfl rfl
        have s46_20 : a46.tmps.getD 20 undef = (Value.int .u8 ((s.getD i 0).toNat : Int)) := hph46 2 _ 20 rfl rfl
        have s46_21 : a46.tmps.getD 21 undef = (Value.string (bs t)) := hph46 3 _ 21 rfl rfl
        have s46_22 : a46.tmps.getD 22 undef = (Value.int .i64 ((i : Nat) : Int)) := hph46 4 _ 22 rfl rfl
        have s46_23 : a46.tmps.getD 23 undef = (Value.int .u8 ((t.getD i 0).toNat : Int)) := hph46 5 _ 23 rfl rfl
        have s46_24 : a46.tmps.getD 24 undef = (Value.bool (decide (((s.getD i 0).toNat : Int) < ((t.getD i 0).toNat : Int)))) := hph46 6 _ 24 rfl rfl
        clear hbs46 hph46
        have E46 : w33.grownBy w46 none := E46
        have z_w46 := E46.size
        have hb := below_step0 hb E46 hb.size
        refine hK38 _ _ ?_
        refine wp_cond_split (ev_base hN46 rfl s46_24) (fun c24 => ?_) (fun c24 => ?_)
        · -- 24 True
          have c24 := of_decide_eq_true c24
          refine seq_any fun K47 hK47 => ?_
          refine one_reg ?_
          refine op_assign rfl ?_
          refine reg_nil ?_
          refine hK47 _ _ ?_
          refine wp_ret (then_ret (blk_ret (then_ret (then_ret (blk_ret (then_ret ( ?_)))))))
          refine ret1 rfl hd46 (ev_hit hN46 rfl) ⟨_, rfl, ?_⟩
          -- path 9T 14T 24T
          exact ⟨hb, congrArg (Value.int .i64) (by rw [he, cmpT_step (by omega) (by omega), if_pos (by omega)])⟩
        · -- 24 False
          have c24 := of_decide_eq_false c24
          refine wp_skip ?_
          refine hK37 _ _ ?_
          refine seq_any fun K48 hK48 => ?_
          refine reg_quiet (Φ := phiL [(fun u _ => u = (Value.string (bs s))), (fun u _ => u = (Value.int .i64 ((i : Nat) : Int))), (fun u _ => u = (Value.int .u8 ((s.getD i 0).toNat : Int))), (fun u _ => u = (Value.string (bs t))), (fun u _ => u = (Value.int .i64 ((i : Nat) : Int))), (fun u _ => u = (Value.int .u8 ((t.getD i 0).toNat : Int))), (fun u _ => u = (Value.bool (decide (((t.getD i 0).toNat : Int) < ((s.getD i 0).toNat : Int)))))]) mixed (by kernel_rfl) (by kernel_rfl) (by kernel_rfl) hN46 (StL.get (StL.eq (StL.eq (StL.eq (StL.eq (StL.eq (StL.eq (StL.eq (StL.nil _))))))))) (ObL.get (s := 7) (ObL.cons ?_ (ObL.cons ?_ (ObL.cons ?_ (ObL.cons ?_ (ObL.cons ?_ (ObL.cons ?_ (ObL.cons ?_ (ObL.nil)))))))) rfl) ?_
          · -- operation 0, slot 25
            intro a49 w49 hN49 hR49 hbs49 hdp49
            have hR49 : w46.grownBy w49 none := hR49
            have q49_0 : a49.tmps.getD 0 undef = (Value.string (bs s)) := (hbs49 0 rfl).trans (sl_base hN46 rfl s46_0)
            clear hbs49 hdp49
            refine op_move (ev_base hN49 rfl q49_0) ?_
            exact obN_end rfl rfl ((grown_refl _ _))
          · -- operation 1, slot 26
            intro a50 w50 hN50 hR50 hbs50 hdp50
            have hR50 : w46.grownBy w50 none := hR50
            have q50_5 : a50.tmps.getD 5 undef = (Value.int .i64 ((i : Nat) : Int)) := (hbs50 5 rfl).trans (sl_base hN46 rfl s46_5)
            clear hbs50 hdp50
            refine op_move (ev_base hN50 rfl q50_5) ?_
            exact obN_end rfl rfl ((grown_refl _ _))
          · -- operation 2, slot 27
            intro a51 w51 hN51 hR51 hbs51 hdp51
            have hR51 : w46.grownBy w51 none := hR51
            have z_w51 := hR51.size
            have hb := below_step0 hb hR51 hb.size
            have q51_25 : a51.tmps.getD 25 undef = (Value.string (bs s)) := hdp51 0 _ 25 (by kernel_rfl) rfl rfl
            have q51_26 : a51.tmps.getD 26 undef = (Value.int .i64 ((i : Nat) : Int)) := hdp51 1 _ 26 (by kernel_rfl) rfl rfl
            clear hbs51 hdp51
            refine op_index_str (b := (s.getD i 0)) Try.underlying9 (ev_base hN51 rfl q51_25) (ev_base hN51 rfl q51_26) (by omega) (el_str (i := i) (by omega) (by omega)) ?_
            exact obN_end rfl rfl ((grown_refl _ _))
          · -- operation 3, slot 28
            intro a52 w52 hN52 hR52 hbs52 hdp52
            have hR52 : w46.grownBy w52 none := hR52
            have q52_1 : a52.tmps.getD 1 undef = (Value.string (bs t)) := (hbs52 1 rfl).trans (sl_base hN46 rfl s46_1)
            clear hbs52 hdp52
            refine op_move (ev_base hN52 rfl q52_1) ?_
            exact obN_end rfl rfl ((grown_refl _ _))
          · -- operation 4, slot 29
            intro a53 w53 hN53 hR53 hbs53 hdp53
            have hR53 : w46.grownBy w53 none := hR53
            have q53_5 : a53.tmps.getD 5 undef = (Value.int .i64 ((i : Nat) : Int)) := (hbs53 5 rfl).trans (sl_base hN46 rfl s46_5)
            clear hbs53 hdp53
            refine op_move (ev_base hN53 rfl q53_5) ?_
            exact obN_end rfl rfl ((grown_refl _ _))
          · -- operation 5, slot 30
            intro a54 w54 hN54 hR54 hbs54 hdp54
            have hR54 : w46.grownBy w54 none := hR54
            have z_w54 := hR54.size
            have hb := below_step0 hb hR54 hb.size
            have q54_28 : a54.tmps.getD 28 undef = (Value.string (bs t)) := hdp54 3 _ 28 (by kernel_rfl) rfl rfl
            have q54_29 : a54.tmps.getD 29 undef = (Value.int .i64 ((i : Nat) : Int)) := hdp54 4 _ 29 (by kernel_rfl) rfl rfl
            clear hbs54 hdp54
            refine op_index_str (b := (t.getD i 0)) Try.underlying9 (ev_base hN54 rfl q54_28) (ev_base hN54 rfl q54_29) (by omega) (el_str (i := i) (by omega) (by omega)) ?_
            exact obN_end rfl rfl ((grown_refl _ _))
          · -- operation 6, slot 31
            intro a55 w55 hN55 hR55 hbs55 hdp55
            have hR55 : w46.grownBy w55 none := hR55
            have q55_27 : a55.tmps.getD 27 undef = (Value.int .u8 ((s.getD i 0).toNat : Int)) := hdp55 2 _ 27 (by kernel_rfl) rfl rfl
            have q55_30 : a55.tmps.getD 30 undef = (Value.int .u8 ((t.getD i 0).toNat : Int)) := hdp55 5 _ 30 (by kernel_rfl) rfl rfl
            clear hbs55 hdp55
            refine op_cmp (b := (decide (((t.getD i 0).toNat : Int) < ((s.getD i 0).toNat : Int)))) (ev_base hN55 rfl q55_27) (ev_base hN55 rfl q55_30) (b_gtr rfl) ?_
            exact obN_end rfl rfl ((grown_refl _ _))
          · -- behind the region
            intro a56 w56 hN56 hd56 hbs56 hph56 E56
            have hd56 := hd56.trans hd46
            have s56_0 : a56.tmps.getD 0 undef = (Value.string (bs s)) := (hbs56 0 rfl).trans (sl_base hN46 rfl s46_0)
            have s56_1 : a56.tmps.getD 1 undef = (Value.string (bs t)) := (hbs56 1 rfl).trans (sl_base hN46 rfl s46_1)
            have s56_5 : a56.tmps.getD 5 undef = (Value.int .i64 ((i : Nat) : Int)) := (hbs56 5 rfl).trans (sl_base hN46 rfl s46_5)
            have s56_6 : a56.tmps.getD 6 undef = (Value.int .i64 ((i : Nat) : Int)) := (hbs56 6 rfl).trans (sl_base hN46 rfl s46_6)
            have s56_7 : a56.tmps.getD 7 undef = (Value.string (bs s)) := (hbs56 7 rfl).trans (sl_base hN46 rfl s46_7)
            have s56_8 : a56.tmps.getD 8 undef = (Value.int .i64 (s.length : Int)) := (hbs56 8 rfl).trans (sl_base hN46 rfl s46_8)
            have s56_9 : a56.tmps.getD 9 undef = (Value.bool true) := (hbs56 9 rfl).trans (sl_base hN46 rfl s46_9)
            have s56_10 : a56.tmps.getD 10 undef = (Value.bool true) := (hbs56 10 rfl).trans (sl_base hN46 rfl s46_10)
            have s56_11 : a56.tmps.getD 11 undef = (Value.int .i64 ((i : Nat) : Int)) := (hbs56 11 rfl).trans (sl_base hN46 rfl s46_11)
            have s56_12 : a56.tmps.getD 12 undef = (Value.string (bs t)) := (hbs56 12 rfl).trans (sl_base hN46 rfl s46_12)
            have s56_13 : a56.tmps.getD 13 undef = (Value.int .i64 (t.length : Int)) := (hbs56 13 rfl).trans (sl_base hN46 rfl s46_13)
            have s56_14 : a56.tmps.getD 14 undef = (Value.bool true) := (hbs56 14 rfl).trans (sl_base hN46 rfl s46_14)
            have s56_15 : a56.tmps.getD 15 undef = (Value.bool true) := (hbs56 15 rfl).trans (sl_base hN46 rfl s46_15)
            have s56_18 : a56.tmps.getD 18 undef = (Value.string (bs s)) := (hbs56 18 rfl).trans (sl_base hN46 rfl s46_18)
            have s56_19 : a56.tmps.getD 19 undef = (Value.int .i64 ((i : Nat) : Int)) := (hbs56 19 rfl).trans (sl_base hN46 rfl s46_19)
            have s56_20 : a56.tmps.getD 20 undef = (Value.int .u8 ((s.getD i 0).toNat : Int)) := (hbs56 20 rfl).trans (sl_base hN46 rfl s46_20)
            have s56_21 : a56.tmps.getD 21 undef = (Value.string (bs t)) := (hbs56 21 rfl).trans (sl_base hN46 rfl s46_21)
            have s56_22 : a56.tmps.getD 22 undef = (Value.int .i64 ((i : Nat) : Int)) := (hbs56 22 rfl).trans (sl_base hN46 rfl s46_22)
            have s56_23 : a56.tmps.getD 23 undef = (Value.int .u8 ((t.getD i 0).toNat : Int)) := (hbs56 23 rfl).trans (sl_base hN46 rfl s46_23)
            have s56_24 : a56.tmps.getD 24 undef = (Value.bool (decide (((s.getD i 0).toNat : Int) < ((t.getD i 0).toNat : Int)))) := (hbs56 24 rfl).trans (sl_base hN46 rfl s46_24)
            have s56_25 : a56.tmps.getD 25 undef = (Value.string (bs s)) := hph56 0 _ 25 rfl rfl
            have s56_26 : a56.tmps.getD 26 undef = (Value.int .i64 ((i : Nat) : Int)) := hph56 1 _ 26 rfl rfl
            have s56_27 : a56.tmps.getD 27 undef = (Value.int .u8 ((s.getD i 0).toNat : Int)) := hph56 2 _ 27 rfl rfl
            have s56_28 : a56.tmps.getD 28 undef = (Value.string (bs t)) := hph56 3 _ 28 rfl rfl
            have s56_29 : a56.tmps.getD 29 undef = (Value.int .i64 ((i : Nat) : Int)) := hph56 4 _ 29 rfl rfl
            have s56_30 : a56.tmps.getD 30 undef = (Value.int .u8 ((t.getD i 0).toNat : Int)) := hph56 5 _ 30 rfl rfl
            have s56_31 : a56.tmps.getD 31 undef = (Value.bool (decide (((t.getD i 0).toNat : Int) < ((s.getD i 0).toNat : Int)))) := hph56 6 _ 31 rfl rfl
            clear hbs56 hph56
            have E56 : w46.grownBy w56 none := E56
            have z_w56 := E56.size
            have hb := below_step0 hb E56 hb.size
            refine hK48 _ _ ?_
            refine wp_cond_split (ev_base hN56 rfl s56_31) (fun c31 => ?_) (fun c31 => ?_)
            · -- 31 True
              have c31 := of_decide_eq_true c31
              refine seq_any fun K57 hK57 => ?_
              refine one_reg ?_
              refine op_assign rfl ?_
              refine reg_nil ?_
              refine hK57 _ _ ?_
              refine wp_ret (blk_ret (then_ret (then_ret (blk_ret (then_ret ( ?_))))))
              refine ret1 rfl hd56 (ev_hit hN56 rfl) ⟨_, rfl, ?_⟩
              -- path 9T 14T 24F 31T
              exact ⟨hb, congrArg (Value.int .i64) (by rw [he, cmpT_step (by omega) (by omega), if_neg (by omega), if_pos (by omega)])⟩
            · -- 31 False
              have c31 := of_decide_eq_false c31
              refine wp_skip ?_
              refine hK36 _ _ ?_
              refine one_reg ?_
              refine op_move (ev_base hN56 rfl s56_5) ?_
              refine op_add (ev_hit hN56 rfl) rfl (add64 (by omega)) ?_
              refine op_assign (ev_hit hN56 rfl) ?_
              refine reg_nil ?_
              -- round 9T 14T 24F 31F
              exact loop_next _ hN56 hd56 ⟨i + 1, rfl, (sl_base hN56 rfl s56_0), (sl_base hN56 rfl s56_1), (sl_hit hN56 rfl).trans (congrArg (Value.int .i64) (by omega)), (by omega), (he.trans ((cmpT_step (by omega) (by omega)).trans (by rw [if_neg (by omega), if_neg (by omega)]))), hb⟩ (by omega)
    · -- 14 False
      refine op_pick_t (ev_hit hN33 rfl) (ev_hit hN33 rfl) ?_
      refine reg_nil ?_
      refine hK35 _ _ ?_
      refine wp_cond_false (ev_hit hN33 rfl) ?_
      refine wp_exit (then_exit (then_exit (blk_hit ?_)))
      refine hK31 _ _ ?_
      refine seq_any fun K58 hK58 => ?_
      refine seq_any fun K59 hK59 => ?_
      refine one_reg ?_
      refine op_move (ev_base hN33 rfl s33_0) ?_
      refine op_len_str Try.underlying9 (ev_hit hN33 rfl) ?_
      refine op_move (ev_base hN33 rfl s33_1) ?_
      refine op_len_str Try.underlying9 (ev_hit hN33 rfl) ?_
      refine op_lss (ev_hit hN33 rfl) (ev_hit hN33 rfl) (fun c36 => ?_) (fun c36 => ?_)
      · -- 36 True
        refine reg_nil ?_
        refine hK59 _ _ ?_
        refine wp_cond_true (ev_hit hN33 rfl) ?_
        refine seq_any fun K60 hK60 => ?_
        refine one_reg ?_
        refine op_assign rfl ?_
        refine reg_nil ?_
        refine hK60 _ _ ?_
        refine wp_ret (then_ret ( ?_))
        refine ret1 rfl hd33 (ev_hit hN33 rfl) ⟨_, rfl, ?_⟩
        -- path 9T 14F 36T
        exact ⟨hb, congrArg (Value.int .i64) (by rw [he]; rw [cmpT_end hi (by omega)]; first | (exfalso; omega) | rw [if_pos (by omega)] | rw [if_neg (by omega), if_pos (by omega)] | rw [if_neg (by omega), if_neg (by omega)])⟩
      · -- 36 False
        refine reg_nil ?_
        refine hK59 _ _ ?_
        refine wp_cond_false (ev_hit hN33 rfl) ?_
        refine wp_skip ?_
        refine hK58 _ _ ?_
        refine seq_any fun K61 hK61 => ?_
        refine seq_any fun K62 hK62 => ?_
        refine one_reg ?_
        refine op_move (ev_base hN33 rfl s33_0) ?_
        refine op_len_str Try.underlying9 (ev_hit hN33 rfl) ?_
        refine op_move (ev_base hN33 rfl s33_1) ?_
        refine op_len_str Try.underlying9 (ev_hit hN33 rfl) ?_
        refine op_gtr (ev_hit hN33 rfl) (ev_hit hN33 rfl) (fun c41 => ?_) (fun c41 => ?_)
        · -- 41 True
          refine reg_nil ?_
          refine hK62 _ _ ?_
          refine wp_cond_true (ev_hit hN33 rfl) ?_
          refine seq_any fun K63 hK63 => ?_
          refine one_reg ?_
          refine op_assign rfl ?_
          refine reg_nil ?_
          refine hK63 _ _ ?_
          refine wp_ret (then_ret ( ?_))
          refine ret1 rfl hd33 (ev_hit hN33 rfl) ⟨_, rfl, ?_⟩
          -- path 9T 14F 36F 41T
          exact ⟨hb, congrArg (Value.int .i64) (by rw [he]; rw [cmpT_end hi (by omega)]; first | (exfalso; omega) | rw [if_pos (by omega)] | rw [if_neg (by omega), if_pos (by omega)] | rw [if_neg (by omega), if_neg (by omega)])⟩
        · -- 41 False
          refine reg_nil ?_
          refine hK62 _ _ ?_
          refine wp_cond_false (ev_hit hN33 rfl) ?_
          refine wp_skip ?_
          refine hK61 _ _ ?_
          refine seq_any fun K64 hK64 => ?_
          refine one_reg ?_
          refine op_assign rfl ?_
          refine reg_nil ?_
          refine hK64 _ _ ?_
          refine wp_ret ?_
          refine ret1 rfl hd33 (ev_hit hN33 rfl) ⟨_, rfl, ?_⟩
          -- path 9T 14F 36F 41F
          exact ⟨hb, congrArg (Value.int .i64) (by rw [he]; rw [cmpT_end hi (by omega)]; first | (exfalso; omega) | rw [if_pos (by omega)] | rw [if_neg (by omega), if_pos (by omega)] | rw [if_neg (by omega), if_neg (by omega)])⟩
  · -- 9 False
    refine op_move (ev_hit hN33 rfl) ?_
    refine g_false (j := 4) (dj := 10) (b := true) rfl rfl rfl (ev_hit hN33 rfl) rfl rfl ?_
    refine g_false (j := 4) (dj := 10) (b := true) rfl rfl rfl (ev_hit hN33 rfl) rfl rfl ?_
    refine g_false (j := 4) (dj := 10) (b := true) rfl rfl rfl (ev_hit hN33 rfl) rfl rfl ?_
    refine g_false (j := 4) (dj := 10) (b := true) rfl rfl rfl (ev_hit hN33 rfl) rfl rfl ?_
    refine op_pick_f (ev_hit hN33 rfl) rfl ?_
    refine reg_nil ?_
    refine hK35 _ _ ?_
    refine wp_cond_false (ev_hit hN33 rfl) ?_
    refine wp_exit (then_exit (then_exit (blk_hit ?_)))
    refine hK31 _ _ ?_
    refine seq_any fun K65 hK65 => ?_
    refine seq_any fun K66 hK66 => ?_
    refine one_reg ?_
    refine op_move (ev_base hN33 rfl s33_0) ?_
    refine op_len_str Try.underlying9 (ev_hit hN33 rfl) ?_
    refine op_move (ev_base hN33 rfl s33_1) ?_
    refine op_len_str Try.underlying9 (ev_hit hN33 rfl) ?_
    refine op_lss (ev_hit hN33 rfl) (ev_hit hN33 rfl) (fun c36 => ?_) (fun c36 => ?_)
    · -- 36 True
      refine reg_nil ?_
      refine hK66 _ _ ?_
      refine wp_cond_true (ev_hit hN33 rfl) ?_
      refine seq_any fun K67 hK67 => ?_
      refine one_reg ?_
      refine op_assign rfl ?_
      refine reg_nil ?_
      refine hK67 _ _ ?_
      refine wp_ret (then_ret ( ?_))
      refine ret1 rfl hd33 (ev_hit hN33 rfl) ⟨_, rfl, ?_⟩
      -- path 9F 36T
      exact ⟨hb, congrArg (Value.int .i64) (by rw [he]; rw [cmpT_end hi (by omega)]; first | (exfalso; omega) | rw [if_pos (by omega)] | rw [if_neg (by omega), if_pos (by omega)] | rw [if_neg (by omega), if_neg (by omega)])⟩
    · -- 36 False
      refine reg_nil ?_
      refine hK66 _ _ ?_
      refine wp_cond_false (ev_hit hN33 rfl) ?_
      refine wp_skip ?_
      refine hK65 _ _ ?_
      refine seq_any fun K68 hK68 => ?_
      refine seq_any fun K69 hK69 => ?_
      refine one_reg ?_
      refine op_move (ev_base hN33 rfl s33_0) ?_
      refine op_len_str Try.underlying9 (ev_hit hN33 rfl) ?_
      refine op_move (ev_base hN33 rfl s33_1) ?_
      refine op_len_str Try.underlying9 (ev_hit hN33 rfl) ?_
      refine op_gtr (ev_hit hN33 rfl) (ev_hit hN33 rfl) (fun c41 => ?_) (fun c41 => ?_)
      · -- 41 True
        refine reg_nil ?_
        refine hK69 _ _ ?_
        refine wp_cond_true (ev_hit hN33 rfl) ?_
        refine seq_any fun K70 hK70 => ?_
        refine one_reg ?_
        refine op_assign rfl ?_
        refine reg_nil ?_
        refine hK70 _ _ ?_
        refine wp_ret (then_ret ( ?_))
        refine ret1 rfl hd33 (ev_hit hN33 rfl) ⟨_, rfl, ?_⟩
        -- path 9F 36F 41T
        exact ⟨hb, congrArg (Value.int .i64) (by rw [he]; rw [cmpT_end hi (by omega)]; first | (exfalso; omega) | rw [if_pos (by omega)] | rw [if_neg (by omega), if_pos (by omega)] | rw [if_neg (by omega), if_neg (by omega)])⟩
      · -- 41 False
        refine reg_nil ?_
        refine hK69 _ _ ?_
        refine wp_cond_false (ev_hit hN33 rfl) ?_
        refine wp_skip ?_
        refine hK68 _ _ ?_
        refine seq_any fun K71 hK71 => ?_
        refine one_reg ?_
        refine op_assign rfl ?_
        refine reg_nil ?_
        refine hK71 _ _ ?_
        refine wp_ret ?_
        refine ret1 rfl hd33 (ev_hit hN33 rfl) ⟨_, rfl, ?_⟩
        -- path 9F 36F 41F
        exact ⟨hb, congrArg (Value.int .i64) (by rw [he]; rw [cmpT_end hi (by omega)]; first | (exfalso; omega) | rw [if_pos (by omega)] | rw [if_neg (by omega), if_pos (by omega)] | rw [if_neg (by omega), if_neg (by omega)])⟩

theorem CompareValue_ret (x y : Vl) (w : World) (hs : x.s.length ≤ 4000000000000000000) (ht : y.s.length ≤ 4000000000000000000) : Ret Try.prog 36 #[(Value.agg #[(Value.int .i64 x.k), (Value.int .i64 x.n), (Value.string (bs x.s))]), (Value.agg #[(Value.int .i64 y.k), (Value.int .i64 y.n), (Value.string (bs y.s))])] w (fun v' w' => Below w.heap.size w w' ∧ v' = .int .i64 (cmpV x y)) := by
  have hb := Below.refl w.heap.size w
  refine enter (N := 48) Try.func36 rfl rfl (by simp) fun a0 hN hd hA => ?_
  have s0 : a0.tmps.getD 0 undef = (Value.agg #[(Value.int .i64 x.k), (Value.int .i64 x.n), (Value.string (bs x.s))]) := hA 0 (by simp)
  have s1 : a0.tmps.getD 1 undef = (Value.agg #[(Value.int .i64 y.k), (Value.int .i64 y.n), (Value.string (bs y.s))]) := hA 1 (by simp)
  clear hA
  refine seq_any fun K72 hK72 => ?_
  refine one_reg ?_
  refine op_box (cs := [(Value.int .i64 x.k), (Value.int .i64 x.n), (Value.string (bs x.s))]) (ev_base hN rfl s0) rfl ?_
  intro w73 b74 lo_b74 hi_b74 hB76 E75
  have z_w73 := E75.size
  have hb := below_step0 hb E75 hb.size
  refine op_box (cs := [(Value.int .i64 y.k), (Value.int .i64 y.n), (Value.string (bs y.s))]) (ev_base hN rfl s1) rfl ?_
  intro w77 b78 lo_b78 hi_b78 hB80 E79
  have z_w77 := E79.size
  have hB76 := hB76.keep0 E79
  have hb := below_step0 hb E79 hb.size
  refine op_assign rfl ?_
  refine reg_nil ?_
  refine hK72 _ _ ?_
  refine seq_any fun K81 hK81 => ?_
  refine wp_block ?_
  refine seq_any fun K82 hK82 => ?_
  refine one_reg ?_
  refine op_field fld50_0 (ev_hit hN rfl) ?_
  refine op_load1 (v := (Value.int .i64 x.k)) one3 (ev_hit hN rfl) (hB76.cell rfl) ?_
  refine op_field fld50_0 (ev_hit hN rfl) ?_
  refine op_load1 (v := (Value.int .i64 y.k)) one3 (ev_hit hN rfl) (hB80.cell rfl) ?_
  refine op_lss (ev_hit hN rfl) (ev_hit hN rfl) (fun c10 => ?_) (fun c10 => ?_)
  · -- 10 True
    refine op_assign (ev_hit hN rfl) ?_
    refine reg_nil ?_
    refine hK82 _ _ ?_
    refine wp_cond_true (ev_hit hN rfl) ?_
    refine seq_any fun K83 hK83 => ?_
    refine one_reg ?_
    refine op_assign rfl ?_
    refine reg_nil ?_
    refine hK83 _ _ ?_
    refine wp_ret (blk_ret (then_ret ( ?_)))
    refine ret1 rfl hd (ev_hit hN rfl) ⟨_, rfl, ?_⟩
    -- path 10T
    exact ⟨hb, congrArg (Value.int .i64) (by simp only [cmpV, cmpI]; (repeat' split) <;> omega)⟩
  · -- 10 False
    refine op_assign (ev_hit hN rfl) ?_
    refine reg_nil ?_
    refine hK82 _ _ ?_
    refine wp_cond_false (ev_hit hN rfl) ?_
    refine seq_any fun K84 hK84 => ?_
    refine one_reg ?_
    refine op_field fld50_0 (ev_hit hN rfl) ?_
    refine op_load1 (v := (Value.int .i64 x.k)) one3 (ev_hit hN rfl) (hB76.cell rfl) ?_
    refine op_field fld50_0 (ev_hit hN rfl) ?_
    refine op_load1 (v := (Value.int .i64 y.k)) one3 (ev_hit hN rfl) (hB80.cell rfl) ?_
    refine op_gtr (ev_hit hN rfl) (ev_hit hN rfl) (fun c16 => ?_) (fun c16 => ?_)
    · -- 16 True
      refine op_assign (ev_hit hN rfl) ?_
      refine reg_nil ?_
      refine hK84 _ _ ?_
      refine wp_cond_true (ev_hit hN rfl) ?_
      refine seq_any fun K85 hK85 => ?_
      refine one_reg ?_
      refine op_assign rfl ?_
      refine reg_nil ?_
      refine hK85 _ _ ?_
      refine wp_ret (blk_ret (then_ret ( ?_)))
      refine ret1 rfl hd (ev_hit hN rfl) ⟨_, rfl, ?_⟩
      -- path 10F 16T
      exact ⟨hb, congrArg (Value.int .i64) (by simp only [cmpV, cmpI]; (repeat' split) <;> omega)⟩
    · -- 16 False
      refine op_assign (ev_hit hN rfl) ?_
      refine reg_nil ?_
      refine hK84 _ _ ?_
      refine wp_cond_false (ev_hit hN rfl) ?_
      refine seq_any fun K86 hK86 => ?_
      refine one_reg ?_
      refine op_field fld50_0 (ev_hit hN rfl) ?_
      refine op_load1 (v := (Value.int .i64 x.k)) one3 (ev_hit hN rfl) (hB76.cell rfl) ?_
      refine op_eql (ev_hit hN rfl) rfl (fun c20 => ?_) (fun c20 => ?_)
      · -- 20 True
        refine op_move (ev_hit hN rfl) ?_
        refine g_true (j := 3) (dj := 21) (b := true) rfl rfl rfl (ev_hit hN rfl) ?_
        refine op_field fld50_1 (ev_hit hN rfl) ?_
        refine g_true (j := 3) (dj := 21) (b := true) rfl rfl rfl (ev_hit hN rfl) ?_
        refine op_load1 (v := (Value.int .i64 x.n)) one2 (ev_hit hN rfl) (hB76.cell rfl) ?_
        refine g_true (j := 3) (dj := 21) (b := true) rfl rfl rfl (ev_hit hN rfl) ?_
        refine op_field fld50_1 (ev_hit hN rfl) ?_
        refine g_true (j := 3) (dj := 21) (b := true) rfl rfl rfl (ev_hit hN rfl) ?_
        refine op_load1 (v := (Value.int .i64 y.n)) one2 (ev_hit hN rfl) (hB80.cell rfl) ?_
        refine g_true (j := 3) (dj := 21) (b := true) rfl rfl rfl (ev_hit hN rfl) ?_
        refine op_lss (ev_hit hN rfl) (ev_hit hN rfl) (fun c26 => ?_) (fun c26 => ?_)
        · -- 26 True
          refine op_pick_t (ev_hit hN rfl) (ev_hit hN rfl) ?_
          refine op_assign (ev_hit hN rfl) ?_
          refine reg_nil ?_
          refine hK86 _ _ ?_
          refine wp_cond_true (ev_hit hN rfl) ?_
          refine seq_any fun K87 hK87 => ?_
          refine one_reg ?_
          refine op_assign rfl ?_
          refine reg_nil ?_
          refine hK87 _ _ ?_
          refine wp_ret (blk_ret (then_ret ( ?_)))
          refine ret1 rfl hd (ev_hit hN rfl) ⟨_, rfl, ?_⟩
          -- path 10F 16F 20T 26T
          exact ⟨hb, congrArg (Value.int .i64) (by simp only [cmpV, cmpI]; (repeat' split) <;> omega)⟩
        · -- 26 False
          refine op_pick_t (ev_hit hN rfl) (ev_hit hN rfl) ?_
          refine op_assign (ev_hit hN rfl) ?_
          refine reg_nil ?_
          refine hK86 _ _ ?_
          refine wp_cond_false (ev_hit hN rfl) ?_
          refine seq_any fun K88 hK88 => ?_
          refine one_reg ?_
          refine op_field fld50_0 (ev_hit hN rfl) ?_
          refine op_load1 (v := (Value.int .i64 x.k)) one3 (ev_hit hN rfl) (hB76.cell rfl) ?_
          refine op_eql (ev_hit hN rfl) rfl (fun c31 => ?_) (fun c31 => ?_)
          · -- 31 True
            refine op_move (ev_hit hN rfl) ?_
            refine g_true (j := 3) (dj := 32) (b := true) rfl rfl rfl (ev_hit hN rfl) ?_
            refine op_field fld50_1 (ev_hit hN rfl) ?_
            refine g_true (j := 3) (dj := 32) (b := true) rfl rfl rfl (ev_hit hN rfl) ?_
            refine op_load1 (v := (Value.int .i64 x.n)) one2 (ev_hit hN rfl) (hB76.cell rfl) ?_
            refine g_true (j := 3) (dj := 32) (b := true) rfl rfl rfl (ev_hit hN rfl) ?_
            refine op_field fld50_1 (ev_hit hN rfl) ?_
            refine g_true (j := 3) (dj := 32) (b := true) rfl rfl rfl (ev_hit hN rfl) ?_
            refine op_load1 (v := (Value.int .i64 y.n)) one2 (ev_hit hN rfl) (hB80.cell rfl) ?_
            refine g_true (j := 3) (dj := 32) (b := true) rfl rfl rfl (ev_hit hN rfl) ?_
            refine op_gtr (ev_hit hN rfl) (ev_hit hN rfl) (fun c37 => ?_) (fun c37 => ?_)
            · -- 37 True
              refine op_pick_t (ev_hit hN rfl) (ev_hit hN rfl) ?_
              refine op_assign (ev_hit hN rfl) ?_
              refine reg_nil ?_
              refine hK88 _ _ ?_
              refine wp_cond_true (ev_hit hN rfl) ?_
              refine seq_any fun K89 hK89 => ?_
              refine one_reg ?_
              refine op_assign rfl ?_
              refine reg_nil ?_
              refine hK89 _ _ ?_
              refine wp_ret (blk_ret (then_ret ( ?_)))
              refine ret1 rfl hd (ev_hit hN rfl) ⟨_, rfl, ?_⟩
              -- path 10F 16F 20T 26F 31T 37T
              exact ⟨hb, congrArg (Value.int .i64) (by simp only [cmpV, cmpI]; (repeat' split) <;> omega)⟩
            · -- 37 False
              refine op_pick_t (ev_hit hN rfl) (ev_hit hN rfl) ?_
              refine op_assign (ev_hit hN rfl) ?_
              refine reg_nil ?_
              refine hK88 _ _ ?_
              refine wp_cond_false (ev_hit hN rfl) ?_
              refine seq_any fun K90 hK90 => ?_
              refine one_reg ?_
              refine op_field fld50_0 (ev_hit hN rfl) ?_
              refine op_load1 (v := (Value.int .i64 x.k)) one3 (ev_hit hN rfl) (hB76.cell rfl) ?_
              refine op_eql (ev_hit hN rfl) rfl (fun c42 => ?_) (fun c42 => ?_)
              · -- 42 True
                refine op_assign (ev_hit hN rfl) ?_
                refine reg_nil ?_
                refine hK90 _ _ ?_
                refine wp_cond_true (ev_hit hN rfl) ?_
                refine seq_any fun K91 hK91 => ?_
                refine one_reg ?_
                refine op_assign rfl ?_
                refine reg_nil ?_
                refine hK91 _ _ ?_
                refine wp_ret (blk_ret (then_ret ( ?_)))
                refine ret1 rfl hd (ev_hit hN rfl) ⟨_, rfl, ?_⟩
                -- path 10F 16F 20T 26F 31T 37F 42T
                exact ⟨hb, congrArg (Value.int .i64) (by simp only [cmpV, cmpI]; (repeat' split) <;> omega)⟩
              · -- 42 False
                refine op_assign (ev_hit hN rfl) ?_
                refine reg_nil ?_
                refine hK90 _ _ ?_
                refine wp_cond_false (ev_hit hN rfl) ?_
                refine wp_skip ?_
                refine hK81 _ _ ?_
                refine seq_any fun K92 hK92 => ?_
                refine one_reg ?_
                refine op_field fld50_2 (ev_hit hN rfl) ?_
                refine op_load1 (v := (Value.string (bs x.s))) one9 (ev_hit hN rfl) (hB76.cell rfl) ?_
                refine op_field fld50_2 (ev_hit hN rfl) ?_
                refine op_load1 (v := (Value.string (bs y.s))) one9 (ev_hit hN rfl) (hB80.cell rfl) ?_
                refine op_fn (vs := [(Value.string (bs x.s)), (Value.string (bs y.s))]) ok42 ⟨(ev_hit hN rfl), ⟨(ev_hit hN rfl), trivial⟩⟩ (CompareText_ret x.s y.s _ (by first | assumption | omega | (simp only [List.length_append, List.length_cons, List.length_nil, List.length_drop, List.length_take]; omega) | (dsimp only; omega) | decide | (simp [keyV, be8_len]; done)) (by first | assumption | omega | (simp only [List.length_append, List.length_cons, List.length_nil, List.length_drop, List.length_take]; omega) | (dsimp only; omega) | decide | (simp [keyV, be8_len]; done))) ?_
                rintro _ w93 ⟨E94, rfl⟩
                have E94 := grown_of_below E94
                have z_w93 := E94.size
                have hB76 := hB76.keep0 E94
                have hB80 := hB80.keep0 E94
                have hb := below_step0 hb E94 hb.size
                refine op_assign (ev_hit hN rfl) ?_
                refine reg_nil ?_
                refine hK92 _ _ ?_
                refine wp_ret ?_
                refine ret1 rfl hd (ev_hit hN rfl) ⟨_, rfl, ?_⟩
                -- path 10F 16F 20T 26F 31T 37F 42F
                exact ⟨hb, congrArg (Value.int .i64) (by simp only [cmpV, cmpI]; (repeat' split) <;> omega)⟩
          · -- 31 False
            refine op_move (ev_hit hN rfl) ?_
            refine g_false (j := 3) (dj := 32) (b := true) rfl rfl rfl (ev_hit hN rfl) rfl rfl ?_
            refine g_false (j := 3) (dj := 32) (b := true) rfl rfl rfl (ev_hit hN rfl) rfl rfl ?_
            refine g_false (j := 3) (dj := 32) (b := true) rfl rfl rfl (ev_hit hN rfl) rfl rfl ?_
            refine g_false (j := 3) (dj := 32) (b := true) rfl rfl rfl (ev_hit hN rfl) rfl rfl ?_
            refine g_false (j := 3) (dj := 32) (b := true) rfl rfl rfl (ev_hit hN rfl) rfl rfl ?_
            refine op_pick_f (ev_hit hN rfl) rfl ?_
            refine op_assign (ev_hit hN rfl) ?_
            refine reg_nil ?_
            refine hK88 _ _ ?_
            refine wp_cond_false (ev_hit hN rfl) ?_
            refine seq_any fun K95 hK95 => ?_
            refine one_reg ?_
            refine op_field fld50_0 (ev_hit hN rfl) ?_
            refine op_load1 (v := (Value.int .i64 x.k)) one3 (ev_hit hN rfl) (hB76.cell rfl) ?_
            refine op_eql (ev_hit hN rfl) rfl (fun c42 => ?_) (fun c42 => ?_)
            · -- 42 True
              refine op_assign (ev_hit hN rfl) ?_
              refine reg_nil ?_
              refine hK95 _ _ ?_
              refine wp_cond_true (ev_hit hN rfl) ?_
              refine seq_any fun K96 hK96 => ?_
              refine one_reg ?_
              refine op_assign rfl ?_
              refine reg_nil ?_
              refine hK96 _ _ ?_
              refine wp_ret (blk_ret (then_ret ( ?_)))
              refine ret1 rfl hd (ev_hit hN rfl) ⟨_, rfl, ?_⟩
              -- path 10F 16F 20T 26F 31F 42T
              exact ⟨hb, congrArg (Value.int .i64) (by simp only [cmpV, cmpI]; (repeat' split) <;> omega)⟩
            · -- 42 False
              refine op_assign (ev_hit hN rfl) ?_
              refine reg_nil ?_
              refine hK95 _ _ ?_
              refine wp_cond_false (ev_hit hN rfl) ?_
              refine wp_skip ?_
              refine hK81 _ _ ?_
              refine seq_any fun K97 hK97 => ?_
              refine one_reg ?_
              refine op_field fld50_2 (ev_hit hN rfl) ?_
              refine op_load1 (v := (Value.string (bs x.s))) one9 (ev_hit hN rfl) (hB76.cell rfl) ?_
              refine op_field fld50_2 (ev_hit hN rfl) ?_
              refine op_load1 (v := (Value.string (bs y.s))) one9 (ev_hit hN rfl) (hB80.cell rfl) ?_
              refine op_fn (vs := [(Value.string (bs x.s)), (Value.string (bs y.s))]) ok42 ⟨(ev_hit hN rfl), ⟨(ev_hit hN rfl), trivial⟩⟩ (CompareText_ret x.s y.s _ (by first | assumption | omega | (simp only [List.length_append, List.length_cons, List.length_nil, List.length_drop, List.length_take]; omega) | (dsimp only; omega) | decide | (simp [keyV, be8_len]; done)) (by first | assumption | omega | (simp only [List.length_append, List.length_cons, List.length_nil, List.length_drop, List.length_take]; omega) | (dsimp only; omega) | decide | (simp [keyV, be8_len]; done))) ?_
              rintro _ w98 ⟨E99, rfl⟩
              have E99 := grown_of_below E99
              have z_w98 := E99.size
              have hB76 := hB76.keep0 E99
              have hB80 := hB80.keep0 E99
              have hb := below_step0 hb E99 hb.size
              refine op_assign (ev_hit hN rfl) ?_
              refine reg_nil ?_
              refine hK97 _ _ ?_
              refine wp_ret ?_
              refine ret1 rfl hd (ev_hit hN rfl) ⟨_, rfl, ?_⟩
              -- path 10F 16F 20T 26F 31F 42F
              exact ⟨hb, congrArg (Value.int .i64) (by simp only [cmpV, cmpI]; (repeat' split) <;> omega)⟩
      · -- 20 False
        refine op_move (ev_hit hN rfl) ?_
        refine g_false (j := 3) (dj := 21) (b := true) rfl rfl rfl (ev_hit hN rfl) rfl rfl ?_
        refine g_false (j := 3) (dj := 21) (b := true) rfl rfl rfl (ev_hit hN rfl) rfl rfl ?_
        refine g_false (j := 3) (dj := 21) (b := true) rfl rfl rfl (ev_hit hN rfl) rfl rfl ?_
        refine g_false (j := 3) (dj := 21) (b := true) rfl rfl rfl (ev_hit hN rfl) rfl rfl ?_
        refine g_false (j := 3) (dj := 21) (b := true) rfl rfl rfl (ev_hit hN rfl) rfl rfl ?_
        refine op_pick_f (ev_hit hN rfl) rfl ?_
        refine op_assign (ev_hit hN rfl) ?_
        refine reg_nil ?_
        refine hK86 _ _ ?_
        refine wp_cond_false (ev_hit hN rfl) ?_
        refine seq_any fun K100 hK100 => ?_
        refine one_reg ?_
        refine op_field fld50_0 (ev_hit hN rfl) ?_
        refine op_load1 (v := (Value.int .i64 x.k)) one3 (ev_hit hN rfl) (hB76.cell rfl) ?_
        refine op_eql (ev_hit hN rfl) rfl (fun c31 => ?_) (fun c31 => ?_)
        · -- 31 True
          refine op_move (ev_hit hN rfl) ?_
          refine g_true (j := 3) (dj := 32) (b := true) rfl rfl rfl (ev_hit hN rfl) ?_
          refine op_field fld50_1 (ev_hit hN rfl) ?_
          refine g_true (j := 3) (dj := 32) (b := true) rfl rfl rfl (ev_hit hN rfl) ?_
          refine op_load1 (v := (Value.int .i64 x.n)) one2 (ev_hit hN rfl) (hB76.cell rfl) ?_
          refine g_true (j := 3) (dj := 32) (b := true) rfl rfl rfl (ev_hit hN rfl) ?_
          refine op_field fld50_1 (ev_hit hN rfl) ?_
          refine g_true (j := 3) (dj := 32) (b := true) rfl rfl rfl (ev_hit hN rfl) ?_
          refine op_load1 (v := (Value.int .i64 y.n)) one2 (ev_hit hN rfl) (hB80.cell rfl) ?_
          refine g_true (j := 3) (dj := 32) (b := true) rfl rfl rfl (ev_hit hN rfl) ?_
          refine op_gtr (ev_hit hN rfl) (ev_hit hN rfl) (fun c37 => ?_) (fun c37 => ?_)
          · -- 37 True
            refine op_pick_t (ev_hit hN rfl) (ev_hit hN rfl) ?_
            refine op_assign (ev_hit hN rfl) ?_
            refine reg_nil ?_
            refine hK100 _ _ ?_
            refine wp_cond_true (ev_hit hN rfl) ?_
            refine seq_any fun K101 hK101 => ?_
            refine one_reg ?_
            refine op_assign rfl ?_
            refine reg_nil ?_
            refine hK101 _ _ ?_
            refine wp_ret (blk_ret (then_ret ( ?_)))
            refine ret1 rfl hd (ev_hit hN rfl) ⟨_, rfl, ?_⟩
            -- path 10F 16F 20F 31T 37T
            exact ⟨hb, congrArg (Value.int .i64) (by simp only [cmpV, cmpI]; (repeat' split) <;> omega)⟩
          · -- 37 False
            refine op_pick_t (ev_hit hN rfl) (ev_hit hN rfl) ?_
            refine op_assign (ev_hit hN rfl) ?_
            refine reg_nil ?_
            refine hK100 _ _ ?_
            refine wp_cond_false (ev_hit hN rfl) ?_
            refine seq_any fun K102 hK102 => ?_
            refine one_reg ?_
            refine op_field fld50_0 (ev_hit hN rfl) ?_
            refine op_load1 (v := (Value.int .i64 x.k)) one3 (ev_hit hN rfl) (hB76.cell rfl) ?_
            refine op_eql (ev_hit hN rfl) rfl (fun c42 => ?_) (fun c42 => ?_)
            · -- 42 True
              refine op_assign (ev_hit hN rfl) ?_
              refine reg_nil ?_
              refine hK102 _ _ ?_
              refine wp_cond_true (ev_hit hN rfl) ?_
              refine seq_any fun K103 hK103 => ?_
              refine one_reg ?_
              refine op_assign rfl ?_
              refine reg_nil ?_
              refine hK103 _ _ ?_
              refine wp_ret (blk_ret (then_ret ( ?_)))
              refine ret1 rfl hd (ev_hit hN rfl) ⟨_, rfl, ?_⟩
              -- path 10F 16F 20F 31T 37F 42T
              exact ⟨hb, congrArg (Value.int .i64) (by simp only [cmpV, cmpI]; (repeat' split) <;> omega)⟩
            · -- 42 False
              refine op_assign (ev_hit hN rfl) ?_
              refine reg_nil ?_
              refine hK102 _ _ ?_
              refine wp_cond_false (ev_hit hN rfl) ?_
              refine wp_skip ?_
              refine hK81 _ _ ?_
              refine seq_any fun K104 hK104 => ?_
              refine one_reg ?_
              refine op_field fld50_2 (ev_hit hN rfl) ?_
              refine op_load1 (v := (Value.string (bs x.s))) one9 (ev_hit hN rfl) (hB76.cell rfl) ?_
              refine op_field fld50_2 (ev_hit hN rfl) ?_
              refine op_load1 (v := (Value.string (bs y.s))) one9 (ev_hit hN rfl) (hB80.cell rfl) ?_
              refine op_fn (vs := [(Value.string (bs x.s)), (Value.string (bs y.s))]) ok42 ⟨(ev_hit hN rfl), ⟨(ev_hit hN rfl), trivial⟩⟩ (CompareText_ret x.s y.s _ (by first | assumption | omega | (simp only [List.length_append, List.length_cons, List.length_nil, List.length_drop, List.length_take]; omega) | (dsimp only; omega) | decide | (simp [keyV, be8_len]; done)) (by first | assumption | omega | (simp only [List.length_append, List.length_cons, List.length_nil, List.length_drop, List.length_take]; omega) | (dsimp only; omega) | decide | (simp [keyV, be8_len]; done))) ?_
              rintro _ w105 ⟨E106, rfl⟩
              have E106 := grown_of_below E106
              have z_w105 := E106.size
              have hB76 := hB76.keep0 E106
              have hB80 := hB80.keep0 E106
              have hb := below_step0 hb E106 hb.size
              refine op_assign (ev_hit hN rfl) ?_
              refine reg_nil ?_
              refine hK104 _ _ ?_
              refine wp_ret ?_
              refine ret1 rfl hd (ev_hit hN rfl) ⟨_, rfl, ?_⟩
              -- path 10F 16F 20F 31T 37F 42F
              exact ⟨hb, congrArg (Value.int .i64) (by simp only [cmpV, cmpI]; (repeat' split) <;> omega)⟩
        · -- 31 False
          refine op_move (ev_hit hN rfl) ?_
          refine g_false (j := 3) (dj := 32) (b := true) rfl rfl rfl (ev_hit hN rfl) rfl rfl ?_
          refine g_false (j := 3) (dj := 32) (b := true) rfl rfl rfl (ev_hit hN rfl) rfl rfl ?_
          refine g_false (j := 3) (dj := 32) (b := true) rfl rfl rfl (ev_hit hN rfl) rfl rfl ?_
          refine g_false (j := 3) (dj := 32) (b := true) rfl rfl rfl (ev_hit hN rfl) rfl rfl ?_
          refine g_false (j := 3) (dj := 32) (b := true) rfl rfl rfl (ev_hit hN rfl) rfl rfl ?_
          refine op_pick_f (ev_hit hN rfl) rfl ?_
          refine op_assign (ev_hit hN rfl) ?_
          refine reg_nil ?_
          refine hK100 _ _ ?_
          refine wp_cond_false (ev_hit hN rfl) ?_
          refine seq_any fun K107 hK107 => ?_
          refine one_reg ?_
          refine op_field fld50_0 (ev_hit hN rfl) ?_
          refine op_load1 (v := (Value.int .i64 x.k)) one3 (ev_hit hN rfl) (hB76.cell rfl) ?_
          refine op_eql (ev_hit hN rfl) rfl (fun c42 => ?_) (fun c42 => ?_)
          · -- 42 True
            refine op_assign (ev_hit hN rfl) ?_
            refine reg_nil ?_
            refine hK107 _ _ ?_
            refine wp_cond_true (ev_hit hN rfl) ?_
            refine seq_any fun K108 hK108 => ?_
            refine one_reg ?_
            refine op_assign rfl ?_
            refine reg_nil ?_
            refine hK108 _ _ ?_
            refine wp_ret (blk_ret (then_ret ( ?_)))
            refine ret1 rfl hd (ev_hit hN rfl) ⟨_, rfl, ?_⟩
            -- path 10F 16F 20F 31F 42T
            exact ⟨hb, congrArg (Value.int .i64) (by simp only [cmpV, cmpI]; (repeat' split) <;> omega)⟩
          · -- 42 False
            refine op_assign (ev_hit hN rfl) ?_
            refine reg_nil ?_
            refine hK107 _ _ ?_
            refine wp_cond_false (ev_hit hN rfl) ?_
            refine wp_skip ?_
            refine hK81 _ _ ?_
            refine seq_any fun K109 hK109 => ?_
            refine one_reg ?_
            refine op_field fld50_2 (ev_hit hN rfl) ?_
            refine op_load1 (v := (Value.string (bs x.s))) one9 (ev_hit hN rfl) (hB76.cell rfl) ?_
            refine op_field fld50_2 (ev_hit hN rfl) ?_
            refine op_load1 (v := (Value.string (bs y.s))) one9 (ev_hit hN rfl) (hB80.cell rfl) ?_
            refine op_fn (vs := [(Value.string (bs x.s)), (Value.string (bs y.s))]) ok42 ⟨(ev_hit hN rfl), ⟨(ev_hit hN rfl), trivial⟩⟩ (CompareText_ret x.s y.s _ (by first | assumption | omega | (simp only [List.length_append, List.length_cons, List.length_nil, List.length_drop, List.length_take]; omega) | (dsimp only; omega) | decide | (simp [keyV, be8_len]; done)) (by first | assumption | omega | (simp only [List.length_append, List.length_cons, List.length_nil, List.length_drop, List.length_take]; omega) | (dsimp only; omega) | decide | (simp [keyV, be8_len]; done))) ?_
            rintro _ w110 ⟨E111, rfl⟩
            have E111 := grown_of_below E111
            have z_w110 := E111.size
            have hB76 := hB76.keep0 E111
            have hB80 := hB80.keep0 E111
            have hb := below_step0 hb E111 hb.size
            refine op_assign (ev_hit hN rfl) ?_
            refine reg_nil ?_
            refine hK109 _ _ ?_
            refine wp_ret ?_
            refine ret1 rfl hd (ev_hit hN rfl) ⟨_, rfl, ?_⟩
            -- path 10F 16F 20F 31F 42F
            exact ⟨hb, congrArg (Value.int .i64) (by simp only [cmpV, cmpI]; (repeat' split) <;> omega)⟩

theorem isNaN_int_ret (m : Int) (w : World) : Ret Try.prog 88 #[(Value.int .i64 m)] w (fun v' w' => v' = .bool false ∧ w' = w) := by
  have hb := Below.refl w.heap.size w
  refine enter (N := 6) Try.func88 rfl rfl (by simp) fun a0 hN hd hA => ?_
  have s0 : a0.tmps.getD 0 undef = (Value.int .i64 m) := hA 0 (by simp)
  clear hA
  refine seq_any fun K112 hK112 => ?_
  refine one_reg ?_
  refine op_assign rfl ?_
  refine reg_nil ?_
  refine hK112 _ _ ?_
  refine seq_any fun K113 hK113 => ?_
  refine one_reg ?_
  refine op_move (ev_base hN rfl s0) ?_
  refine op_move (ev_base hN rfl s0) ?_
  refine op_neq (ev_hit hN rfl) (ev_hit hN rfl) (fun c5 => ?_) (fun c5 => ?_)
  · -- 5 True
    refine op_assign (ev_hit hN rfl) ?_
    refine reg_nil ?_
    refine hK113 _ _ ?_
    refine wp_ret ?_
    refine ret1 rfl hd (ev_hit hN rfl) ⟨_, rfl, ?_⟩
    -- path 5T
    exact (c5 rfl).elim
  · -- 5 False
    refine op_assign (ev_hit hN rfl) ?_
    refine reg_nil ?_
    refine hK113 _ _ ?_
    refine wp_ret ?_
    refine ret1 rfl hd (ev_hit hN rfl) ⟨_, rfl, ?_⟩
    -- path 5F
    exact ⟨rfl, rfl⟩

theorem cmpCompare_int_ret (m n : Int) (w : World) : Ret Try.prog 83 #[(Value.int .i64 m), (Value.int .i64 n)] w (fun v' w' => v' = .int .i64 (cmpI m n) ∧ w' = w) := by
  have hb := Below.refl w.heap.size w
  refine enter (N := 20) Try.func83 rfl rfl (by simp) fun a0 hN hd hA => ?_
  have s0 : a0.tmps.getD 0 undef = (Value.int .i64 m) := hA 0 (by simp)
  have s1 : a0.tmps.getD 1 undef = (Value.int .i64 n) := hA 1 (by simp)
  clear hA
  refine seq_any fun K114 hK114 => ?_
  refine one_reg ?_
  refine op_assign rfl ?_
  refine reg_nil ?_
  refine hK114 _ _ ?_
  refine seq_any fun K115 hK115 => ?_
  refine one_reg ?_
  refine op_move (ev_base hN rfl s0) ?_
  refine op_fn (vs := [(Value.int .i64 m)]) ok88 ⟨(ev_hit hN rfl), trivial⟩ (isNaN_int_ret m _) ?_
  rintro _ _ ⟨rfl, rfl⟩
  refine op_assign (ev_hit hN rfl) ?_
  refine reg_nil ?_
  refine hK115 _ _ ?_
  refine seq_any fun K116 hK116 => ?_
  refine one_reg ?_
  refine op_move (ev_base hN rfl s1) ?_
  refine op_fn (vs := [(Value.int .i64 n)]) ok88 ⟨(ev_hit hN rfl), trivial⟩ (isNaN_int_ret n _) ?_
  rintro _ _ ⟨rfl, rfl⟩
  refine op_assign (ev_hit hN rfl) ?_
  refine reg_nil ?_
  refine hK116 _ _ ?_
  refine seq_any fun K117 hK117 => ?_
  refine seq_any fun K118 hK118 => ?_
  refine one_reg ?_
  refine op_move (ev_hit hN rfl) ?_
  refine reg_nil ?_
  refine hK118 _ _ ?_
  refine wp_cond_false (ev_hit hN rfl) ?_
  refine wp_skip ?_
  refine hK117 _ _ ?_
  refine seq_any fun K119 hK119 => ?_
  refine seq_any fun K120 hK120 => ?_
  refine one_reg ?_
  refine op_move (ev_hit hN rfl) ?_
  refine reg_nil ?_
  refine hK120 _ _ ?_
  refine wp_cond_false (ev_hit hN rfl) ?_
  refine wp_skip ?_
  refine hK119 _ _ ?_
  refine seq_any fun K121 hK121 => ?_
  refine seq_any fun K122 hK122 => ?_
  refine one_reg ?_
  refine op_move (ev_base hN rfl s0) ?_
  refine op_move (ev_base hN rfl s1) ?_
  refine op_lss (ev_hit hN rfl) (ev_hit hN rfl) (fun c16 => ?_) (fun c16 => ?_)
  · -- 16 True
    refine reg_nil ?_
    refine hK122 _ _ ?_
    refine wp_cond_true (ev_hit hN rfl) ?_
    refine seq_any fun K123 hK123 => ?_
    refine one_reg ?_
    refine op_assign rfl ?_
    refine reg_nil ?_
    refine hK123 _ _ ?_
    refine wp_ret (then_ret ( ?_))
    refine ret1 rfl hd (ev_hit hN rfl) ⟨_, rfl, ?_⟩
    -- path 16T
    exact ⟨congrArg (Value.int .i64) (by simp only [cmpI]; (repeat' split) <;> omega), rfl⟩
  · -- 16 False
    refine reg_nil ?_
    refine hK122 _ _ ?_
    refine wp_cond_false (ev_hit hN rfl) ?_
    refine wp_skip ?_
    refine hK121 _ _ ?_
    refine seq_any fun K124 hK124 => ?_
    refine seq_any fun K125 hK125 => ?_
    refine one_reg ?_
    refine op_move (ev_base hN rfl s0) ?_
    refine op_move (ev_base hN rfl s1) ?_
    refine op_gtr (ev_hit hN rfl) (ev_hit hN rfl) (fun c19 => ?_) (fun c19 => ?_)
    · -- 19 True
      refine reg_nil ?_
      refine hK125 _ _ ?_
      refine wp_cond_true (ev_hit hN rfl) ?_
      refine seq_any fun K126 hK126 => ?_
      refine one_reg ?_
      refine op_assign rfl ?_
      refine reg_nil ?_
      refine hK126 _ _ ?_
      refine wp_ret (then_ret ( ?_))
      refine ret1 rfl hd (ev_hit hN rfl) ⟨_, rfl, ?_⟩
      -- path 16F 19T
      exact ⟨congrArg (Value.int .i64) (by simp only [cmpI]; (repeat' split) <;> omega), rfl⟩
    · -- 19 False
      refine reg_nil ?_
      refine hK125 _ _ ?_
      refine wp_cond_false (ev_hit hN rfl) ?_
      refine wp_skip ?_
      refine hK124 _ _ ?_
      refine seq_any fun K127 hK127 => ?_
      refine one_reg ?_
      refine op_assign rfl ?_
      refine reg_nil ?_
      refine hK127 _ _ ?_
      refine wp_ret ?_
      refine ret1 rfl hd (ev_hit hN rfl) ⟨_, rfl, ?_⟩
      -- path 16F 19F
      exact ⟨congrArg (Value.int .i64) (by simp only [cmpI]; (repeat' split) <;> omega), rfl⟩

theorem isNaN_int64_ret (m : Int) (w : World) : Ret Try.prog 89 #[(Value.int .i64 m)] w (fun v' w' => v' = .bool false ∧ w' = w) := by
  have hb := Below.refl w.heap.size w
  refine enter (N := 6) Try.func89 rfl rfl (by simp) fun a0 hN hd hA => ?_
  have s0 : a0.tmps.getD 0 undef = (Value.int .i64 m) := hA 0 (by simp)
  clear hA
  refine seq_any fun K128 hK128 => ?_
  refine one_reg ?_
  refine op_assign rfl ?_
  refine reg_nil ?_
  refine hK128 _ _ ?_
  refine seq_any fun K129 hK129 => ?_
  refine one_reg ?_
  refine op_move (ev_base hN rfl s0) ?_
  refine op_move (ev_base hN rfl s0) ?_
  refine op_neq (ev_hit hN rfl) (ev_hit hN rfl) (fun c5 => ?_) (fun c5 => ?_)
  · -- 5 True
    refine op_assign (ev_hit hN rfl) ?_
    refine reg_nil ?_
    refine hK129 _ _ ?_
    refine wp_ret ?_
    refine ret1 rfl hd (ev_hit hN rfl) ⟨_, rfl, ?_⟩
    -- path 5T
    exact (c5 rfl).elim
  · -- 5 False
    refine op_assign (ev_hit hN rfl) ?_
    refine reg_nil ?_
    refine hK129 _ _ ?_
    refine wp_ret ?_
    refine ret1 rfl hd (ev_hit hN rfl) ⟨_, rfl, ?_⟩
    -- path 5F
    exact ⟨rfl, rfl⟩

theorem cmpCompare_int64_ret (m n : Int) (w : World) : Ret Try.prog 84 #[(Value.int .i64 m), (Value.int .i64 n)] w (fun v' w' => v' = .int .i64 (cmpI m n) ∧ w' = w) := by
  have hb := Below.refl w.heap.size w
  refine enter (N := 20) Try.func84 rfl rfl (by simp) fun a0 hN hd hA => ?_
  have s0 : a0.tmps.getD 0 undef = (Value.int .i64 m) := hA 0 (by simp)
  have s1 : a0.tmps.getD 1 undef = (Value.int .i64 n) := hA 1 (by simp)
  clear hA
  refine seq_any fun K130 hK130 => ?_
  refine one_reg ?_
  refine op_assign rfl ?_
  refine reg_nil ?_
  refine hK130 _ _ ?_
  refine seq_any fun K131 hK131 => ?_
  refine one_reg ?_
  refine op_move (ev_base hN rfl s0) ?_
  refine op_fn (vs := [(Value.int .i64 m)]) ok89 ⟨(ev_hit hN rfl), trivial⟩ (isNaN_int64_ret m _) ?_
  rintro _ _ ⟨rfl, rfl⟩
  refine op_assign (ev_hit hN rfl) ?_
  refine reg_nil ?_
  refine hK131 _ _ ?_
  refine seq_any fun K132 hK132 => ?_
  refine one_reg ?_
  refine op_move (ev_base hN rfl s1) ?_
  refine op_fn (vs := [(Value.int .i64 n)]) ok89 ⟨(ev_hit hN rfl), trivial⟩ (isNaN_int64_ret n _) ?_
  rintro _ _ ⟨rfl, rfl⟩
  refine op_assign (ev_hit hN rfl) ?_
  refine reg_nil ?_
  refine hK132 _ _ ?_
  refine seq_any fun K133 hK133 => ?_
  refine seq_any fun K134 hK134 => ?_
  refine one_reg ?_
  refine op_move (ev_hit hN rfl) ?_
  refine reg_nil ?_
  refine hK134 _ _ ?_
  refine wp_cond_false (ev_hit hN rfl) ?_
  refine wp_skip ?_
  refine hK133 _ _ ?_
  refine seq_any fun K135 hK135 => ?_
  refine seq_any fun K136 hK136 => ?_
  refine one_reg ?_
  refine op_move (ev_hit hN rfl) ?_
  refine reg_nil ?_
  refine hK136 _ _ ?_
  refine wp_cond_false (ev_hit hN rfl) ?_
  refine wp_skip ?_
  refine hK135 _ _ ?_
  refine seq_any fun K137 hK137 => ?_
  refine seq_any fun K138 hK138 => ?_
  refine one_reg ?_
  refine op_move (ev_base hN rfl s0) ?_
  refine op_move (ev_base hN rfl s1) ?_
  refine op_lss (ev_hit hN rfl) (ev_hit hN rfl) (fun c16 => ?_) (fun c16 => ?_)
  · -- 16 True
    refine reg_nil ?_
    refine hK138 _ _ ?_
    refine wp_cond_true (ev_hit hN rfl) ?_
    refine seq_any fun K139 hK139 => ?_
    refine one_reg ?_
    refine op_assign rfl ?_
    refine reg_nil ?_
    refine hK139 _ _ ?_
    refine wp_ret (then_ret ( ?_))
    refine ret1 rfl hd (ev_hit hN rfl) ⟨_, rfl, ?_⟩
    -- path 16T
    exact ⟨congrArg (Value.int .i64) (by simp only [cmpI]; (repeat' split) <;> omega), rfl⟩
  · -- 16 False
    refine reg_nil ?_
    refine hK138 _ _ ?_
    refine wp_cond_false (ev_hit hN rfl) ?_
    refine wp_skip ?_
    refine hK137 _ _ ?_
    refine seq_any fun K140 hK140 => ?_
    refine seq_any fun K141 hK141 => ?_
    refine one_reg ?_
    refine op_move (ev_base hN rfl s0) ?_
    refine op_move (ev_base hN rfl s1) ?_
    refine op_gtr (ev_hit hN rfl) (ev_hit hN rfl) (fun c19 => ?_) (fun c19 => ?_)
    · -- 19 True
      refine reg_nil ?_
      refine hK141 _ _ ?_
      refine wp_cond_true (ev_hit hN rfl) ?_
      refine seq_any fun K142 hK142 => ?_
      refine one_reg ?_
      refine op_assign rfl ?_
      refine reg_nil ?_
      refine hK142 _ _ ?_
      refine wp_ret (then_ret ( ?_))
      refine ret1 rfl hd (ev_hit hN rfl) ⟨_, rfl, ?_⟩
      -- path 16F 19T
      exact ⟨congrArg (Value.int .i64) (by simp only [cmpI]; (repeat' split) <;> omega), rfl⟩
    · -- 19 False
      refine reg_nil ?_
      refine hK141 _ _ ?_
      refine wp_cond_false (ev_hit hN rfl) ?_
      refine wp_skip ?_
      refine hK140 _ _ ?_
      refine seq_any fun K143 hK143 => ?_
      refine one_reg ?_
      refine op_assign rfl ?_
      refine reg_nil ?_
      refine hK143 _ _ ?_
      refine wp_ret ?_
      refine ret1 rfl hd (ev_hit hN rfl) ⟨_, rfl, ?_⟩
      -- path 16F 19F
      exact ⟨congrArg (Value.int .i64) (by simp only [cmpI]; (repeat' split) <;> omega), rfl⟩

theorem isNaN_string_ret (m : List UInt8) (w : World) : Ret Try.prog 90 #[(Value.string (bs m))] w (fun v' w' => v' = .bool false ∧ w' = w) := by
  have hb := Below.refl w.heap.size w
  refine enter (N := 6) Try.func90 rfl rfl (by simp) fun a0 hN hd hA => ?_
  have s0 : a0.tmps.getD 0 undef = (Value.string (bs m)) := hA 0 (by simp)
  clear hA
  refine seq_any fun K144 hK144 => ?_
  refine one_reg ?_
  refine op_assign rfl ?_
  refine reg_nil ?_
  refine hK144 _ _ ?_
  refine seq_any fun K145 hK145 => ?_
  refine one_reg ?_
  refine op_move (ev_base hN rfl s0) ?_
  refine op_move (ev_base hN rfl s0) ?_
  refine op_sneq (ev_hit hN rfl) (ev_hit hN rfl) (fun c5 => ?_) (fun c5 => ?_)
  · -- 5 True
    refine op_assign (ev_hit hN rfl) ?_
    refine reg_nil ?_
    refine hK145 _ _ ?_
    refine wp_ret ?_
    refine ret1 rfl hd (ev_hit hN rfl) ⟨_, rfl, ?_⟩
    -- path 5T
    exact (c5 rfl).elim
  · -- 5 False
    refine op_assign (ev_hit hN rfl) ?_
    refine reg_nil ?_
    refine hK145 _ _ ?_
    refine wp_ret ?_
    refine ret1 rfl hd (ev_hit hN rfl) ⟨_, rfl, ?_⟩
    -- path 5F
    exact ⟨rfl, rfl⟩

theorem cmpCompare_string_ret (m n : List UInt8) (w : World) : Ret Try.prog 85 #[(Value.string (bs m)), (Value.string (bs n))] w (fun v' w' => v' = .int .i64 (cmpT m n) ∧ w' = w) := by
  have hb := Below.refl w.heap.size w
  refine enter (N := 20) Try.func85 rfl rfl (by simp) fun a0 hN hd hA => ?_
  have s0 : a0.tmps.getD 0 undef = (Value.string (bs m)) := hA 0 (by simp)
  have s1 : a0.tmps.getD 1 undef = (Value.string (bs n)) := hA 1 (by simp)
  clear hA
  refine seq_any fun K146 hK146 => ?_
  refine one_reg ?_
  refine op_assign rfl ?_
  refine reg_nil ?_
  refine hK146 _ _ ?_
  refine seq_any fun K147 hK147 => ?_
  refine one_reg ?_
  refine op_move (ev_base hN rfl s0) ?_
  refine op_fn (vs := [(Value.string (bs m))]) ok90 ⟨(ev_hit hN rfl), trivial⟩ (isNaN_string_ret m _) ?_
  rintro _ _ ⟨rfl, rfl⟩
  refine op_assign (ev_hit hN rfl) ?_
  refine reg_nil ?_
  refine hK147 _ _ ?_
  refine seq_any fun K148 hK148 => ?_
  refine one_reg ?_
  refine op_move (ev_base hN rfl s1) ?_
  refine op_fn (vs := [(Value.string (bs n))]) ok90 ⟨(ev_hit hN rfl), trivial⟩ (isNaN_string_ret n _) ?_
  rintro _ _ ⟨rfl, rfl⟩
  refine op_assign (ev_hit hN rfl) ?_
  refine reg_nil ?_
  refine hK148 _ _ ?_
  refine seq_any fun K149 hK149 => ?_
  refine seq_any fun K150 hK150 => ?_
  refine one_reg ?_
  refine op_move (ev_hit hN rfl) ?_
  refine reg_nil ?_
  refine hK150 _ _ ?_
  refine wp_cond_false (ev_hit hN rfl) ?_
  refine wp_skip ?_
  refine hK149 _ _ ?_
  refine seq_any fun K151 hK151 => ?_
  refine seq_any fun K152 hK152 => ?_
  refine one_reg ?_
  refine op_move (ev_hit hN rfl) ?_
  refine reg_nil ?_
  refine hK152 _ _ ?_
  refine wp_cond_false (ev_hit hN rfl) ?_
  refine wp_skip ?_
  refine hK151 _ _ ?_
  refine seq_any fun K153 hK153 => ?_
  refine seq_any fun K154 hK154 => ?_
  refine one_reg ?_
  refine op_move (ev_base hN rfl s0) ?_
  refine op_move (ev_base hN rfl s1) ?_
  by_cases c16 : cmpT m n = -1
  · -- 16 True
    refine op_slss (ev_hit hN rfl) (ev_hit hN rfl) (decide_eq_true c16) ?_
    refine reg_nil ?_
    refine hK154 _ _ ?_
    refine wp_cond_true (ev_hit hN rfl) ?_
    refine seq_any fun K155 hK155 => ?_
    refine one_reg ?_
    refine op_assign rfl ?_
    refine reg_nil ?_
    refine hK155 _ _ ?_
    refine wp_ret (then_ret ( ?_))
    refine ret1 rfl hd (ev_hit hN rfl) ⟨_, rfl, ?_⟩
    -- path 16T
    exact ⟨congrArg (Value.int .i64) (by rcases cmpT_val m n with h | h | h <;> simp_all), rfl⟩
  · -- 16 False
    refine op_slss (ev_hit hN rfl) (ev_hit hN rfl) (decide_eq_false c16) ?_
    refine reg_nil ?_
    refine hK154 _ _ ?_
    refine wp_cond_false (ev_hit hN rfl) ?_
    refine wp_skip ?_
    refine hK153 _ _ ?_
    refine seq_any fun K156 hK156 => ?_
    refine seq_any fun K157 hK157 => ?_
    refine one_reg ?_
    refine op_move (ev_base hN rfl s0) ?_
    refine op_move (ev_base hN rfl s1) ?_
    by_cases c19 : cmpT m n = 1
    · -- 19 True
      refine op_sgtr (ev_hit hN rfl) (ev_hit hN rfl) (decide_eq_true c19) ?_
      refine reg_nil ?_
      refine hK157 _ _ ?_
      refine wp_cond_true (ev_hit hN rfl) ?_
      refine seq_any fun K158 hK158 => ?_
      refine one_reg ?_
      refine op_assign rfl ?_
      refine reg_nil ?_
      refine hK158 _ _ ?_
      refine wp_ret (then_ret ( ?_))
      refine ret1 rfl hd (ev_hit hN rfl) ⟨_, rfl, ?_⟩
      -- path 16F 19T
      exact ⟨congrArg (Value.int .i64) (by rcases cmpT_val m n with h | h | h <;> simp_all), rfl⟩
    · -- 19 False
      refine op_sgtr (ev_hit hN rfl) (ev_hit hN rfl) (decide_eq_false c19) ?_
      refine reg_nil ?_
      refine hK157 _ _ ?_
      refine wp_cond_false (ev_hit hN rfl) ?_
      refine wp_skip ?_
      refine hK156 _ _ ?_
      refine seq_any fun K159 hK159 => ?_
      refine one_reg ?_
      refine op_assign rfl ?_
      refine reg_nil ?_
      refine hK159 _ _ ?_
      refine wp_ret ?_
      refine ret1 rfl hd (ev_hit hN rfl) ⟨_, rfl, ?_⟩
      -- path 16F 19F
      exact ⟨congrArg (Value.int .i64) (by rcases cmpT_val m n with h | h | h <;> simp_all), rfl⟩

theorem first_int_ret (m n : Int) (v : Value) (w : World) (hv : RdC w 0 w.heap.size 2 v 1 [(Value.int .i64 m), (Value.int .i64 n)]) : Ret Try.prog 69 #[v] w (fun v' w' => Below w.heap.size w w' ∧ v' = .int .i64 (cmpI m n)) := by
  have hb := Below.refl w.heap.size w
  refine enter (N := 21) Try.func69 rfl rfl (by simp) fun a0 hN hd hA => ?_
  have s0 : a0.tmps.getD 0 undef = v := hA 0 (by simp)
  clear hA
  refine seq_any fun K160 hK160 => ?_
  refine one_reg ?_
  refine op_assign rfl ?_
  refine reg_nil ?_
  refine hK160 _ _ ?_
  refine seq_any fun K161 hK161 => ?_
  refine seq_any fun K162 hK162 => ?_
  refine one_reg ?_
  refine op_move (ev_base hN rfl s0) ?_
  refine op_len_rd Try.underlying115 (ev_hit hN rfl) hv ?_
  refine op_move rfl ?_
  refine reg_nil ?_
  refine hK162 _ _ ?_
  refine wp_block ?_
  refine wp_loop_rounds 2 ?_
  refine rounds_any fun K163 hK163 => ?_
  refine seq_any fun K164 hK164 => ?_
  refine one_reg ?_
  refine op_bin (v := .bool true) (ev_hit hN rfl) (ev_hit hN rfl) (by rw [binOp_lss]; rfl) ?_
  refine reg_nil ?_
  refine hK164 _ _ ?_
  refine seq_any fun K165 hK165 => ?_
  refine wp_cond_true (ev_hit hN rfl) ?_
  refine wp_skip ?_
  refine hK165 _ _ ?_
  refine seq_any fun K166 hK166 => ?_
  refine wp_block ?_
  refine seq_any fun K167 hK167 => ?_
  refine one_reg ?_
  refine op_index_rd slt115 (ev_hit hN rfl) hv (ev_hit hN rfl) (by omega) (by omega) ?_
  intro b168 o169 _ _ hc170
  refine op_loadA (cs := [(Value.int .i64 m), (Value.int .i64 n)]) agg98 rfl (ev_hit hN rfl) (fun j u hu => hc170 j u (by have := (List.getElem?_eq_some_iff.1 hu).1; simpa using this) ((fun j u hu => el_one (i := 0) rfl rfl hu) j u hu)) ?_
  refine op_alloc (cs := [(Value.int .i64 0), (Value.int .i64 0)]) zero98 rfl ?_
  intro w171 b172 lo_b172 hi_b172 hB174 E173
  have z_w171 := E173.size
  have hv := hv.keep0 E173
  have hb := below_step0 hb E173 hb.size
  have hB174_old := hB174
  refine op_store (vs := [(Value.int .i64 m), (Value.int .i64 n)]) (cs' := [(Value.int .i64 m), (Value.int .i64 n)]) size98 (ev_hit hN rfl) (ev_hit hN rfl) rfl rfl rfl hB174 (Nat.le_of_ble_eq_true rfl) rfl ?_
  intro w177 hB174 E178
  have z_w177 := E178.size
  have hv := hv.keep E178 (fun k hk => .inr (by simp at hk; omega))
  have hb := below_step1 hb E178 hb.size (by omega)
  refine reg_nil ?_
  refine hK167 _ _ ?_
  refine seq_any fun K179 hK179 => ?_
  refine one_reg ?_
  refine op_index_arr (j := 0) arr98 (ev_hit hN rfl) rfl rfl (by decide) ?_
  refine op_load1 (v := (Value.int .i64 m)) one3 (ev_hit hN rfl) (hB174.cell rfl) ?_
  refine op_index_arr (j := 1) arr98 (ev_hit hN rfl) rfl rfl (by decide) ?_
  refine op_load1 (v := (Value.int .i64 n)) one3 (ev_hit hN rfl) (hB174.cell rfl) ?_
  refine op_fn (vs := [(Value.int .i64 m), (Value.int .i64 n)]) ok83 ⟨(ev_hit hN rfl), ⟨(ev_hit hN rfl), trivial⟩⟩ (cmpCompare_int_ret m n _) ?_
  rintro _ _ ⟨rfl, rfl⟩
  refine op_assign (ev_hit hN rfl) ?_
  refine reg_nil ?_
  refine hK179 _ _ ?_
  refine seq_any fun K180 hK180 => ?_
  refine one_reg ?_
  refine op_move (ev_hit hN rfl) ?_
  refine op_neq (ev_hit hN rfl) rfl (fun c18 => ?_) (fun c18 => ?_)
  · -- 18 True
    refine reg_nil ?_
    refine hK180 _ _ ?_
    refine wp_cond_true (ev_hit hN rfl) ?_
    refine seq_any fun K181 hK181 => ?_
    refine one_reg ?_
    refine op_move (ev_hit hN rfl) ?_
    refine op_assign (ev_hit hN rfl) ?_
    refine reg_nil ?_
    refine hK181 _ _ ?_
    refine wp_ret (blk_ret (then_ret (then_ret (blk_ret (then_ret ( ?_))))))
    refine ret1 rfl hd (ev_hit hN rfl) ⟨_, rfl, ?_⟩
    -- path 18T
    exact ⟨hb, congrArg (Value.int .i64) (by omega)⟩
  · -- 18 False
    refine reg_nil ?_
    refine hK180 _ _ ?_
    refine wp_cond_false (ev_hit hN rfl) ?_
    refine wp_skip ?_
    refine hK166 _ _ ?_
    refine one_reg ?_
    refine op_add (r := 1) (ev_hit hN rfl) rfl (by decide) ?_
    refine op_move (ev_hit hN rfl) ?_
    refine reg_nil ?_
    refine hK163 _ _ ?_
    refine rounds_any fun K182 hK182 => ?_
    refine seq_any fun K183 hK183 => ?_
    refine one_reg ?_
    refine op_bin (v := .bool false) (ev_hit hN rfl) (ev_hit hN rfl) (by rw [binOp_lss]; rfl) ?_
    refine reg_nil ?_
    refine hK183 _ _ ?_
    refine seq_any fun K184 hK184 => ?_
    refine wp_cond_false (ev_hit hN rfl) ?_
    refine wp_exit (then_exit (then_exit (blk_hit ?_)))
    refine hK161 _ _ ?_
    refine seq_any fun K185 hK185 => ?_
    refine one_reg ?_
    refine op_assign rfl ?_
    refine reg_nil ?_
    refine hK185 _ _ ?_
    refine wp_ret ?_
    refine ret1 rfl hd (ev_hit hN rfl) ⟨_, rfl, ?_⟩
    -- path 18F
    exact ⟨hb, congrArg (Value.int .i64) (by omega)⟩

theorem first_int64_ret (m n : Int) (v : Value) (w : World) (hv : RdC w 0 w.heap.size 2 v 1 [(Value.int .i64 m), (Value.int .i64 n)]) : Ret Try.prog 70 #[v] w (fun v' w' => Below w.heap.size w w' ∧ v' = .int .i64 (cmpI m n)) := by
  have hb := Below.refl w.heap.size w
  refine enter (N := 21) Try.func70 rfl rfl (by simp) fun a0 hN hd hA => ?_
  have s0 : a0.tmps.getD 0 undef = v := hA 0 (by simp)
  clear hA
  refine seq_any fun K186 hK186 => ?_
  refine one_reg ?_
  refine op_assign rfl ?_
  refine reg_nil ?_
  refine hK186 _ _ ?_
  refine seq_any fun K187 hK187 => ?_
  refine seq_any fun K188 hK188 => ?_
  refine one_reg ?_
  refine op_move (ev_base hN rfl s0) ?_
  refine op_len_rd Try.underlying116 (ev_hit hN rfl) hv ?_
  refine op_move rfl ?_
  refine reg_nil ?_
  refine hK188 _ _ ?_
  refine wp_block ?_
  refine wp_loop_rounds 2 ?_
  refine rounds_any fun K189 hK189 => ?_
  refine seq_any fun K190 hK190 => ?_
  refine one_reg ?_
  refine op_bin (v := .bool true) (ev_hit hN rfl) (ev_hit hN rfl) (by rw [binOp_lss]; rfl) ?_
  refine reg_nil ?_
  refine hK190 _ _ ?_
  refine seq_any fun K191 hK191 => ?_
  refine wp_cond_true (ev_hit hN rfl) ?_
  refine wp_skip ?_
  refine hK191 _ _ ?_
  refine seq_any fun K192 hK192 => ?_
  refine wp_block ?_
  refine seq_any fun K193 hK193 => ?_
  refine one_reg ?_
  refine op_index_rd slt116 (ev_hit hN rfl) hv (ev_hit hN rfl) (by omega) (by omega) ?_
  intro b194 o195 _ _ hc196
  refine op_loadA (cs := [(Value.int .i64 m), (Value.int .i64 n)]) agg100 rfl (ev_hit hN rfl) (fun j u hu => hc196 j u (by have := (List.getElem?_eq_some_iff.1 hu).1; simpa using this) ((fun j u hu => el_one (i := 0) rfl rfl hu) j u hu)) ?_
  refine op_alloc (cs := [(Value.int .i64 0), (Value.int .i64 0)]) zero100 rfl ?_
  intro w197 b198 lo_b198 hi_b198 hB200 E199
  have z_w197 := E199.size
  have hv := hv.keep0 E199
  have hb := below_step0 hb E199 hb.size
  have hB200_old := hB200
  refine op_store (vs := [(Value.int .i64 m), (Value.int .i64 n)]) (cs' := [(Value.int .i64 m), (Value.int .i64 n)]) size100 (ev_hit hN rfl) (ev_hit hN rfl) rfl rfl rfl hB200 (Nat.le_of_ble_eq_true rfl) rfl ?_
  intro w203 hB200 E204
  have z_w203 := E204.size
  have hv := hv.keep E204 (fun k hk => .inr (by simp at hk; omega))
  have hb := below_step1 hb E204 hb.size (by omega)
  refine reg_nil ?_
  refine hK193 _ _ ?_
  refine seq_any fun K205 hK205 => ?_
  refine one_reg ?_
  refine op_index_arr (j := 0) arr100 (ev_hit hN rfl) rfl rfl (by decide) ?_
  refine op_load1 (v := (Value.int .i64 m)) one2 (ev_hit hN rfl) (hB200.cell rfl) ?_
  refine op_index_arr (j := 1) arr100 (ev_hit hN rfl) rfl rfl (by decide) ?_
  refine op_load1 (v := (Value.int .i64 n)) one2 (ev_hit hN rfl) (hB200.cell rfl) ?_
  refine op_fn (vs := [(Value.int .i64 m), (Value.int .i64 n)]) ok84 ⟨(ev_hit hN rfl), ⟨(ev_hit hN rfl), trivial⟩⟩ (cmpCompare_int64_ret m n _) ?_
  rintro _ _ ⟨rfl, rfl⟩
  refine op_assign (ev_hit hN rfl) ?_
  refine reg_nil ?_
  refine hK205 _ _ ?_
  refine seq_any fun K206 hK206 => ?_
  refine one_reg ?_
  refine op_move (ev_hit hN rfl) ?_
  refine op_neq (ev_hit hN rfl) rfl (fun c18 => ?_) (fun c18 => ?_)
  · -- 18 True
    refine reg_nil ?_
    refine hK206 _ _ ?_
    refine wp_cond_true (ev_hit hN rfl) ?_
    refine seq_any fun K207 hK207 => ?_
    refine one_reg ?_
    refine op_move (ev_hit hN rfl) ?_
    refine op_assign (ev_hit hN rfl) ?_
    refine reg_nil ?_
    refine hK207 _ _ ?_
    refine wp_ret (blk_ret (then_ret (then_ret (blk_ret (then_ret ( ?_))))))
    refine ret1 rfl hd (ev_hit hN rfl) ⟨_, rfl, ?_⟩
    -- path 18T
    exact ⟨hb, congrArg (Value.int .i64) (by omega)⟩
  · -- 18 False
    refine reg_nil ?_
    refine hK206 _ _ ?_
    refine wp_cond_false (ev_hit hN rfl) ?_
    refine wp_skip ?_
    refine hK192 _ _ ?_
    refine one_reg ?_
    refine op_add (r := 1) (ev_hit hN rfl) rfl (by decide) ?_
    refine op_move (ev_hit hN rfl) ?_
    refine reg_nil ?_
    refine hK189 _ _ ?_
    refine rounds_any fun K208 hK208 => ?_
    refine seq_any fun K209 hK209 => ?_
    refine one_reg ?_
    refine op_bin (v := .bool false) (ev_hit hN rfl) (ev_hit hN rfl) (by rw [binOp_lss]; rfl) ?_
    refine reg_nil ?_
    refine hK209 _ _ ?_
    refine seq_any fun K210 hK210 => ?_
    refine wp_cond_false (ev_hit hN rfl) ?_
    refine wp_exit (then_exit (then_exit (blk_hit ?_)))
    refine hK187 _ _ ?_
    refine seq_any fun K211 hK211 => ?_
    refine one_reg ?_
    refine op_assign rfl ?_
    refine reg_nil ?_
    refine hK211 _ _ ?_
    refine wp_ret ?_
    refine ret1 rfl hd (ev_hit hN rfl) ⟨_, rfl, ?_⟩
    -- path 18F
    exact ⟨hb, congrArg (Value.int .i64) (by omega)⟩

theorem first_string_ret (m n : List UInt8) (v : Value) (w : World) (hv : RdC w 0 w.heap.size 2 v 1 [(Value.string (bs m)), (Value.string (bs n))]) : Ret Try.prog 71 #[v] w (fun v' w' => Below w.heap.size w w' ∧ v' = .int .i64 (cmpT m n)) := by
  have hb := Below.refl w.heap.size w
  refine enter (N := 21) Try.func71 rfl rfl (by simp) fun a0 hN hd hA => ?_
  have s0 : a0.tmps.getD 0 undef = v := hA 0 (by simp)
  clear hA
  refine seq_any fun K212 hK212 => ?_
  refine one_reg ?_
  refine op_assign rfl ?_
  refine reg_nil ?_
  refine hK212 _ _ ?_
  refine seq_any fun K213 hK213 => ?_
  refine seq_any fun K214 hK214 => ?_
  refine one_reg ?_
  refine op_move (ev_base hN rfl s0) ?_
  refine op_len_rd Try.underlying118 (ev_hit hN rfl) hv ?_
  refine op_move rfl ?_
  refine reg_nil ?_
  refine hK214 _ _ ?_
  refine wp_block ?_
  refine wp_loop_rounds 2 ?_
  refine rounds_any fun K215 hK215 => ?_
  refine seq_any fun K216 hK216 => ?_
  refine one_reg ?_
  refine op_bin (v := .bool true) (ev_hit hN rfl) (ev_hit hN rfl) (by rw [binOp_lss]; rfl) ?_
  refine reg_nil ?_
  refine hK216 _ _ ?_
  refine seq_any fun K217 hK217 => ?_
  refine wp_cond_true (ev_hit hN rfl) ?_
  refine wp_skip ?_
  refine hK217 _ _ ?_
  refine seq_any fun K218 hK218 => ?_
  refine wp_block ?_
  refine seq_any fun K219 hK219 => ?_
  refine one_reg ?_
  refine op_index_rd slt118 (ev_hit hN rfl) hv (ev_hit hN rfl) (by omega) (by omega) ?_
  intro b220 o221 _ _ hc222
  refine op_loadA (cs := [(Value.string (bs m)), (Value.string (bs n))]) agg102 rfl (ev_hit hN rfl) (fun j u hu => hc222 j u (by have := (List.getElem?_eq_some_iff.1 hu).1; simpa using this) ((fun j u hu => el_one (i := 0) rfl rfl hu) j u hu)) ?_
  refine op_alloc (cs := [(Value.string (bs [])), (Value.string (bs []))]) zero102 rfl ?_
  intro w223 b224 lo_b224 hi_b224 hB226 E225
  have z_w223 := E225.size
  have hv := hv.keep0 E225
  have hb := below_step0 hb E225 hb.size
  have hB226_old := hB226
  refine op_store (vs := [(Value.string (bs m)), (Value.string (bs n))]) (cs' := [(Value.string (bs m)), (Value.string (bs n))]) size102 (ev_hit hN rfl) (ev_hit hN rfl) rfl rfl rfl hB226 (Nat.le_of_ble_eq_true rfl) rfl ?_
  intro w229 hB226 E230
  have z_w229 := E230.size
  have hv := hv.keep E230 (fun k hk => .inr (by simp at hk; omega))
  have hb := below_step1 hb E230 hb.size (by omega)
  refine reg_nil ?_
  refine hK219 _ _ ?_
  refine seq_any fun K231 hK231 => ?_
  refine one_reg ?_
  refine op_index_arr (j := 0) arr102 (ev_hit hN rfl) rfl rfl (by decide) ?_
  refine op_load1 (v := (Value.string (bs m))) one9 (ev_hit hN rfl) (hB226.cell rfl) ?_
  refine op_index_arr (j := 1) arr102 (ev_hit hN rfl) rfl rfl (by decide) ?_
  refine op_load1 (v := (Value.string (bs n))) one9 (ev_hit hN rfl) (hB226.cell rfl) ?_
  refine op_fn (vs := [(Value.string (bs m)), (Value.string (bs n))]) ok85 ⟨(ev_hit hN rfl), ⟨(ev_hit hN rfl), trivial⟩⟩ (cmpCompare_string_ret m n _) ?_
  rintro _ _ ⟨rfl, rfl⟩
  refine op_assign (ev_hit hN rfl) ?_
  refine reg_nil ?_
  refine hK231 _ _ ?_
  refine seq_any fun K232 hK232 => ?_
  refine one_reg ?_
  refine op_move (ev_hit hN rfl) ?_
  refine op_neq (ev_hit hN rfl) rfl (fun c18 => ?_) (fun c18 => ?_)
  · -- 18 True
    refine reg_nil ?_
    refine hK232 _ _ ?_
    refine wp_cond_true (ev_hit hN rfl) ?_
    refine seq_any fun K233 hK233 => ?_
    refine one_reg ?_
    refine op_move (ev_hit hN rfl) ?_
    refine op_assign (ev_hit hN rfl) ?_
    refine reg_nil ?_
    refine hK233 _ _ ?_
    refine wp_ret (blk_ret (then_ret (then_ret (blk_ret (then_ret ( ?_))))))
    refine ret1 rfl hd (ev_hit hN rfl) ⟨_, rfl, ?_⟩
    -- path 18T
    exact ⟨hb, congrArg (Value.int .i64) (by omega)⟩
  · -- 18 False
    refine reg_nil ?_
    refine hK232 _ _ ?_
    refine wp_cond_false (ev_hit hN rfl) ?_
    refine wp_skip ?_
    refine hK218 _ _ ?_
    refine one_reg ?_
    refine op_add (r := 1) (ev_hit hN rfl) rfl (by decide) ?_
    refine op_move (ev_hit hN rfl) ?_
    refine reg_nil ?_
    refine hK215 _ _ ?_
    refine rounds_any fun K234 hK234 => ?_
    refine seq_any fun K235 hK235 => ?_
    refine one_reg ?_
    refine op_bin (v := .bool false) (ev_hit hN rfl) (ev_hit hN rfl) (by rw [binOp_lss]; rfl) ?_
    refine reg_nil ?_
    refine hK235 _ _ ?_
    refine seq_any fun K236 hK236 => ?_
    refine wp_cond_false (ev_hit hN rfl) ?_
    refine wp_exit (then_exit (then_exit (blk_hit ?_)))
    refine hK213 _ _ ?_
    refine seq_any fun K237 hK237 => ?_
    refine one_reg ?_
    refine op_assign rfl ?_
    refine reg_nil ?_
    refine hK237 _ _ ?_
    refine wp_ret ?_
    refine ret1 rfl hd (ev_hit hN rfl) ⟨_, rfl, ?_⟩
    -- path 18F
    exact ⟨hb, congrArg (Value.int .i64) (by omega)⟩

theorem Or_ret (m n : Int) (v : Value) (w : World) (hv : RdC w 0 w.heap.size 1 v 2 [(Value.int .i64 m), (Value.int .i64 n)]) : Ret Try.prog 68 #[v] w (fun v' w' => Below w.heap.size w w' ∧ v' = .int .i64 (if m = 0 then n else m)) := by
  have hb := Below.refl w.heap.size w
  refine enter (N := 18) Try.func68 rfl rfl (by simp) fun a0 hN hd hA => ?_
  have s0 : a0.tmps.getD 0 undef = v := hA 0 (by simp)
  clear hA
  refine seq_any fun K238 hK238 => ?_
  refine one_reg ?_
  refine op_assign rfl ?_
  refine reg_nil ?_
  refine hK238 _ _ ?_
  refine seq_any fun K239 hK239 => ?_
  refine one_reg ?_
  refine op_assign rfl ?_
  refine reg_nil ?_
  refine hK239 _ _ ?_
  refine seq_any fun K240 hK240 => ?_
  refine seq_any fun K241 hK241 => ?_
  refine one_reg ?_
  refine op_move (ev_base hN rfl s0) ?_
  refine op_len_rd Try.underlying35 (ev_hit hN rfl) hv ?_
  refine op_move rfl ?_
  refine reg_nil ?_
  refine hK241 _ _ ?_
  refine wp_block ?_
  refine wp_loop_rounds 3 ?_
  refine rounds_any fun K242 hK242 => ?_
  refine seq_any fun K243 hK243 => ?_
  refine one_reg ?_
  refine op_bin (v := .bool true) (ev_hit hN rfl) (ev_hit hN rfl) (by rw [binOp_lss]; rfl) ?_
  refine reg_nil ?_
  refine hK243 _ _ ?_
  refine seq_any fun K244 hK244 => ?_
  refine wp_cond_true (ev_hit hN rfl) ?_
  refine wp_skip ?_
  refine hK244 _ _ ?_
  refine seq_any fun K245 hK245 => ?_
  refine wp_block ?_
  refine seq_any fun K246 hK246 => ?_
  refine one_reg ?_
  refine op_index_rd slt35 (ev_hit hN rfl) hv (ev_hit hN rfl) (by omega) (by omega) ?_
  intro b247 o248 _ _ hc249
  refine op_load1 (v := (Value.int .i64 m)) one3 (ev_hit hN rfl) (by have := hc249 0 (Value.int .i64 m) (by decide) rfl; simpa using this) ?_
  refine op_assign (ev_hit hN rfl) ?_
  refine reg_nil ?_
  refine hK246 _ _ ?_
  refine seq_any fun K250 hK250 => ?_
  refine one_reg ?_
  refine op_move (ev_hit hN rfl) ?_
  refine op_move (ev_hit hN rfl) ?_
  refine op_neq (ev_hit hN rfl) (ev_hit hN rfl) (fun c14 => ?_) (fun c14 => ?_)
  · -- 14 True
    refine reg_nil ?_
    refine hK250 _ _ ?_
    refine wp_cond_true (ev_hit hN rfl) ?_
    refine seq_any fun K251 hK251 => ?_
    refine one_reg ?_
    refine op_move (ev_hit hN rfl) ?_
    refine op_assign (ev_hit hN rfl) ?_
    refine reg_nil ?_
    refine hK251 _ _ ?_
    refine wp_ret (blk_ret (then_ret (then_ret (blk_ret (then_ret ( ?_))))))
    refine ret1 rfl hd (ev_hit hN rfl) ⟨_, rfl, ?_⟩
    -- path 14T
    exact ⟨hb, congrArg (Value.int .i64) (by split <;> omega)⟩
  · -- 14 False
    refine reg_nil ?_
    refine hK250 _ _ ?_
    refine wp_cond_false (ev_hit hN rfl) ?_
    refine wp_skip ?_
    refine hK245 _ _ ?_
    refine one_reg ?_
    refine op_add (r := 1) (ev_hit hN rfl) rfl (by decide) ?_
    refine op_move (ev_hit hN rfl) ?_
    refine reg_nil ?_
    refine hK242 _ _ ?_
    refine rounds_any fun K252 hK252 => ?_
    refine seq_any fun K253 hK253 => ?_
    refine one_reg ?_
    refine op_bin (v := .bool true) (ev_hit hN rfl) (ev_hit hN rfl) (by rw [binOp_lss]; rfl) ?_
    refine reg_nil ?_
    refine hK253 _ _ ?_
    refine seq_any fun K254 hK254 => ?_
    refine wp_cond_true (ev_hit hN rfl) ?_
    refine wp_skip ?_
    refine hK254 _ _ ?_
    refine seq_any fun K255 hK255 => ?_
    refine wp_block ?_
    refine seq_any fun K256 hK256 => ?_
    refine one_reg ?_
    refine op_index_rd slt35 (ev_hit hN rfl) hv (ev_hit hN rfl) (by omega) (by omega) ?_
    intro b257 o258 _ _ hc259
    refine op_load1 (v := (Value.int .i64 n)) one3 (ev_hit hN rfl) (by have := hc259 0 (Value.int .i64 n) (by decide) rfl; simpa using this) ?_
    refine op_assign (ev_hit hN rfl) ?_
    refine reg_nil ?_
    refine hK256 _ _ ?_
    refine seq_any fun K260 hK260 => ?_
    refine one_reg ?_
    refine op_move (ev_hit hN rfl) ?_
    refine op_move (ev_hit hN rfl) ?_
    refine op_neq (ev_hit hN rfl) (ev_hit hN rfl) (fun c14 => ?_) (fun c14 => ?_)
    · -- 14 True
      refine reg_nil ?_
      refine hK260 _ _ ?_
      refine wp_cond_true (ev_hit hN rfl) ?_
      refine seq_any fun K261 hK261 => ?_
      refine one_reg ?_
      refine op_move (ev_hit hN rfl) ?_
      refine op_assign (ev_hit hN rfl) ?_
      refine reg_nil ?_
      refine hK261 _ _ ?_
      refine wp_ret (blk_ret (then_ret (then_ret (blk_ret (then_ret ( ?_))))))
      refine ret1 rfl hd (ev_hit hN rfl) ⟨_, rfl, ?_⟩
      -- path 14F 14T
      exact ⟨hb, congrArg (Value.int .i64) (by split <;> omega)⟩
    · -- 14 False
      refine reg_nil ?_
      refine hK260 _ _ ?_
      refine wp_cond_false (ev_hit hN rfl) ?_
      refine wp_skip ?_
      refine hK255 _ _ ?_
      refine one_reg ?_
      refine op_add (r := 2) (ev_hit hN rfl) rfl (by decide) ?_
      refine op_move (ev_hit hN rfl) ?_
      refine reg_nil ?_
      refine hK252 _ _ ?_
      refine rounds_any fun K262 hK262 => ?_
      refine seq_any fun K263 hK263 => ?_
      refine one_reg ?_
      refine op_bin (v := .bool false) (ev_hit hN rfl) (ev_hit hN rfl) (by rw [binOp_lss]; rfl) ?_
      refine reg_nil ?_
      refine hK263 _ _ ?_
      refine seq_any fun K264 hK264 => ?_
      refine wp_cond_false (ev_hit hN rfl) ?_
      refine wp_exit (then_exit (then_exit (blk_hit ?_)))
      refine hK240 _ _ ?_
      refine seq_any fun K265 hK265 => ?_
      refine one_reg ?_
      refine op_move (ev_hit hN rfl) ?_
      refine op_assign (ev_hit hN rfl) ?_
      refine reg_nil ?_
      refine hK265 _ _ ?_
      refine wp_ret ?_
      refine ret1 rfl hd (ev_hit hN rfl) ⟨_, rfl, ?_⟩
      -- path 14F 14F
      exact ⟨hb, congrArg (Value.int .i64) (by split <;> omega)⟩

end Go.Proofs.Ytkkongnmcfdioaa
