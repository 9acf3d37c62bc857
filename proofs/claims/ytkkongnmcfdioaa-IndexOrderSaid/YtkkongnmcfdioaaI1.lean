/- Walks, written by a program: what each function of the translation hands back. -/
import Derived.Test.YtkkongnmcfdioaaPL1
import Derived.Test.YtkkongnmcfdioaaLSpec
namespace Go.Proofs.Ytkkongnmcfdioaa
open Go.Gx Go.RowKit
attribute [local irreducible] wpList Code.wp Calls

theorem refMay_ret (l : Lb) (v : Value) (w : World) (hl : l.length ≤ 9223372036854775807) (h : RdC w 0 w.heap.size 1 v l.length (l.map u16v)) : Ret Try.prog 54 #[v] w (fun v' w' => Below w.heap.size w w' ∧ v' = .bool (mayL l)) := by
  have hb := Below.refl w.heap.size w
  refine enter (N := 23) Try.func54 rfl rfl (by simp) fun a0 hN hd hA => ?_
  have s0 : a0.tmps.getD 0 undef = v := hA 0 (by simp)
  clear hA
  refine seq_any fun K1 hK1 => ?_
  refine one_reg ?_
  refine op_assign rfl ?_
  refine reg_nil ?_
  refine hK1 _ _ ?_
  refine seq_any fun K2 hK2 => ?_
  refine seq_any fun K3 hK3 => ?_
  refine one_reg ?_
  refine op_assign rfl ?_
  refine reg_nil ?_
  refine hK3 _ _ ?_
  refine wp_block ?_
  refine loop_m (fun mz_ a w' => ∃ (i : Nat), mz_ = l.length - i ∧ (a.tmps.getD 0 undef = v) ∧ (a.tmps.getD 3 undef = (Value.int .i64 ((i : Nat) : Int))) ∧ (1 ≤ i ∧ (i ≤ l.length ∨ i = 1)) ∧ (Rise (l.take i)) ∧ (Below w.heap.size w w') ∧ (w.heap.size ≤ w'.heap.size) ∧ (RdC w' 0 w.heap.size 1 v l.length (l.map u16v))) _ hN hd ⟨1, rfl, (sl_base hN rfl s0), (sl_hit hN rfl).trans (congrArg (Value.int .i64) (by omega)), ⟨Nat.le_refl _, .inr rfl⟩, rise_one, hb, (Nat.le_refl _), h⟩ ?_
  rintro _ a4 w4 hN4 hd4 ⟨i, rfl, s4_0, s4_3, hi, hr, hb, zl_w4, h⟩
  have z_w4 := hb.size
  refine seq_any fun K5 hK5 => ?_
  refine seq_any fun K6 hK6 => ?_
  refine one_reg ?_
  refine op_move (ev_base hN4 rfl s4_3) ?_
  refine op_move (ev_base hN4 rfl s4_0) ?_
  refine op_len_rd Try.underlying75 (ev_hit hN4 rfl) h ?_
  refine op_lss (ev_hit hN4 rfl) (ev_hit hN4 rfl) (fun c7 => ?_) (fun c7 => ?_)
  · -- 7 True
    refine reg_nil ?_
    refine hK6 _ _ ?_
    refine wp_cond_true (ev_hit hN4 rfl) ?_
    refine wp_skip ?_
    refine hK5 _ _ ?_
    refine seq_any fun K7 hK7 => ?_
    refine wp_block ?_
    refine seq_any fun K8 hK8 => ?_
    refine reg_quiet (Φ := phiL [(fun uz _ => uz = v), (fun uz _ => uz = (Value.int .i64 ((i : Nat) : Int))), (fun uz _ => uz = (Value.int .i64 (((i : Nat) : Int) - 1))), (fun uz w' => ∃ (b9 : (Nat)) (o10 : (Nat)), uz = (ptr b9 o10) ∧ PtC w' 0 w.heap.size b9 o10 [(Value.int .u16 ((l.getD (i - 1) 0).toNat : Int))]), (fun uz _ => uz = (Value.int .u16 ((l.getD (i - 1) 0).toNat : Int))), (fun uz _ => uz = v), (fun uz _ => uz = (Value.int .i64 ((i : Nat) : Int))), (fun uz w' => ∃ (b13 : (Nat)) (o14 : (Nat)), uz = (ptr b13 o14) ∧ PtC w' 0 w.heap.size b13 o14 [(Value.int .u16 ((l.getD i 0).toNat : Int))]), (fun uz _ => uz = (Value.int .u16 ((l.getD i 0).toNat : Int))), (fun uz _ => uz = (Value.bool (decide (((l.getD i 0).toNat : Int) ≤ ((l.getD (i - 1) 0).toNat : Int)))))]) mixed (by kernel_rfl) (by kernel_rfl) (by kernel_rfl) hN4 (StL.get (StL.eq (StL.eq (StL.eq (StL.cons (fun u w1 w2 E h => by obtain ⟨x0, x1, hv, f0⟩ := h; exact ⟨x0, x1, hv, f0.keep0 E⟩) (StL.eq (StL.eq (StL.eq (StL.cons (fun u w1 w2 E h => by obtain ⟨x0, x1, hv, f0⟩ := h; exact ⟨x0, x1, hv, f0.keep0 E⟩) (StL.eq (StL.eq (StL.nil _)))))))))))) (ObL.get (s := 10) (ObL.cons ?_ (ObL.cons ?_ (ObL.cons ?_ (ObL.cons ?_ (ObL.cons ?_ (ObL.cons ?_ (ObL.cons ?_ (ObL.cons ?_ (ObL.cons ?_ (ObL.cons ?_ (ObL.nil))))))))))) rfl) ?_
    · -- operation 0, slot 10
      intro a9 w9 hN9 hR9 hbs9 hdp9
      have hR9 : w4.grownBy w9 none := hR9
      have q9_0 : a9.tmps.getD 0 undef = v := (hbs9 0 rfl).trans (sl_base hN4 rfl s4_0)
      clear hbs9 hdp9
      refine op_move (ev_base hN9 rfl q9_0) ?_
      exact obN_end rfl rfl ((grown_refl _ _))
    · -- operation 1, slot 11
      intro a10 w10 hN10 hR10 hbs10 hdp10
      have hR10 : w4.grownBy w10 none := hR10
      have q10_3 : a10.tmps.getD 3 undef = (Value.int .i64 ((i : Nat) : Int)) := (hbs10 3 rfl).trans (sl_base hN4 rfl s4_3)
      clear hbs10 hdp10
      refine op_move (ev_base hN10 rfl q10_3) ?_
      exact obN_end rfl rfl ((grown_refl _ _))
    · -- operation 2, slot 12
      intro a11 w11 hN11 hR11 hbs11 hdp11
      have hR11 : w4.grownBy w11 none := hR11
      have q11_11 : a11.tmps.getD 11 undef = (Value.int .i64 ((i : Nat) : Int)) := hdp11 1 _ 11 (by kernel_rfl) rfl rfl
      clear hbs11 hdp11
      refine op_sub (ev_base hN11 rfl q11_11) rfl (sub64 (by omega)) ?_
      exact obN_end rfl rfl ((grown_refl _ _))
    · -- operation 3, slot 13
      intro a12 w12 hN12 hR12 hbs12 hdp12
      have hR12 : w4.grownBy w12 none := hR12
      have z_w12 := hR12.size
      have h := h.keep0 hR12
      have hb := below_step0 hb hR12 hb.size
      have q12_10 : a12.tmps.getD 10 undef = v := hdp12 0 _ 10 (by kernel_rfl) rfl rfl
      have q12_12 : a12.tmps.getD 12 undef = (Value.int .i64 (((i : Nat) : Int) - 1)) := hdp12 2 _ 12 (by kernel_rfl) rfl rfl
      clear hbs12 hdp12
      refine op_index_rd slt75 (ev_base hN12 rfl q12_10) h (ev_base hN12 rfl q12_12) (by omega) (by omega) ?_
      intro b13 o14 h0b13 h1b13 hc15
      have hp16 : PtC w12 0 w.heap.size b13 o14 [(Value.int .u16 ((l.getD (i - 1) 0).toNat : Int))] := ⟨h0b13, h1b13, fun j u hu => hc15 j u (by have := (List.getElem?_eq_some_iff.1 hu).1; simpa using this) ((fun j u hu => one_at (el_u16 (i := (i - 1)) (by omega) (by omega)) hu) j u hu)⟩
      exact obN_end rfl ⟨b13, o14, rfl, hp16⟩ ((grown_refl _ _))
    · -- operation 4, slot 14
      intro a17 w17 hN17 hR17 hbs17 hdp17
      have hR17 : w4.grownBy w17 none := hR17
      have z_w17 := hR17.size
      have h := h.keep0 hR17
      have hb := below_step0 hb hR17 hb.size
      obtain ⟨b9, o10, q17_13, hp12⟩ := hdp17 3 _ 13 (by kernel_rfl) rfl rfl
      have hp12 : PtC w17 0 w.heap.size b9 o10 [(Value.int .u16 ((l.getD (i - 1) 0).toNat : Int))] := hp12
      clear hbs17 hdp17
      refine op_load1 (v := (Value.int .u16 ((l.getD (i - 1) 0).toNat : Int))) one46 (ev_base hN17 rfl q17_13) (hp12.2.2 0 _ rfl) ?_
      exact obN_end rfl rfl ((grown_refl _ _))
    · -- operation 5, slot 15
      intro a18 w18 hN18 hR18 hbs18 hdp18
      have hR18 : w4.grownBy w18 none := hR18
      have q18_0 : a18.tmps.getD 0 undef = v := (hbs18 0 rfl).trans (sl_base hN4 rfl s4_0)
      clear hbs18 hdp18
      refine op_move (ev_base hN18 rfl q18_0) ?_
      exact obN_end rfl rfl ((grown_refl _ _))
    · -- operation 6, slot 16
      intro a19 w19 hN19 hR19 hbs19 hdp19
      have hR19 : w4.grownBy w19 none := hR19
      have q19_3 : a19.tmps.getD 3 undef = (Value.int .i64 ((i : Nat) : Int)) := (hbs19 3 rfl).trans (sl_base hN4 rfl s4_3)
      clear hbs19 hdp19
      refine op_move (ev_base hN19 rfl q19_3) ?_
      exact obN_end rfl rfl ((grown_refl _ _))
    · -- operation 7, slot 17
      intro a20 w20 hN20 hR20 hbs20 hdp20
      have hR20 : w4.grownBy w20 none := hR20
      have z_w20 := hR20.size
      have h := h.keep0 hR20
      have hb := below_step0 hb hR20 hb.size
      have q20_15 : a20.tmps.getD 15 undef = v := hdp20 5 _ 15 (by kernel_rfl) rfl rfl
      have q20_16 : a20.tmps.getD 16 undef = (Value.int .i64 ((i : Nat) : Int)) := hdp20 6 _ 16 (by kernel_rfl) rfl rfl
      clear hbs20 hdp20
      refine op_index_rd slt75 (ev_base hN20 rfl q20_15) h (ev_base hN20 rfl q20_16) (by omega) (by omega) ?_
      intro b21 o22 h0b21 h1b21 hc23
      have hp24 : PtC w20 0 w.heap.size b21 o22 [(Value.int .u16 ((l.getD i 0).toNat : Int))] := ⟨h0b21, h1b21, fun j u hu => hc23 j u (by have := (List.getElem?_eq_some_iff.1 hu).1; simpa using this) ((fun j u hu => one_at (el_u16 (i := i) (by omega) (by omega)) hu) j u hu)⟩
      exact obN_end rfl ⟨b21, o22, rfl, hp24⟩ ((grown_refl _ _))
    · -- operation 8, slot 18
      intro a25 w25 hN25 hR25 hbs25 hdp25
      have hR25 : w4.grownBy w25 none := hR25
      have z_w25 := hR25.size
      have h := h.keep0 hR25
      have hb := below_step0 hb hR25 hb.size
      obtain ⟨b13, o14, q25_17, hp16⟩ := hdp25 7 _ 17 (by kernel_rfl) rfl rfl
      have hp16 : PtC w25 0 w.heap.size b13 o14 [(Value.int .u16 ((l.getD i 0).toNat : Int))] := hp16
      clear hbs25 hdp25
      refine op_load1 (v := (Value.int .u16 ((l.getD i 0).toNat : Int))) one46 (ev_base hN25 rfl q25_17) (hp16.2.2 0 _ rfl) ?_
      exact obN_end rfl rfl ((grown_refl _ _))
    · -- operation 9, slot 19
      intro a26 w26 hN26 hR26 hbs26 hdp26
      have hR26 : w4.grownBy w26 none := hR26
      have q26_14 : a26.tmps.getD 14 undef = (Value.int .u16 ((l.getD (i - 1) 0).toNat : Int)) := hdp26 4 _ 14 (by kernel_rfl) rfl rfl
      have q26_18 : a26.tmps.getD 18 undef = (Value.int .u16 ((l.getD i 0).toNat : Int)) := hdp26 8 _ 18 (by kernel_rfl) rfl rfl
      clear hbs26 hdp26
      refine op_cmp (b := (decide (((l.getD i 0).toNat : Int) ≤ ((l.getD (i - 1) 0).toNat : Int)))) (ev_base hN26 rfl q26_14) (ev_base hN26 rfl q26_18) (b_geq rfl) ?_
      exact obN_end rfl rfl ((grown_refl _ _))
    · -- behind the region
      intro a27 w27 hN27 hd27 hbs27 hph27 E27
      have hd27 := hd27.trans hd4
      have s27_0 : a27.tmps.getD 0 undef = v := (hbs27 0 rfl).trans (sl_base hN4 rfl s4_0)
      have s27_3 : a27.tmps.getD 3 undef = (Value.int .i64 ((i : Nat) : Int)) := (hbs27 3 rfl).trans (sl_base hN4 rfl s4_3)
      have s27_4 : a27.tmps.getD 4 undef = (Value.int .i64 ((i : Nat) : Int)) := (hbs27 4 rfl).trans (sl_hit hN4 rfl)
      have s27_5 : a27.tmps.getD 5 undef = v := (hbs27 5 rfl).trans (sl_hit hN4 rfl)
      have s27_6 : a27.tmps.getD 6 undef = (Value.int .i64 ((l.length : Nat) : Int)) := (hbs27 6 rfl).trans (sl_hit hN4 rfl)
      have s27_7 : a27.tmps.getD 7 undef = (Value.bool true) := (hbs27 7 rfl).trans (sl_hit hN4 rfl)
      have s27_10 : a27.tmps.getD 10 undef = v := hph27 0 _ 10 rfl rfl
      have s27_11 : a27.tmps.getD 11 undef = (Value.int .i64 ((i : Nat) : Int)) := hph27 1 _ 11 rfl rfl
      have s27_12 : a27.tmps.getD 12 undef = (Value.int .i64 (((i : Nat) : Int) - 1)) := hph27 2 _ 12 rfl rfl
      obtain ⟨b9, o10, s27_13, hp12⟩ := hph27 3 _ 13 rfl rfl
      have hp12 : PtC w27 0 w.heap.size b9 o10 [(Value.int .u16 ((l.getD (i - 1) 0).toNat : Int))] := hp12
      have s27_14 : a27.tmps.getD 14 undef = (Value.int .u16 ((l.getD (i - 1) 0).toNat : Int)) := hph27 4 _ 14 rfl rfl
      have s27_15 : a27.tmps.getD 15 undef = v := hph27 5 _ 15 rfl rfl
      have s27_16 : a27.tmps.getD 16 undef = (Value.int .i64 ((i : Nat) : Int)) := hph27 6 _ 16 rfl rfl
      obtain ⟨b13, o14, s27_17, hp16⟩ := hph27 7 _ 17 rfl rfl
      have hp16 : PtC w27 0 w.heap.size b13 o14 [(Value.int .u16 ((l.getD i 0).toNat : Int))] := hp16
      have s27_18 : a27.tmps.getD 18 undef = (Value.int .u16 ((l.getD i 0).toNat : Int)) := hph27 8 _ 18 rfl rfl
      have s27_19 : a27.tmps.getD 19 undef = (Value.bool (decide (((l.getD i 0).toNat : Int) ≤ ((l.getD (i - 1) 0).toNat : Int)))) := hph27 9 _ 19 rfl rfl
      clear hbs27 hph27
      have E27 : w4.grownBy w27 none := E27
      have z_w27 := E27.size
      have h := h.keep0 E27
      have hb := below_step0 hb E27 hb.size
      refine hK8 _ _ ?_
      refine wp_cond_split (ev_base hN27 rfl s27_19) (fun c19 => ?_) (fun c19 => ?_)
      · -- 19 True
        have c19 := of_decide_eq_true c19
        refine seq_any fun K28 hK28 => ?_
        refine one_reg ?_
        refine op_assign rfl ?_
        refine reg_nil ?_
        refine hK28 _ _ ?_
        refine wp_ret (blk_ret (then_ret (then_ret (blk_ret (then_ret ( ?_))))))
        refine ret1 rfl hd27 (ev_hit hN27 rfl) ⟨_, rfl, ?_⟩
        -- path 7T 19T
        exact ⟨hb, congrArg Value.bool (by rw [mayL, decide_eq_false (rise_bad (i := i) (by omega) (by omega) (by omega)), Bool.false_and])⟩
      · -- 19 False
        have c19 := of_decide_eq_false c19
        refine wp_skip ?_
        refine hK7 _ _ ?_
        refine one_reg ?_
        refine op_move (ev_base hN27 rfl s27_3) ?_
        refine op_add (ev_hit hN27 rfl) rfl (add64 (by omega)) ?_
        refine op_assign (ev_hit hN27 rfl) ?_
        refine reg_nil ?_
        -- round 7T 19F
        exact loop_next _ hN27 hd27 ⟨i + 1, rfl, (sl_base hN27 rfl s27_0), (sl_hit hN27 rfl).trans (congrArg (Value.int .i64) (by omega)), (by omega), (rise_step (by omega) (by omega) hr (by omega)), hb, (by omega), h⟩ (by omega)
  · -- 7 False
    refine reg_nil ?_
    refine hK6 _ _ ?_
    refine wp_cond_false (ev_hit hN4 rfl) ?_
    refine wp_exit (then_exit (then_exit (blk_hit ?_)))
    refine hK2 _ _ ?_
    refine seq_any fun K29 hK29 => ?_
    refine one_reg ?_
    refine op_move (ev_base hN4 rfl s4_0) ?_
    refine op_len_rd Try.underlying75 (ev_hit hN4 rfl) h ?_
    refine op_leq (ev_hit hN4 rfl) rfl (fun c22 => ?_) (fun c22 => ?_)
    · -- 22 True
      refine op_assign (ev_hit hN4 rfl) ?_
      refine reg_nil ?_
      refine hK29 _ _ ?_
      refine wp_ret ?_
      refine ret1 rfl hd4 (ev_hit hN4 rfl) ⟨_, rfl, ?_⟩
      -- path 7F 22T
      have hr2 : Rise l := by rwa [List.take_of_length_le (by omega)] at hr
      exact ⟨hb, congrArg Value.bool (by rw [mayL, decide_eq_true hr2, Bool.true_and]; exact (decide_eq_true (by omega)).symm)⟩
    · -- 22 False
      refine op_assign (ev_hit hN4 rfl) ?_
      refine reg_nil ?_
      refine hK29 _ _ ?_
      refine wp_ret ?_
      refine ret1 rfl hd4 (ev_hit hN4 rfl) ⟨_, rfl, ?_⟩
      -- path 7F 22F
      have hr2 : Rise l := by rwa [List.take_of_length_le (by omega)] at hr
      exact ⟨hb, congrArg Value.bool (by rw [mayL, decide_eq_true hr2, Bool.true_and]; exact (decide_eq_false (by omega)).symm)⟩

theorem rises_ret (l : Lb) (v : Value) (w : World) (hl : l.length ≤ 9223372036854775807) (h : RdC w 0 w.heap.size 1 v l.length (l.map u16v)) : Ret Try.prog 87 #[v] w (fun v' w' => Below w.heap.size w w' ∧ v' = .bool (decide (Rise l))) := by
  have hb := Below.refl w.heap.size w
  refine enter (N := 20) Try.func87 rfl rfl (by simp) fun a0 hN hd hA => ?_
  have s0 : a0.tmps.getD 0 undef = v := hA 0 (by simp)
  clear hA
  refine seq_any fun K30 hK30 => ?_
  refine one_reg ?_
  refine op_assign rfl ?_
  refine reg_nil ?_
  refine hK30 _ _ ?_
  refine seq_any fun K31 hK31 => ?_
  refine seq_any fun K32 hK32 => ?_
  refine one_reg ?_
  refine op_assign rfl ?_
  refine reg_nil ?_
  refine hK32 _ _ ?_
  refine wp_block ?_
  refine loop_m (fun mz_ a w' => ∃ (i : Nat), mz_ = l.length - i ∧ (a.tmps.getD 0 undef = v) ∧ (a.tmps.getD 3 undef = (Value.int .i64 ((i : Nat) : Int))) ∧ (1 ≤ i ∧ (i ≤ l.length ∨ i = 1)) ∧ (Rise (l.take i)) ∧ (Below w.heap.size w w') ∧ (w.heap.size ≤ w'.heap.size) ∧ (RdC w' 0 w.heap.size 1 v l.length (l.map u16v))) _ hN hd ⟨1, rfl, (sl_base hN rfl s0), (sl_hit hN rfl).trans (congrArg (Value.int .i64) (by omega)), ⟨Nat.le_refl _, .inr rfl⟩, rise_one, hb, (Nat.le_refl _), h⟩ ?_
  rintro _ a33 w33 hN33 hd33 ⟨i, rfl, s33_0, s33_3, hi, hr, hb, zl_w33, h⟩
  have z_w33 := hb.size
  refine seq_any fun K34 hK34 => ?_
  refine seq_any fun K35 hK35 => ?_
  refine one_reg ?_
  refine op_move (ev_base hN33 rfl s33_3) ?_
  refine op_move (ev_base hN33 rfl s33_0) ?_
  refine op_len_rd Try.underlying45 (ev_hit hN33 rfl) h ?_
  refine op_lss (ev_hit hN33 rfl) (ev_hit hN33 rfl) (fun c7 => ?_) (fun c7 => ?_)
  · -- 7 True
    refine reg_nil ?_
    refine hK35 _ _ ?_
    refine wp_cond_true (ev_hit hN33 rfl) ?_
    refine wp_skip ?_
    refine hK34 _ _ ?_
    refine seq_any fun K36 hK36 => ?_
    refine wp_block ?_
    refine seq_any fun K37 hK37 => ?_
    refine reg_quiet (Φ := phiL [(fun uz _ => uz = v), (fun uz _ => uz = (Value.int .i64 ((i : Nat) : Int))), (fun uz _ => uz = (Value.int .i64 (((i : Nat) : Int) - 1))), (fun uz w' => ∃ (b38 : (Nat)) (o39 : (Nat)), uz = (ptr b38 o39) ∧ PtC w' 0 w.heap.size b38 o39 [(Value.int .u16 ((l.getD (i - 1) 0).toNat : Int))]), (fun uz _ => uz = (Value.int .u16 ((l.getD (i - 1) 0).toNat : Int))), (fun uz _ => uz = v), (fun uz _ => uz = (Value.int .i64 ((i : Nat) : Int))), (fun uz w' => ∃ (b42 : (Nat)) (o43 : (Nat)), uz = (ptr b42 o43) ∧ PtC w' 0 w.heap.size b42 o43 [(Value.int .u16 ((l.getD i 0).toNat : Int))]), (fun uz _ => uz = (Value.int .u16 ((l.getD i 0).toNat : Int))), (fun uz _ => uz = (Value.bool (decide (((l.getD i 0).toNat : Int) ≤ ((l.getD (i - 1) 0).toNat : Int)))))]) mixed (by kernel_rfl) (by kernel_rfl) (by kernel_rfl) hN33 (StL.get (StL.eq (StL.eq (StL.eq (StL.cons (fun u w1 w2 E h => by obtain ⟨x0, x1, hv, f0⟩ := h; exact ⟨x0, x1, hv, f0.keep0 E⟩) (StL.eq (StL.eq (StL.eq (StL.cons (fun u w1 w2 E h => by obtain ⟨x0, x1, hv, f0⟩ := h; exact ⟨x0, x1, hv, f0.keep0 E⟩) (StL.eq (StL.eq (StL.nil _)))))))))))) (ObL.get (s := 10) (ObL.cons ?_ (ObL.cons ?_ (ObL.cons ?_ (ObL.cons ?_ (ObL.cons ?_ (ObL.cons ?_ (ObL.cons ?_ (ObL.cons ?_ (ObL.cons ?_ (ObL.cons ?_ (ObL.nil))))))))))) rfl) ?_
    · -- operation 0, slot 10
      intro a38 w38 hN38 hR38 hbs38 hdp38
      have hR38 : w33.grownBy w38 none := hR38
      have q38_0 : a38.tmps.getD 0 undef = v := (hbs38 0 rfl).trans (sl_base hN33 rfl s33_0)
      clear hbs38 hdp38
      refine op_move (ev_base hN38 rfl q38_0) ?_
      exact obN_end rfl rfl ((grown_refl _ _))
    · -- operation 1, slot 11
      intro a39 w39 hN39 hR39 hbs39 hdp39
      have hR39 : w33.grownBy w39 none := hR39
      have q39_3 : a39.tmps.getD 3 undef = (Value.int .i64 ((i : Nat) : Int)) := (hbs39 3 rfl).trans (sl_base hN33 rfl s33_3)
      clear hbs39 hdp39
      refine op_move (ev_base hN39 rfl q39_3) ?_
      exact obN_end rfl rfl ((grown_refl _ _))
    · -- operation 2, slot 12
      intro a40 w40 hN40 hR40 hbs40 hdp40
      have hR40 : w33.grownBy w40 none := hR40
      have q40_11 : a40.tmps.getD 11 undef = (Value.int .i64 ((i : Nat) : Int)) := hdp40 1 _ 11 (by kernel_rfl) rfl rfl
      clear hbs40 hdp40
      refine op_sub (ev_base hN40 rfl q40_11) rfl (sub64 (by omega)) ?_
      exact obN_end rfl rfl ((grown_refl _ _))
    · -- operation 3, slot 13
      intro a41 w41 hN41 hR41 hbs41 hdp41
      have hR41 : w33.grownBy w41 none := hR41
      have z_w41 := hR41.size
      have h := h.keep0 hR41
      have hb := below_step0 hb hR41 hb.size
      have q41_10 : a41.tmps.getD 10 undef = v := hdp41 0 _ 10 (by kernel_rfl) rfl rfl
      have q41_12 : a41.tmps.getD 12 undef = (Value.int .i64 (((i : Nat) : Int) - 1)) := hdp41 2 _ 12 (by kernel_rfl) rfl rfl
      clear hbs41 hdp41
      refine op_index_rd slt45 (ev_base hN41 rfl q41_10) h (ev_base hN41 rfl q41_12) (by omega) (by omega) ?_
      intro b42 o43 h0b42 h1b42 hc44
      have hp45 : PtC w41 0 w.heap.size b42 o43 [(Value.int .u16 ((l.getD (i - 1) 0).toNat : Int))] := ⟨h0b42, h1b42, fun j u hu => hc44 j u (by have := (List.getElem?_eq_some_iff.1 hu).1; simpa using this) ((fun j u hu => one_at (el_u16 (i := (i - 1)) (by omega) (by omega)) hu) j u hu)⟩
      exact obN_end rfl ⟨b42, o43, rfl, hp45⟩ ((grown_refl _ _))
    · -- operation 4, slot 14
      intro a46 w46 hN46 hR46 hbs46 hdp46
      have hR46 : w33.grownBy w46 none := hR46
      have z_w46 := hR46.size
      have h := h.keep0 hR46
      have hb := below_step0 hb hR46 hb.size
      obtain ⟨b38, o39, q46_13, hp41⟩ := hdp46 3 _ 13 (by kernel_rfl) rfl rfl
      have hp41 : PtC w46 0 w.heap.size b38 o39 [(Value.int .u16 ((l.getD (i - 1) 0).toNat : Int))] := hp41
      clear hbs46 hdp46
      refine op_load1 (v := (Value.int .u16 ((l.getD (i - 1) 0).toNat : Int))) one46 (ev_base hN46 rfl q46_13) (hp41.2.2 0 _ rfl) ?_
      exact obN_end rfl rfl ((grown_refl _ _))
    · -- operation 5, slot 15
      intro a47 w47 hN47 hR47 hbs47 hdp47
      have hR47 : w33.grownBy w47 none := hR47
      have q47_0 : a47.tmps.getD 0 undef = v := (hbs47 0 rfl).trans (sl_base hN33 rfl s33_0)
      clear hbs47 hdp47
      refine op_move (ev_base hN47 rfl q47_0) ?_
      exact obN_end rfl rfl ((grown_refl _ _))
    · -- operation 6, slot 16
      intro a48 w48 hN48 hR48 hbs48 hdp48
      have hR48 : w33.grownBy w48 none := hR48
      have q48_3 : a48.tmps.getD 3 undef = (Value.int .i64 ((i : Nat) : Int)) := (hbs48 3 rfl).trans (sl_base hN33 rfl s33_3)
      clear hbs48 hdp48
      refine op_move (ev_base hN48 rfl q48_3) ?_
      exact obN_end rfl rfl ((grown_refl _ _))
    · -- operation 7, slot 17
      intro a49 w49 hN49 hR49 hbs49 hdp49
      have hR49 : w33.grownBy w49 none := hR49
      have z_w49 := hR49.size
      have h := h.keep0 hR49
      have hb := below_step0 hb hR49 hb.size
      have q49_15 : a49.tmps.getD 15 undef = v := hdp49 5 _ 15 (by kernel_rfl) rfl rfl
      have q49_16 : a49.tmps.getD 16 undef = (Value.int .i64 ((i : Nat) : Int)) := hdp49 6 _ 16 (by kernel_rfl) rfl rfl
      clear hbs49 hdp49
      refine op_index_rd slt45 (ev_base hN49 rfl q49_15) h (ev_base hN49 rfl q49_16) (by omega) (by omega) ?_
      intro b50 o51 h0b50 h1b50 hc52
      have hp53 : PtC w49 0 w.heap.size b50 o51 [(Value.int .u16 ((l.getD i 0).toNat : Int))] := ⟨h0b50, h1b50, fun j u hu => hc52 j u (by have := (List.getElem?_eq_some_iff.1 hu).1; simpa using this) ((fun j u hu => one_at (el_u16 (i := i) (by omega) (by omega)) hu) j u hu)⟩
      exact obN_end rfl ⟨b50, o51, rfl, hp53⟩ ((grown_refl _ _))
    · -- operation 8, slot 18
      intro a54 w54 hN54 hR54 hbs54 hdp54
      have hR54 : w33.grownBy w54 none := hR54
      have z_w54 := hR54.size
      have h := h.keep0 hR54
      have hb := below_step0 hb hR54 hb.size
      obtain ⟨b42, o43, q54_17, hp45⟩ := hdp54 7 _ 17 (by kernel_rfl) rfl rfl
      have hp45 : PtC w54 0 w.heap.size b42 o43 [(Value.int .u16 ((l.getD i 0).toNat : Int))] := hp45
      clear hbs54 hdp54
      refine op_load1 (v := (Value.int .u16 ((l.getD i 0).toNat : Int))) one46 (ev_base hN54 rfl q54_17) (hp45.2.2 0 _ rfl) ?_
      exact obN_end rfl rfl ((grown_refl _ _))
    · -- operation 9, slot 19
      intro a55 w55 hN55 hR55 hbs55 hdp55
      have hR55 : w33.grownBy w55 none := hR55
      have q55_14 : a55.tmps.getD 14 undef = (Value.int .u16 ((l.getD (i - 1) 0).toNat : Int)) := hdp55 4 _ 14 (by kernel_rfl) rfl rfl
      have q55_18 : a55.tmps.getD 18 undef = (Value.int .u16 ((l.getD i 0).toNat : Int)) := hdp55 8 _ 18 (by kernel_rfl) rfl rfl
      clear hbs55 hdp55
      refine op_cmp (b := (decide (((l.getD i 0).toNat : Int) ≤ ((l.getD (i - 1) 0).toNat : Int)))) (ev_base hN55 rfl q55_14) (ev_base hN55 rfl q55_18) (b_geq rfl) ?_
      exact obN_end rfl rfl ((grown_refl _ _))
    · -- behind the region
      intro a56 w56 hN56 hd56 hbs56 hph56 E56
      have hd56 := hd56.trans hd33
      have s56_0 : a56.tmps.getD 0 undef = v := (hbs56 0 rfl).trans (sl_base hN33 rfl s33_0)
      have s56_3 : a56.tmps.getD 3 undef = (Value.int .i64 ((i : Nat) : Int)) := (hbs56 3 rfl).trans (sl_base hN33 rfl s33_3)
      have s56_4 : a56.tmps.getD 4 undef = (Value.int .i64 ((i : Nat) : Int)) := (hbs56 4 rfl).trans (sl_hit hN33 rfl)
      have s56_5 : a56.tmps.getD 5 undef = v := (hbs56 5 rfl).trans (sl_hit hN33 rfl)
      have s56_6 : a56.tmps.getD 6 undef = (Value.int .i64 ((l.length : Nat) : Int)) := (hbs56 6 rfl).trans (sl_hit hN33 rfl)
      have s56_7 : a56.tmps.getD 7 undef = (Value.bool true) := (hbs56 7 rfl).trans (sl_hit hN33 rfl)
      have s56_10 : a56.tmps.getD 10 undef = v := hph56 0 _ 10 rfl rfl
      have s56_11 : a56.tmps.getD 11 undef = (Value.int .i64 ((i : Nat) : Int)) := hph56 1 _ 11 rfl rfl
      have s56_12 : a56.tmps.getD 12 undef = (Value.int .i64 (((i : Nat) : Int) - 1)) := hph56 2 _ 12 rfl rfl
      obtain ⟨b38, o39, s56_13, hp41⟩ := hph56 3 _ 13 rfl rfl
      have hp41 : PtC w56 0 w.heap.size b38 o39 [(Value.int .u16 ((l.getD (i - 1) 0).toNat : Int))] := hp41
      have s56_14 : a56.tmps.getD 14 undef = (Value.int .u16 ((l.getD (i - 1) 0).toNat : Int)) := hph56 4 _ 14 rfl rfl
      have s56_15 : a56.tmps.getD 15 undef = v := hph56 5 _ 15 rfl rfl
      have s56_16 : a56.tmps.getD 16 undef = (Value.int .i64 ((i : Nat) : Int)) := hph56 6 _ 16 rfl rfl
      obtain ⟨b42, o43, s56_17, hp45⟩ := hph56 7 _ 17 rfl rfl
      have hp45 : PtC w56 0 w.heap.size b42 o43 [(Value.int .u16 ((l.getD i 0).toNat : Int))] := hp45
      have s56_18 : a56.tmps.getD 18 undef = (Value.int .u16 ((l.getD i 0).toNat : Int)) := hph56 8 _ 18 rfl rfl
      have s56_19 : a56.tmps.getD 19 undef = (Value.bool (decide (((l.getD i 0).toNat : Int) ≤ ((l.getD (i - 1) 0).toNat : Int)))) := hph56 9 _ 19 rfl rfl
      clear hbs56 hph56
      have E56 : w33.grownBy w56 none := E56
      have z_w56 := E56.size
      have h := h.keep0 E56
      have hb := below_step0 hb E56 hb.size
      refine hK37 _ _ ?_
      refine wp_cond_split (ev_base hN56 rfl s56_19) (fun c19 => ?_) (fun c19 => ?_)
      · -- 19 True
        have c19 := of_decide_eq_true c19
        refine seq_any fun K57 hK57 => ?_
        refine one_reg ?_
        refine op_assign rfl ?_
        refine reg_nil ?_
        refine hK57 _ _ ?_
        refine wp_ret (blk_ret (then_ret (then_ret (blk_ret (then_ret ( ?_))))))
        refine ret1 rfl hd56 (ev_hit hN56 rfl) ⟨_, rfl, ?_⟩
        -- path 7T 19T
        exact ⟨hb, congrArg Value.bool (by rw [decide_eq_false (rise_bad (i := i) (by omega) (by omega) (by omega))])⟩
      · -- 19 False
        have c19 := of_decide_eq_false c19
        refine wp_skip ?_
        refine hK36 _ _ ?_
        refine one_reg ?_
        refine op_move (ev_base hN56 rfl s56_3) ?_
        refine op_add (ev_hit hN56 rfl) rfl (add64 (by omega)) ?_
        refine op_assign (ev_hit hN56 rfl) ?_
        refine reg_nil ?_
        -- round 7T 19F
        exact loop_next _ hN56 hd56 ⟨i + 1, rfl, (sl_base hN56 rfl s56_0), (sl_hit hN56 rfl).trans (congrArg (Value.int .i64) (by omega)), (by omega), (rise_step (by omega) (by omega) hr (by omega)), hb, (by omega), h⟩ (by omega)
  · -- 7 False
    refine reg_nil ?_
    refine hK35 _ _ ?_
    refine wp_cond_false (ev_hit hN33 rfl) ?_
    refine wp_exit (then_exit (then_exit (blk_hit ?_)))
    refine hK31 _ _ ?_
    refine seq_any fun K58 hK58 => ?_
    refine one_reg ?_
    refine op_assign rfl ?_
    refine reg_nil ?_
    refine hK58 _ _ ?_
    refine wp_ret ?_
    refine ret1 rfl hd33 (ev_hit hN33 rfl) ⟨_, rfl, ?_⟩
    -- path 7F
    have hr2 : Rise l := by rwa [List.take_of_length_le (by omega)] at hr
    exact ⟨hb, congrArg Value.bool (by rw [decide_eq_true hr2])⟩

end Go.Proofs.Ytkkongnmcfdioaa
