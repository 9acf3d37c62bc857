/- Walks, written by a program: what each function of the translation hands back. -/
import Derived.Test.YtkkongnmcfdioaaI3
namespace Go.Proofs.Ytkkongnmcfdioaa
open Go.Gx Go.RowKit
attribute [local irreducible] wpList Code.wp Calls

theorem labTake_ret (bl : List UInt8) (v : Value) (w : World) (hl : bl.length ≤ 1000000000000) (hv : RdC w 0 w.heap.size 1 v bl.length (bl.map u8v)) : Ret Try.prog 74 #[v] w (fun v' w' => Below w.heap.size w w' ∧ ∃ u, v' = .tuple #[u, .int .i64 (takeL bl).2.1, .int .i64 (takeL bl).2.2] ∧ Own w' w.heap.size 46 1 u (takeL bl).1.length ((takeL bl).1.map u16v)) := by
  have hb := Below.refl w.heap.size w
  refine enter (N := 51) Try.func74 rfl rfl (by simp) fun a0 hN hd hA => ?_
  have s0 : a0.tmps.getD 0 undef = v := hA 0 (by simp)
  clear hA
  refine seq_any fun K1 hK1 => ?_
  refine one_reg ?_
  refine op_assign rfl ?_
  refine op_assign rfl ?_
  refine op_assign rfl ?_
  refine reg_nil ?_
  refine hK1 _ _ ?_
  refine seq_any fun K2 hK2 => ?_
  refine seq_any fun K3 hK3 => ?_
  refine one_reg ?_
  refine op_move (ev_base hN rfl s0) ?_
  refine op_len_rd Try.underlying22 (ev_hit hN rfl) hv ?_
  refine op_eql (ev_hit hN rfl) rfl (fun c9 => ?_) (fun c9 => ?_)
  · -- 9 True
    refine reg_nil ?_
    refine hK3 _ _ ?_
    refine wp_cond_true (ev_hit hN rfl) ?_
    refine seq_any fun K4 hK4 => ?_
    refine one_reg ?_
    refine op_assign rfl ?_
    refine op_assign rfl ?_
    refine op_assign rfl ?_
    refine reg_nil ?_
    refine hK4 _ _ ?_
    refine wp_ret (then_ret ( ?_))
    refine retN (rs := [.tmp 2, .tmp 3, .tmp 4]) (vs := [(Value.slice none 0 0), (Value.int .i64 0), (Value.int .i64 2)]) rfl hd ⟨(ev_hit hN rfl), ⟨(ev_hit hN rfl), ⟨(ev_hit hN rfl), trivial⟩⟩⟩ rfl ⟨_, rfl, ?_⟩
    -- path 9T
    have hc0 := (bl.getD 0 0).toNat_lt
    have e : takeL bl = ([], 0, 2) := by rw [takeL, if_pos (by omega)]
    exact ⟨hb, _, by rw [e]; rfl, by rw [e]; exact Own.nil _ _ _ _⟩
  · -- 9 False
    refine reg_nil ?_
    refine hK3 _ _ ?_
    refine wp_cond_false (ev_hit hN rfl) ?_
    refine wp_skip ?_
    refine hK2 _ _ ?_
    refine seq_any fun K5 hK5 => ?_
    refine one_reg ?_
    refine op_move (ev_base hN rfl s0) ?_
    refine op_index_rd slt22 (ev_hit hN rfl) hv rfl (by omega) (by omega) ?_
    intro b6 o7 h0b6 h1b6 hc8
    refine op_load1 (v := (Value.int .u8 ((bl.getD 0 0).toNat : Int))) one5 (ev_hit hN rfl) (by have := hc8 0 (Value.int .u8 ((bl.getD 0 0).toNat : Int)) (by decide) (el_u8 (i := 0) (by omega) (by omega)); simpa using this) ?_
    refine op_conv (r := ((bl.getD 0 0).toNat : Int)) (ev_hit hN rfl) us5 Try.underlying3 (wrap_i64 (by have := ((bl.getD 0 0)).toNat_lt; omega)) ?_
    refine op_assign (ev_hit hN rfl) ?_
    refine reg_nil ?_
    refine hK5 _ _ ?_
    refine seq_any fun K9 hK9 => ?_
    refine one_reg ?_
    refine op_move (ev_hit hN rfl) ?_
    have hc0 := (bl.getD 0 0).toNat_lt
    refine op_mul rfl (ev_hit hN rfl) (mul64 (by omega)) ?_
    have hc0 := (bl.getD 0 0).toNat_lt
    refine op_add rfl (ev_hit hN rfl) (add64 (by omega)) ?_
    refine op_assign (ev_hit hN rfl) ?_
    refine reg_nil ?_
    refine hK9 _ _ ?_
    refine seq_any fun K10 hK10 => ?_
    refine wp_block ?_
    refine seq_any fun K11 hK11 => ?_
    refine one_reg ?_
    refine op_move (ev_hit hN rfl) ?_
    refine op_gtr (ev_hit hN rfl) rfl (fun c19 => ?_) (fun c19 => ?_)
    · -- 19 True
      refine op_assign (ev_hit hN rfl) ?_
      refine reg_nil ?_
      refine hK11 _ _ ?_
      refine wp_cond_true (ev_hit hN rfl) ?_
      refine seq_any fun K12 hK12 => ?_
      refine one_reg ?_
      refine op_assign rfl ?_
      refine op_assign rfl ?_
      refine op_assign rfl ?_
      refine reg_nil ?_
      refine hK12 _ _ ?_
      refine wp_ret (blk_ret (then_ret ( ?_)))
      refine retN (rs := [.tmp 2, .tmp 3, .tmp 4]) (vs := [(Value.slice none 0 0), (Value.int .i64 0), (Value.int .i64 3)]) rfl hd ⟨(ev_hit hN rfl), ⟨(ev_hit hN rfl), ⟨(ev_hit hN rfl), trivial⟩⟩⟩ rfl ⟨_, rfl, ?_⟩
      -- path 9F 19T
      have hc0 := (bl.getD 0 0).toNat_lt
      have e : takeL bl = ([], 0, 3) := by rw [takeL, if_neg (by omega), if_pos (by omega)]
      exact ⟨hb, _, by rw [e]; rfl, by rw [e]; exact Own.nil _ _ _ _⟩
    · -- 19 False
      refine op_assign (ev_hit hN rfl) ?_
      refine reg_nil ?_
      refine hK11 _ _ ?_
      refine wp_cond_false (ev_hit hN rfl) ?_
      refine seq_any fun K13 hK13 => ?_
      refine one_reg ?_
      refine op_move (ev_base hN rfl s0) ?_
      refine op_len_rd Try.underlying22 (ev_hit hN rfl) hv ?_
      refine op_move (ev_hit hN rfl) ?_
      refine op_lss (ev_hit hN rfl) (ev_hit hN rfl) (fun c24 => ?_) (fun c24 => ?_)
      · -- 24 True
        refine op_assign (ev_hit hN rfl) ?_
        refine reg_nil ?_
        refine hK13 _ _ ?_
        refine wp_cond_true (ev_hit hN rfl) ?_
        refine seq_any fun K14 hK14 => ?_
        refine one_reg ?_
        refine op_assign rfl ?_
        refine op_assign rfl ?_
        refine op_assign rfl ?_
        refine reg_nil ?_
        refine hK14 _ _ ?_
        refine wp_ret (blk_ret (then_ret ( ?_)))
        refine retN (rs := [.tmp 2, .tmp 3, .tmp 4]) (vs := [(Value.slice none 0 0), (Value.int .i64 0), (Value.int .i64 2)]) rfl hd ⟨(ev_hit hN rfl), ⟨(ev_hit hN rfl), ⟨(ev_hit hN rfl), trivial⟩⟩⟩ rfl ⟨_, rfl, ?_⟩
        -- path 9F 19F 24T
        have hc0 := (bl.getD 0 0).toNat_lt
        have e : takeL bl = ([], 0, 2) := by rw [takeL, if_neg (by omega), if_neg (by omega), if_pos (by omega)]
        exact ⟨hb, _, by rw [e]; rfl, by rw [e]; exact Own.nil _ _ _ _⟩
      · -- 24 False
        refine op_assign (ev_hit hN rfl) ?_
        refine reg_nil ?_
        refine hK13 _ _ ?_
        refine wp_cond_false (ev_hit hN rfl) ?_
        refine wp_skip ?_
        refine hK10 _ _ ?_
        refine seq_any fun K15 hK15 => ?_
        refine seq_any fun K16 hK16 => ?_
        refine one_reg ?_
        refine op_assign rfl ?_
        refine reg_nil ?_
        refine hK16 _ _ ?_
        refine wp_block ?_
        have hc0 := (bl.getD 0 0).toNat_lt
        refine loop_m (fun mz_ a w' => ∃ (i : Nat) (u : Value), mz_ = (bl.getD 0 0).toNat - i ∧ (a.tmps.getD 0 undef = v) ∧ (a.tmps.getD 3 undef = (Value.int .i64 (1 + (2 * ((bl.getD 0 0).toNat : Int))))) ∧ (a.tmps.getD 4 undef = (Value.int .i64 0)) ∧ (a.tmps.getD 5 undef = (Value.int .i64 ((bl.getD 0 0).toNat : Int))) ∧ (a.tmps.getD 7 undef = v) ∧ (a.tmps.getD 8 undef = (Value.int .i64 ((bl.length : Nat) : Int))) ∧ (a.tmps.getD 9 undef = (Value.bool false)) ∧ (a.tmps.getD 10 undef = v) ∧ (a.tmps.getD 11 undef = (ptr b6 o7)) ∧ (a.tmps.getD 12 undef = (Value.int .u8 ((bl.getD 0 0).toNat : Int))) ∧ (a.tmps.getD 13 undef = (Value.int .i64 ((bl.getD 0 0).toNat : Int))) ∧ (a.tmps.getD 14 undef = (Value.int .i64 ((bl.getD 0 0).toNat : Int))) ∧ (a.tmps.getD 15 undef = (Value.int .i64 (2 * ((bl.getD 0 0).toNat : Int)))) ∧ (a.tmps.getD 16 undef = (Value.int .i64 (1 + (2 * ((bl.getD 0 0).toNat : Int))))) ∧ (a.tmps.getD 17 undef = (Value.bool false)) ∧ (a.tmps.getD 18 undef = (Value.int .i64 ((bl.getD 0 0).toNat : Int))) ∧ (a.tmps.getD 19 undef = (Value.bool false)) ∧ (a.tmps.getD 20 undef = (Value.bool false)) ∧ (a.tmps.getD 21 undef = v) ∧ (a.tmps.getD 22 undef = (Value.int .i64 ((bl.length : Nat) : Int))) ∧ (a.tmps.getD 23 undef = (Value.int .i64 (1 + (2 * ((bl.getD 0 0).toNat : Int))))) ∧ (a.tmps.getD 24 undef = (Value.bool false)) ∧ (a.tmps.getD 6 undef = (Value.int .i64 (1 + 2 * (i : Int)))) ∧ (a.tmps.getD 2 undef = u) ∧ (i ≤ (bl.getD 0 0).toNat) ∧ (Below w.heap.size w w') ∧ (RdC w' 0 w.heap.size 1 v bl.length (bl.map u8v)) ∧ (Own w' w.heap.size 46 1 u i ((tagsL i bl).map u16v))) _ hN hd ⟨0, _, rfl, (sl_base hN rfl s0), (sl_hit hN rfl), (sl_hit hN rfl), (sl_hit hN rfl), (sl_hit hN rfl), (sl_hit hN rfl), (sl_hit hN rfl), (sl_hit hN rfl), (sl_hit hN rfl), (sl_hit hN rfl), (sl_hit hN rfl), (sl_hit hN rfl), (sl_hit hN rfl), (sl_hit hN rfl), (sl_hit hN rfl), (sl_hit hN rfl), (sl_hit hN rfl), (sl_hit hN rfl), (sl_hit hN rfl), (sl_hit hN rfl), (sl_hit hN rfl), (sl_hit hN rfl), (sl_hit hN rfl).trans (congrArg (Value.int .i64) (by omega)), (sl_hit hN rfl), Nat.zero_le _, hb, hv, (Own.nil _ _ _ _)⟩ ?_
        rintro _ a17 w17 hN17 hd17 ⟨i, u, rfl, s17_0, s17_3, s17_4, s17_5, s17_7, s17_8, s17_9, s17_10, s17_11, s17_12, s17_13, s17_14, s17_15, s17_16, s17_17, s17_18, s17_19, s17_20, s17_21, s17_22, s17_23, s17_24, s17_6, s17_2, hi, hb, hv, hO18⟩
        have z_w17 := hb.size
        refine seq_any fun K19 hK19 => ?_
        refine seq_any fun K20 hK20 => ?_
        refine one_reg ?_
        refine op_move (ev_base hN17 rfl s17_6) ?_
        refine op_move (ev_base hN17 rfl s17_3) ?_
        refine op_lss (ev_hit hN17 rfl) (ev_hit hN17 rfl) (fun c27 => ?_) (fun c27 => ?_)
        · -- 27 True
          refine reg_nil ?_
          refine hK20 _ _ ?_
          refine wp_cond_true (ev_hit hN17 rfl) ?_
          refine wp_skip ?_
          refine hK19 _ _ ?_
          refine seq_any fun K21 hK21 => ?_
          refine wp_block ?_
          refine reg_chain (Φ := phiC [(fun _ _ uz _ => uz = u), (fun _ _ uz _ => uz = v), (fun _ _ uz _ => uz = (Value.int .i64 (1 + 2 * (i : Int)))), (fun _ vz uz w' => ∃ (b22 : (Nat)) (o23 : (Nat)), uz = (ptr b22 o23) ∧ PtC w' 0 w.heap.size b22 o23 [(Value.int .u8 ((bl.getD (1 + 2 * i) 0).toNat : Int))] ∧ (w.heap.size ≤ w'.heap.size ∧ ∀ k, vz.ownBlock = some k → w.heap.size ≤ k)), (fun _ _ uz _ => uz = (Value.int .u8 ((bl.getD (1 + 2 * i) 0).toNat : Int))), (fun _ _ uz _ => uz = (Value.int .u16 ((bl.getD (1 + 2 * i) 0).toNat : Int))), (fun _ _ uz _ => uz = (Value.int .u16 (((bl.getD (1 + 2 * i) 0).toNat * 256 : Nat) : Int))), (fun _ _ uz _ => uz = v), (fun _ _ uz _ => uz = (Value.int .i64 (1 + 2 * (i : Int)))), (fun _ _ uz _ => uz = (Value.int .i64 ((1 + 2 * (i : Int)) + 1))), (fun _ vz uz w' => ∃ (b26 : (Nat)) (o27 : (Nat)), uz = (ptr b26 o27) ∧ PtC w' 0 w.heap.size b26 o27 [(Value.int .u8 ((bl.getD (2 + 2 * i) 0).toNat : Int))] ∧ (w.heap.size ≤ w'.heap.size ∧ ∀ k, vz.ownBlock = some k → w.heap.size ≤ k)), (fun _ _ uz _ => uz = (Value.int .u8 ((bl.getD (2 + 2 * i) 0).toNat : Int))), (fun _ _ uz _ => uz = (Value.int .u16 ((bl.getD (2 + 2 * i) 0).toNat : Int))), (fun _ _ uz _ => uz = (Value.int .u16 ((UInt16.ofNat ((bl.getD (1 + 2 * i) 0).toNat * 256 + (bl.getD (2 + 2 * i) 0).toNat)).toNat : Int))), (fun _ vz uz w' => ∃ (b31 : Nat), uz = (Value.slice (some ⟨b31, 0, none⟩) 1 1) ∧ w17.heap.size ≤ b31 ∧ Bx w' b31 46 [(Value.int .u16 ((UInt16.ofNat ((bl.getD (1 + 2 * i) 0).toNat * 256 + (bl.getD (2 + 2 * i) 0).toNat)).toNat : Int))] ∧ vz.ownBlock ≠ some b31), chP 0, chP 0]) (C := CL [(fun vz w' => Own w' w.heap.size 46 1 vz i ((tagsL i bl).map u16v)), (fun vz w' => Own w' w.heap.size 46 1 vz (i + 1) ((((tagsL i bl) ++ [(UInt16.ofNat ((bl.getD (1 + 2 * i) 0).toNat * 256 + (bl.getD (2 + 2 * i) 0).toNat))])).map u16v))]) ⟨[15], fun c => [51, 45].getD c 51⟩ u mixed (by kernel_rfl) (by kernel_rfl) (by kernel_rfl) (by kernel_rfl) hN17 (StK.get0 (n := 1) (StK.eq (StK.eq (StK.eq (StK.cons (fun c v u w1 w2 E h => by obtain ⟨x0, x1, hv, f0, q0⟩ := h; exact ⟨x0, x1, hv, f0.keep0 E, ⟨Nat.le_trans q0.1 E.size, q0.2⟩⟩) (fun c v v' u w1 w2 _ E h => by obtain ⟨x0, x1, hv, f0, q0⟩ := h; exact ⟨x0, x1, hv, f0.keep E.1 (fun k hk => .inr (q0.2 k hk)), ⟨Nat.le_trans q0.1 E.1.size, ge_step E q0.1 q0.2⟩⟩) (StK.eq (StK.eq (StK.eq (StK.eq (StK.eq (StK.eq (StK.cons (fun c v u w1 w2 E h => by obtain ⟨x0, x1, hv, f0, q0⟩ := h; exact ⟨x0, x1, hv, f0.keep0 E, ⟨Nat.le_trans q0.1 E.size, q0.2⟩⟩) (fun c v v' u w1 w2 _ E h => by obtain ⟨x0, x1, hv, f0, q0⟩ := h; exact ⟨x0, x1, hv, f0.keep E.1 (fun k hk => .inr (q0.2 k hk)), ⟨Nat.le_trans q0.1 E.1.size, ge_step E q0.1 q0.2⟩⟩) (StK.eq (StK.eq (StK.eq (StK.cons (fun c v u w1 w2 E h => by obtain ⟨x0, hv, l0, f0, q0⟩ := h; exact ⟨x0, hv, l0, f0.keep0 E, q0⟩) (fun c v v' u w1 w2 _ E h => by obtain ⟨x0, hv, l0, f0, q0⟩ := h; exact ⟨x0, hv, l0, f0.keep E.1 (fun hh => q0 hh.symm), ne_step E f0.lt q0⟩) (StK.ch (StK.ch (StK.nil))))))))))))))))))) (StK.get1 (n := 1) (StK.eq (StK.eq (StK.eq (StK.cons (fun c v u w1 w2 E h => by obtain ⟨x0, x1, hv, f0, q0⟩ := h; exact ⟨x0, x1, hv, f0.keep0 E, ⟨Nat.le_trans q0.1 E.size, q0.2⟩⟩) (fun c v v' u w1 w2 _ E h => by obtain ⟨x0, x1, hv, f0, q0⟩ := h; exact ⟨x0, x1, hv, f0.keep E.1 (fun k hk => .inr (q0.2 k hk)), ⟨Nat.le_trans q0.1 E.1.size, ge_step E q0.1 q0.2⟩⟩) (StK.eq (StK.eq (StK.eq (StK.eq (StK.eq (StK.eq (StK.cons (fun c v u w1 w2 E h => by obtain ⟨x0, x1, hv, f0, q0⟩ := h; exact ⟨x0, x1, hv, f0.keep0 E, ⟨Nat.le_trans q0.1 E.size, q0.2⟩⟩) (fun c v v' u w1 w2 _ E h => by obtain ⟨x0, x1, hv, f0, q0⟩ := h; exact ⟨x0, x1, hv, f0.keep E.1 (fun k hk => .inr (q0.2 k hk)), ⟨Nat.le_trans q0.1 E.1.size, ge_step E q0.1 q0.2⟩⟩) (StK.eq (StK.eq (StK.eq (StK.cons (fun c v u w1 w2 E h => by obtain ⟨x0, hv, l0, f0, q0⟩ := h; exact ⟨x0, hv, l0, f0.keep0 E, q0⟩) (fun c v v' u w1 w2 _ E h => by obtain ⟨x0, hv, l0, f0, q0⟩ := h; exact ⟨x0, hv, l0, f0.keep E.1 (fun hh => q0 hh.symm), ne_step E f0.lt q0⟩) (StK.ch (StK.ch (StK.nil))))))))))))))))))) (StL2.get0 (StL2.own (StL2.own (StL2.nil)))) (StL2.get1 (StL2.own (StL2.own (StL2.nil)))) hO18 (ObLn.get (ObLn.cons ?_ (ObLn.cons ?_ (ObLn.cons ?_ (ObLn.cons ?_ (ObLn.cons ?_ (ObLn.cons ?_ (ObLn.cons ?_ (ObLn.cons ?_ (ObLn.cons ?_ (ObLn.cons ?_ (ObLn.cons ?_ (ObLn.cons ?_ (ObLn.cons ?_ (ObLn.cons ?_ (ObLn.cons ?_ (ObLn.pass rfl (ObLn.cons ?_ (ObLn.nil))))))))))))))))))) (ObLc.get (ObLc.cons ?_ (ObLc.nil))) ?_
          · -- operation 0, slot 30
            intro a22 w22 cc22 cv22 hN22 hcl22 hR22 hlt22 hvo22 hbs22 hdp22
            have hR22 : w17.grownBy w22 u.ownBlock := hR22
            have hO18_o := hO18
            have q22_2 : a22.tmps.getD 2 undef = u := (hbs22 2 (by kernel_rfl)).trans (sl_base hN17 rfl s17_2)
            clear hbs22 hdp22
            refine op_move (ev_base hN22 rfl q22_2) ?_
            exact obNc_end rfl rfl ((grown_refl _ _))
          · -- operation 1, slot 31
            intro a23 w23 cc23 cv23 hN23 hcl23 hR23 hlt23 hvo23 hbs23 hdp23
            have hR23 : w17.grownBy w23 u.ownBlock := hR23
            have hO18_o := hO18
            have q23_0 : a23.tmps.getD 0 undef = v := (hbs23 0 rfl).trans (sl_base hN17 rfl s17_0)
            clear hbs23 hdp23
            refine op_move (ev_base hN23 rfl q23_0) ?_
            exact obNc_end rfl rfl ((grown_refl _ _))
          · -- operation 2, slot 32
            intro a24 w24 cc24 cv24 hN24 hcl24 hR24 hlt24 hvo24 hbs24 hdp24
            have hR24 : w17.grownBy w24 u.ownBlock := hR24
            have hO18_o := hO18
            have q24_6 : a24.tmps.getD 6 undef = (Value.int .i64 (1 + 2 * (i : Int))) := (hbs24 6 rfl).trans (sl_base hN17 rfl s17_6)
            clear hbs24 hdp24
            refine op_move (ev_base hN24 rfl q24_6) ?_
            exact obNc_end rfl rfl ((grown_refl _ _))
          · -- operation 3, slot 33
            intro a25 w25 cc25 cv25 hN25 hcl25 hR25 hlt25 hvo25 hbs25 hdp25
            have hR25 : w17.grownBy w25 u.ownBlock := hR25
            have hO18_o := hO18
            have z_w25 := hR25.size
            have hb := below_stepO hb hO18 hR25 hb.size (by omega)
            have hv := hv.keepO hO18 hR25 (by omega)
            have q25_31 : a25.tmps.getD 31 undef = v := hdp25 1 _ 31 (by kernel_rfl) rfl rfl
            have q25_32 : a25.tmps.getD 32 undef = (Value.int .i64 (1 + 2 * (i : Int))) := hdp25 2 _ 32 (by kernel_rfl) rfl rfl
            clear hbs25 hdp25
            refine op_index_rd slt22 (ev_base hN25 rfl q25_31) hv (ev_base hN25 rfl q25_32) (by omega) (by omega) ?_
            intro b26 o27 h0b26 h1b26 hc28
            have hp29 : PtC w25 0 w.heap.size b26 o27 [(Value.int .u8 ((bl.getD (1 + 2 * i) 0).toNat : Int))] := ⟨h0b26, h1b26, fun j u hu => hc28 j u (by have := (List.getElem?_eq_some_iff.1 hu).1; simpa using this) ((fun j u hu => one_at (el_u8 (i := (1 + 2 * i)) (by omega) (by omega)) hu) j u hu)⟩
            exact obNc_end rfl ⟨b26, o27, rfl, hp29, ⟨by omega, ge_of hvo25 (fun k hk => by have := (hO18_o.lt k hk).1; omega) (by omega)⟩⟩ ((grown_refl _ _))
          · -- operation 4, slot 34
            intro a30 w30 cc30 cv30 hN30 hcl30 hR30 hlt30 hvo30 hbs30 hdp30
            have hR30 : w17.grownBy w30 u.ownBlock := hR30
            have hO18_o := hO18
            have z_w30 := hR30.size
            have hb := below_stepO hb hO18 hR30 hb.size (by omega)
            have hv := hv.keepO hO18 hR30 (by omega)
            obtain ⟨b22, o23, q30_33, hp25, xq30_33_0⟩ := hdp30 3 _ 33 (by kernel_rfl) rfl rfl
            have hp25 : PtC w30 0 w.heap.size b22 o23 [(Value.int .u8 ((bl.getD (1 + 2 * i) 0).toNat : Int))] := hp25
            clear hbs30 hdp30
            refine op_load1 (v := (Value.int .u8 ((bl.getD (1 + 2 * i) 0).toNat : Int))) one5 (ev_base hN30 rfl q30_33) (hp25.2.2 0 _ rfl) ?_
            exact obNc_end rfl rfl ((grown_refl _ _))
          · -- operation 5, slot 35
            intro a31 w31 cc31 cv31 hN31 hcl31 hR31 hlt31 hvo31 hbs31 hdp31
            have hR31 : w17.grownBy w31 u.ownBlock := hR31
            have hO18_o := hO18
            have z_w31 := hR31.size
            have hb := below_stepO hb hO18 hR31 hb.size (by omega)
            have hv := hv.keepO hO18 hR31 (by omega)
            have q31_34 : a31.tmps.getD 34 undef = (Value.int .u8 ((bl.getD (1 + 2 * i) 0).toNat : Int)) := hdp31 4 _ 34 (by kernel_rfl) rfl rfl
            clear hbs31 hdp31
            refine op_conv (r := ((bl.getD (1 + 2 * i) 0).toNat : Int)) (ev_base hN31 rfl q31_34) us5 Try.underlying46 (wrap_u16 (by have := ((bl.getD (1 + 2 * i) 0)).toNat_lt; omega)) ?_
            exact obNc_end rfl rfl ((grown_refl _ _))
          · -- operation 6, slot 36
            intro a32 w32 cc32 cv32 hN32 hcl32 hR32 hlt32 hvo32 hbs32 hdp32
            have hR32 : w17.grownBy w32 u.ownBlock := hR32
            have hO18_o := hO18
            have q32_35 : a32.tmps.getD 35 undef = (Value.int .u16 ((bl.getD (1 + 2 * i) 0).toNat : Int)) := hdp32 5 _ 35 (by kernel_rfl) rfl rfl
            clear hbs32 hdp32
            refine op_shl (r := (((bl.getD (1 + 2 * i) 0).toNat * 256 : Nat) : Int)) (ev_base hN32 rfl q32_35) rfl (by decide) shl16 ?_
            exact obNc_end rfl rfl ((grown_refl _ _))
          · -- operation 7, slot 37
            intro a33 w33 cc33 cv33 hN33 hcl33 hR33 hlt33 hvo33 hbs33 hdp33
            have hR33 : w17.grownBy w33 u.ownBlock := hR33
            have hO18_o := hO18
            have q33_0 : a33.tmps.getD 0 undef = v := (hbs33 0 rfl).trans (sl_base hN17 rfl s17_0)
            clear hbs33 hdp33
            refine op_move (ev_base hN33 rfl q33_0) ?_
            exact obNc_end rfl rfl ((grown_refl _ _))
          · -- operation 8, slot 38
            intro a34 w34 cc34 cv34 hN34 hcl34 hR34 hlt34 hvo34 hbs34 hdp34
            have hR34 : w17.grownBy w34 u.ownBlock := hR34
            have hO18_o := hO18
            have q34_6 : a34.tmps.getD 6 undef = (Value.int .i64 (1 + 2 * (i : Int))) := (hbs34 6 rfl).trans (sl_base hN17 rfl s17_6)
            clear hbs34 hdp34
            refine op_move (ev_base hN34 rfl q34_6) ?_
            exact obNc_end rfl rfl ((grown_refl _ _))
          · -- operation 9, slot 39
            intro a35 w35 cc35 cv35 hN35 hcl35 hR35 hlt35 hvo35 hbs35 hdp35
            have hR35 : w17.grownBy w35 u.ownBlock := hR35
            have hO18_o := hO18
            have q35_38 : a35.tmps.getD 38 undef = (Value.int .i64 (1 + 2 * (i : Int))) := hdp35 8 _ 38 (by kernel_rfl) rfl rfl
            clear hbs35 hdp35
            refine op_add (ev_base hN35 rfl q35_38) rfl (add64 (by omega)) ?_
            exact obNc_end rfl rfl ((grown_refl _ _))
          · -- operation 10, slot 40
            intro a36 w36 cc36 cv36 hN36 hcl36 hR36 hlt36 hvo36 hbs36 hdp36
            have hR36 : w17.grownBy w36 u.ownBlock := hR36
            have hO18_o := hO18
            have z_w36 := hR36.size
            have hb := below_stepO hb hO18 hR36 hb.size (by omega)
            have hv := hv.keepO hO18 hR36 (by omega)
            have q36_37 : a36.tmps.getD 37 undef = v := hdp36 7 _ 37 (by kernel_rfl) rfl rfl
            have q36_39 : a36.tmps.getD 39 undef = (Value.int .i64 ((1 + 2 * (i : Int)) + 1)) := hdp36 9 _ 39 (by kernel_rfl) rfl rfl
            clear hbs36 hdp36
            refine op_index_rd slt22 (ev_base hN36 rfl q36_37) hv (ev_base hN36 rfl q36_39) (by omega) (by omega) ?_
            intro b37 o38 h0b37 h1b37 hc39
            have hp40 : PtC w36 0 w.heap.size b37 o38 [(Value.int .u8 ((bl.getD (2 + 2 * i) 0).toNat : Int))] := ⟨h0b37, h1b37, fun j u hu => hc39 j u (by have := (List.getElem?_eq_some_iff.1 hu).1; simpa using this) ((fun j u hu => one_at (el_u8 (i := (2 + 2 * i)) (by omega) (by omega)) hu) j u hu)⟩
            exact obNc_end rfl ⟨b37, o38, rfl, hp40, ⟨by omega, ge_of hvo36 (fun k hk => by have := (hO18_o.lt k hk).1; omega) (by omega)⟩⟩ ((grown_refl _ _))
          · -- operation 11, slot 41
            intro a41 w41 cc41 cv41 hN41 hcl41 hR41 hlt41 hvo41 hbs41 hdp41
            have hR41 : w17.grownBy w41 u.ownBlock := hR41
            have hO18_o := hO18
            have z_w41 := hR41.size
            have hb := below_stepO hb hO18 hR41 hb.size (by omega)
            have hv := hv.keepO hO18 hR41 (by omega)
            obtain ⟨b26, o27, q41_40, hp29, xq41_40_0⟩ := hdp41 10 _ 40 (by kernel_rfl) rfl rfl
            have hp29 : PtC w41 0 w.heap.size b26 o27 [(Value.int .u8 ((bl.getD (2 + 2 * i) 0).toNat : Int))] := hp29
            clear hbs41 hdp41
            refine op_load1 (v := (Value.int .u8 ((bl.getD (2 + 2 * i) 0).toNat : Int))) one5 (ev_base hN41 rfl q41_40) (hp29.2.2 0 _ rfl) ?_
            exact obNc_end rfl rfl ((grown_refl _ _))
          · -- operation 12, slot 42
            intro a42 w42 cc42 cv42 hN42 hcl42 hR42 hlt42 hvo42 hbs42 hdp42
            have hR42 : w17.grownBy w42 u.ownBlock := hR42
            have hO18_o := hO18
            have z_w42 := hR42.size
            have hb := below_stepO hb hO18 hR42 hb.size (by omega)
            have hv := hv.keepO hO18 hR42 (by omega)
            have q42_41 : a42.tmps.getD 41 undef = (Value.int .u8 ((bl.getD (2 + 2 * i) 0).toNat : Int)) := hdp42 11 _ 41 (by kernel_rfl) rfl rfl
            clear hbs42 hdp42
            refine op_conv (r := ((bl.getD (2 + 2 * i) 0).toNat : Int)) (ev_base hN42 rfl q42_41) us5 Try.underlying46 (wrap_u16 (by have := ((bl.getD (2 + 2 * i) 0)).toNat_lt; omega)) ?_
            exact obNc_end rfl rfl ((grown_refl _ _))
          · -- operation 13, slot 43
            intro a43 w43 cc43 cv43 hN43 hcl43 hR43 hlt43 hvo43 hbs43 hdp43
            have hR43 : w17.grownBy w43 u.ownBlock := hR43
            have hO18_o := hO18
            have q43_36 : a43.tmps.getD 36 undef = (Value.int .u16 (((bl.getD (1 + 2 * i) 0).toNat * 256 : Nat) : Int)) := hdp43 6 _ 36 (by kernel_rfl) rfl rfl
            have q43_42 : a43.tmps.getD 42 undef = (Value.int .u16 ((bl.getD (2 + 2 * i) 0).toNat : Int)) := hdp43 12 _ 42 (by kernel_rfl) rfl rfl
            clear hbs43 hdp43
            refine op_or (r := ((UInt16.ofNat ((bl.getD (1 + 2 * i) 0).toNat * 256 + (bl.getD (2 + 2 * i) 0).toNat)).toNat : Int)) (ev_base hN43 rfl q43_36) (ev_base hN43 rfl q43_42) or16' ?_
            exact obNc_end rfl rfl ((grown_refl _ _))
          · -- operation 14, slot 44
            intro a44 w44 cc44 cv44 hN44 hcl44 hR44 hlt44 hvo44 hbs44 hdp44
            have hR44 : w17.grownBy w44 u.ownBlock := hR44
            have hO18_o := hO18
            have z_w44 := hR44.size
            have hb := below_stepO hb hO18 hR44 hb.size (by omega)
            have hv := hv.keepO hO18 hR44 (by omega)
            have q44_43 : a44.tmps.getD 43 undef = (Value.int .u16 ((UInt16.ofNat ((bl.getD (1 + 2 * i) 0).toNat * 256 + (bl.getD (2 + 2 * i) 0).toNat)).toNat : Int)) := hdp44 13 _ 43 (by kernel_rfl) rfl rfl
            clear hbs44 hdp44
            refine op_bslice (e := 46) (pv := [(0, (Value.int .u16 ((UInt16.ofNat ((bl.getD (1 + 2 * i) 0).toNat * 256 + (bl.getD (2 + 2 * i) 0).toNat)).toNat : Int)))]) (cs := [(Value.int .u16 ((UInt16.ofNat ((bl.getD (1 + 2 * i) 0).toNat * 256 + (bl.getD (2 + 2 * i) 0).toNat)).toNat : Int))]) ⟨rfl, (ev_base hN44 rfl q44_43), trivial⟩ (by kernel_rfl) ?_
            intro w45 b46 lo_b46 hi_b46 hB48 E47
            have z_w45 := E47.size
            have hv := hv.keep0 E47
            have hb := below_step0 hb E47 hb.size
            exact obNc_end rfl ⟨b46, rfl, (by omega), hB48, (fun hh => by have := hlt44 _ hh; omega)⟩ (E47)
          · -- operation 16, slot 2
            intro a49 w49 cc49 cv49 hN49 hcl49 hR49 hlt49 hvo49 hbs49 hdp49
            have hR49 : w17.grownBy w49 u.ownBlock := hR49
            have hO18_o := hO18
            have hch49 : chP 0 cc49 cv49 (a49.tmps.getD 45 undef) w49 := hdp49 15 _ 45 (by kernel_rfl) rfl rfl
            have hcc49 : cc49 = 1 := Nat.le_antisymm hcl49 hch49.1
            have q49_45 := hch49.2 hcc49
            clear hbs49 hdp49
            refine op_assign (ev_base hN49 rfl q49_45) ?_
            exact obNc_end rfl ⟨by omega, fun _ => rfl⟩ ((grown_refl _ _))
          · -- operation 15, slot 45
            intro o_ ho_; obtain rfl := Option.some.inj ho_; intro a50 w50 cv50 hN50 hR50 hcv050 hbs50 hdp50 hC50
            have hR50 : w17.grownBy w50 u.ownBlock := hR50
            have hO18_o := hO18
            have z_w50 := hR50.size
            have hb := below_stepO hb hO18 hR50 hb.size (by omega)
            have hv := hv.keepO hO18 hR50 (by omega)
            have hcv50 : u = cv50 := (hcv050 rfl).symm
            subst hcv50
            have hC50 : Own w50 w.heap.size 46 1 u i ((tagsL i bl).map u16v) := hC50
            have q50_30 : a50.tmps.getD 30 undef = u := hdp50 0 _ 30 (by kernel_rfl) rfl rfl
            obtain ⟨b31, q50_44, lo50_0, hB33, xq50_44_0⟩ := hdp50 14 _ 44 (by kernel_rfl) rfl rfl
            have hB33 : Bx w50 b31 46 [(Value.int .u16 ((UInt16.ofNat ((bl.getD (1 + 2 * i) 0).toNat * 256 + (bl.getD (2 + 2 * i) 0).toNat)).toNat : Int))] := hB33
            clear hbs50 hdp50
            have hP56 := hC50
            refine op_append slt75 (ev_base hN50 rfl q50_30) hP56 (ev_base hN50 rfl q50_44) (Src.ofRd Try.underlying75 (by decide) (RdC.ofBx (sz := 1) (n := 1) hB33 rfl (by decide)) (by simp [Value.oneCell', u8v])) (by unfold maxLen; omega) (by omega) hb.size ?_
            intro v51 w52 hO54 E53 hm55
            have z_w52 := E53.size
            have hv := hv.keepO hP56 E53 (by omega)
            have hB33 := hB33.keep E53 (fun hh => xq50_44_0 hh.symm)
            have hb := below_stepO hb hP56 E53 hb.size (by omega)
            have hO54 : Own w52 w.heap.size 46 1 v51 (i + 1) ((((tagsL i bl) ++ [(UInt16.ofNat ((bl.getD (1 + 2 * i) 0).toNat * 256 + (bl.getD (2 + 2 * i) 0).toNat))])).map u16v) := by simpa [u8v, u16v, cellsV] using hO54
            exact obCc_end rfl rfl (chP_now (w := w52)) hO54 ⟨E53, hm55⟩
          · -- behind the region
            intro a57 w57 v34 hN57 hd57 hbs57 hph57 hC57 E57 hm57
            have hd57 := hd57.trans hd17
            have s57_0 : a57.tmps.getD 0 undef = v := (hbs57 0 rfl).trans (sl_base hN17 rfl s17_0)
            have s57_2 : a57.tmps.getD 2 undef = v34 := (show chP 0 1 v34 (a57.tmps.getD 2 undef) w57 from hph57 16 _ 2 rfl rfl).2 rfl
            have s57_3 : a57.tmps.getD 3 undef = (Value.int .i64 (1 + (2 * ((bl.getD 0 0).toNat : Int)))) := (hbs57 3 rfl).trans (sl_base hN17 rfl s17_3)
            have s57_4 : a57.tmps.getD 4 undef = (Value.int .i64 0) := (hbs57 4 rfl).trans (sl_base hN17 rfl s17_4)
            have s57_5 : a57.tmps.getD 5 undef = (Value.int .i64 ((bl.getD 0 0).toNat : Int)) := (hbs57 5 rfl).trans (sl_base hN17 rfl s17_5)
            have s57_6 : a57.tmps.getD 6 undef = (Value.int .i64 (1 + 2 * (i : Int))) := (hbs57 6 rfl).trans (sl_base hN17 rfl s17_6)
            have s57_7 : a57.tmps.getD 7 undef = v := (hbs57 7 rfl).trans (sl_base hN17 rfl s17_7)
            have s57_8 : a57.tmps.getD 8 undef = (Value.int .i64 ((bl.length : Nat) : Int)) := (hbs57 8 rfl).trans (sl_base hN17 rfl s17_8)
            have s57_9 : a57.tmps.getD 9 undef = (Value.bool false) := (hbs57 9 rfl).trans (sl_base hN17 rfl s17_9)
            have s57_10 : a57.tmps.getD 10 undef = v := (hbs57 10 rfl).trans (sl_base hN17 rfl s17_10)
            have s57_11 : a57.tmps.getD 11 undef = (ptr b6 o7) := (hbs57 11 rfl).trans (sl_base hN17 rfl s17_11)
            have s57_12 : a57.tmps.getD 12 undef = (Value.int .u8 ((bl.getD 0 0).toNat : Int)) := (hbs57 12 rfl).trans (sl_base hN17 rfl s17_12)
            have s57_13 : a57.tmps.getD 13 undef = (Value.int .i64 ((bl.getD 0 0).toNat : Int)) := (hbs57 13 rfl).trans (sl_base hN17 rfl s17_13)
            have s57_14 : a57.tmps.getD 14 undef = (Value.int .i64 ((bl.getD 0 0).toNat : Int)) := (hbs57 14 rfl).trans (sl_base hN17 rfl s17_14)
            have s57_15 : a57.tmps.getD 15 undef = (Value.int .i64 (2 * ((bl.getD 0 0).toNat : Int))) := (hbs57 15 rfl).trans (sl_base hN17 rfl s17_15)
            have s57_16 : a57.tmps.getD 16 undef = (Value.int .i64 (1 + (2 * ((bl.getD 0 0).toNat : Int)))) := (hbs57 16 rfl).trans (sl_base hN17 rfl s17_16)
            have s57_17 : a57.tmps.getD 17 undef = (Value.bool false) := (hbs57 17 rfl).trans (sl_base hN17 rfl s17_17)
            have s57_18 : a57.tmps.getD 18 undef = (Value.int .i64 ((bl.getD 0 0).toNat : Int)) := (hbs57 18 rfl).trans (sl_base hN17 rfl s17_18)
            have s57_19 : a57.tmps.getD 19 undef = (Value.bool false) := (hbs57 19 rfl).trans (sl_base hN17 rfl s17_19)
            have s57_20 : a57.tmps.getD 20 undef = (Value.bool false) := (hbs57 20 rfl).trans (sl_base hN17 rfl s17_20)
            have s57_21 : a57.tmps.getD 21 undef = v := (hbs57 21 rfl).trans (sl_base hN17 rfl s17_21)
            have s57_22 : a57.tmps.getD 22 undef = (Value.int .i64 ((bl.length : Nat) : Int)) := (hbs57 22 rfl).trans (sl_base hN17 rfl s17_22)
            have s57_23 : a57.tmps.getD 23 undef = (Value.int .i64 (1 + (2 * ((bl.getD 0 0).toNat : Int)))) := (hbs57 23 rfl).trans (sl_base hN17 rfl s17_23)
            have s57_24 : a57.tmps.getD 24 undef = (Value.bool false) := (hbs57 24 rfl).trans (sl_base hN17 rfl s17_24)
            have s57_25 : a57.tmps.getD 25 undef = (Value.int .i64 (1 + 2 * (i : Int))) := (hbs57 25 rfl).trans (sl_hit hN17 rfl)
            have s57_26 : a57.tmps.getD 26 undef = (Value.int .i64 (1 + (2 * ((bl.getD 0 0).toNat : Int)))) := (hbs57 26 rfl).trans (sl_hit hN17 rfl)
            have s57_27 : a57.tmps.getD 27 undef = (Value.bool true) := (hbs57 27 rfl).trans (sl_hit hN17 rfl)
            have s57_30 : a57.tmps.getD 30 undef = u := hph57 0 _ 30 rfl rfl
            have s57_31 : a57.tmps.getD 31 undef = v := hph57 1 _ 31 rfl rfl
            have s57_32 : a57.tmps.getD 32 undef = (Value.int .i64 (1 + 2 * (i : Int))) := hph57 2 _ 32 rfl rfl
            obtain ⟨b22, o23, s57_33, hp25, xq57_33_0⟩ := hph57 3 _ 33 rfl rfl
            have hp25 : PtC w57 0 w.heap.size b22 o23 [(Value.int .u8 ((bl.getD (1 + 2 * i) 0).toNat : Int))] := hp25
            have s57_34 : a57.tmps.getD 34 undef = (Value.int .u8 ((bl.getD (1 + 2 * i) 0).toNat : Int)) := hph57 4 _ 34 rfl rfl
            have s57_35 : a57.tmps.getD 35 undef = (Value.int .u16 ((bl.getD (1 + 2 * i) 0).toNat : Int)) := hph57 5 _ 35 rfl rfl
            have s57_36 : a57.tmps.getD 36 undef = (Value.int .u16 (((bl.getD (1 + 2 * i) 0).toNat * 256 : Nat) : Int)) := hph57 6 _ 36 rfl rfl
            have s57_37 : a57.tmps.getD 37 undef = v := hph57 7 _ 37 rfl rfl
            have s57_38 : a57.tmps.getD 38 undef = (Value.int .i64 (1 + 2 * (i : Int))) := hph57 8 _ 38 rfl rfl
            have s57_39 : a57.tmps.getD 39 undef = (Value.int .i64 ((1 + 2 * (i : Int)) + 1)) := hph57 9 _ 39 rfl rfl
            obtain ⟨b26, o27, s57_40, hp29, xq57_40_0⟩ := hph57 10 _ 40 rfl rfl
            have hp29 : PtC w57 0 w.heap.size b26 o27 [(Value.int .u8 ((bl.getD (2 + 2 * i) 0).toNat : Int))] := hp29
            have s57_41 : a57.tmps.getD 41 undef = (Value.int .u8 ((bl.getD (2 + 2 * i) 0).toNat : Int)) := hph57 11 _ 41 rfl rfl
            have s57_42 : a57.tmps.getD 42 undef = (Value.int .u16 ((bl.getD (2 + 2 * i) 0).toNat : Int)) := hph57 12 _ 42 rfl rfl
            have s57_43 : a57.tmps.getD 43 undef = (Value.int .u16 ((UInt16.ofNat ((bl.getD (1 + 2 * i) 0).toNat * 256 + (bl.getD (2 + 2 * i) 0).toNat)).toNat : Int)) := hph57 13 _ 43 rfl rfl
            obtain ⟨b31, s57_44, l57_0, hB33, xq57_44_0⟩ := hph57 14 _ 44 rfl rfl
            have hB33 : Bx w57 b31 46 [(Value.int .u16 ((UInt16.ofNat ((bl.getD (1 + 2 * i) 0).toNat * 256 + (bl.getD (2 + 2 * i) 0).toNat)).toNat : Int))] := hB33
            have s57_45 : a57.tmps.getD 45 undef = v34 := (show chP 0 1 v34 (a57.tmps.getD 45 undef) w57 from hph57 15 _ 45 rfl rfl).2 rfl
            clear hbs57 hph57
            have E57 : w17.grownBy w57 u.ownBlock := E57
            have hC57 : Own w57 w.heap.size 46 1 v34 (i + 1) ((((tagsL i bl) ++ [(UInt16.ofNat ((bl.getD (1 + 2 * i) 0).toNat * 256 + (bl.getD (2 + 2 * i) 0).toNat))])).map u16v) := hC57
            have z_w57 := E57.size
            have hv := hv.keepO hO18 E57 (by omega)
            have hb := below_stepO hb hO18 E57 hb.size (by omega)
            refine hK21 _ _ ?_
            refine one_reg ?_
            refine op_move (ev_base hN57 rfl s57_6) ?_
            refine op_add (ev_hit hN57 rfl) rfl (add64 (by omega)) ?_
            refine op_assign (ev_hit hN57 rfl) ?_
            refine reg_nil ?_
            -- round 9F 19F 24F 27T
            exact loop_next _ hN57 hd57 ⟨i + 1, _, rfl, (sl_base hN57 rfl s57_0), (sl_base hN57 rfl s57_3), (sl_base hN57 rfl s57_4), (sl_base hN57 rfl s57_5), (sl_base hN57 rfl s57_7), (sl_base hN57 rfl s57_8), (sl_base hN57 rfl s57_9), (sl_base hN57 rfl s57_10), (sl_base hN57 rfl s57_11), (sl_base hN57 rfl s57_12), (sl_base hN57 rfl s57_13), (sl_base hN57 rfl s57_14), (sl_base hN57 rfl s57_15), (sl_base hN57 rfl s57_16), (sl_base hN57 rfl s57_17), (sl_base hN57 rfl s57_18), (sl_base hN57 rfl s57_19), (sl_base hN57 rfl s57_20), (sl_base hN57 rfl s57_21), (sl_base hN57 rfl s57_22), (sl_base hN57 rfl s57_23), (sl_base hN57 rfl s57_24), (sl_hit hN57 rfl).trans (congrArg (Value.int .i64) (by omega)), (sl_base hN57 rfl s57_2), (by omega), hb, hv, (hC57.cast (by first | omega | (simp; try omega)) (by first | (rw [tags_step]; done) | (rw [tags_step]; simp [u16v])))⟩ (by omega)
        · -- 27 False
          refine reg_nil ?_
          refine hK20 _ _ ?_
          refine wp_cond_false (ev_hit hN17 rfl) ?_
          refine wp_exit (then_exit (then_exit (blk_hit ?_)))
          refine hK15 _ _ ?_
          refine seq_any fun K58 hK58 => ?_
          refine seq_any fun K59 hK59 => ?_
          refine one_reg ?_
          refine op_move (ev_base hN17 rfl s17_2) ?_
          have htl := tags_len i bl
          refine op_fn (vs := [u]) ok87 ⟨(ev_hit hN17 rfl), trivial⟩ (rises_ret (tagsL i bl) _ _ (by first | assumption | omega | (simp only [List.length_append, List.length_cons, List.length_nil, List.length_drop, List.length_take]; omega) | (dsimp only; omega) | decide | (simp [keyV, be8_len]; done)) (show RdC w17 0 w17.heap.size 1 u (tagsL i bl).length ((tagsL i bl).map u16v) from by have hh : RdC w17 0 w17.heap.size 1 _ _ _ := (hO18.rdw.mono (L' := 0) (B' := w17.heap.size) (Nat.zero_le _) (by omega)); first | exact hh | exact hh.cast (by first | omega | (simp; try omega)) (by first | rfl | simp [u16v]))) ?_
          rintro _ w60 ⟨E61, rfl⟩
          have E61 := grown_of_below E61
          have z_w60 := E61.size
          have hv := hv.keep0 E61
          have hO18 := hO18.keep0 E61
          have hb := below_step0 hb E61 hb.size
          rcases Bool.eq_false_or_eq_true ((decide (Rise (tagsL i bl)))) with c47 | c47
          · -- 47 True
            rw [c47]
            refine op_not (ev_hit hN17 rfl) ?_
            refine reg_nil ?_
            refine hK59 _ _ ?_
            refine wp_cond_false (ev_hit hN17 rfl) ?_
            refine wp_skip ?_
            refine hK58 _ _ ?_
            refine seq_any fun K62 hK62 => ?_
            refine one_reg ?_
            refine op_move (ev_base hN17 rfl s17_2) ?_
            refine op_move (ev_base hN17 rfl s17_3) ?_
            refine op_assign (ev_hit hN17 rfl) ?_
            refine op_assign (ev_hit hN17 rfl) ?_
            refine op_assign rfl ?_
            refine reg_nil ?_
            refine hK62 _ _ ?_
            refine wp_ret ?_
            refine retN (rs := [.tmp 2, .tmp 3, .tmp 4]) (vs := [u, (Value.int .i64 (1 + (2 * ((bl.getD 0 0).toNat : Int)))), (Value.int .i64 0)]) rfl hd17 ⟨(ev_hit hN17 rfl), ⟨(ev_hit hN17 rfl), ⟨(ev_hit hN17 rfl), trivial⟩⟩⟩ rfl ⟨_, rfl, ?_⟩
            -- path 9F 19F 24F 27F 47T
            have hi2 : i = (bl.getD 0 0).toNat := by omega
            subst hi2
            have e : takeL bl = (tagsL (bl.getD 0 0).toNat bl, ((1 + 2 * (bl.getD 0 0).toNat : Nat) : Int), 0) := by rw [takeL, if_neg (by omega), if_neg (by omega), if_neg (by omega), if_pos (of_decide_eq_true c47)]
            exact ⟨hb, _, by rw [e]; exact congrArg (fun q : Int => Value.tuple #[_, .int .i64 q, _]) (show (1 + 2 * ((bl.getD 0 0).toNat : Int)) = ((1 + 2 * (bl.getD 0 0).toNat : Nat) : Int) by omega), by rw [e]; exact hO18.cast (tags_len _ _).symm rfl⟩
          · -- 47 False
            rw [c47]
            refine op_not (ev_hit hN17 rfl) ?_
            refine reg_nil ?_
            refine hK59 _ _ ?_
            refine wp_cond_true (ev_hit hN17 rfl) ?_
            refine seq_any fun K63 hK63 => ?_
            refine one_reg ?_
            refine op_assign rfl ?_
            refine op_assign rfl ?_
            refine op_assign rfl ?_
            refine reg_nil ?_
            refine hK63 _ _ ?_
            refine wp_ret (then_ret ( ?_))
            refine retN (rs := [.tmp 2, .tmp 3, .tmp 4]) (vs := [(Value.slice none 0 0), (Value.int .i64 0), (Value.int .i64 3)]) rfl hd17 ⟨(ev_hit hN17 rfl), ⟨(ev_hit hN17 rfl), ⟨(ev_hit hN17 rfl), trivial⟩⟩⟩ rfl ⟨_, rfl, ?_⟩
            -- path 9F 19F 24F 27F 47F
            have hi2 : i = (bl.getD 0 0).toNat := by omega
            subst hi2
            have e : takeL bl = ([], 0, 3) := by rw [takeL, if_neg (by omega), if_neg (by omega), if_neg (by omega), if_neg (of_decide_eq_false c47)]
            exact ⟨hb, _, by rw [e]; rfl, by rw [e]; exact Own.nil _ _ _ _⟩

theorem refTake_ret (bl : List UInt8) (v : Value) (w : World) (hl : bl.length ≤ 1000000000000) (hv : RdC w 0 w.heap.size 1 v bl.length (bl.map u8v)) : Ret Try.prog 75 #[v] w (fun v' w' => Below w.heap.size w w' ∧ ∃ u, v' = .tuple #[u, .int .i64 (takeL bl).2.1, .int .i64 (takeL bl).2.2] ∧ Own w' w.heap.size 46 1 u (takeL bl).1.length ((takeL bl).1.map u16v)) := by
  have hb := Below.refl w.heap.size w
  refine enter (N := 54) Try.func75 rfl rfl (by simp) fun a0 hN hd hA => ?_
  have s0 : a0.tmps.getD 0 undef = v := hA 0 (by simp)
  clear hA
  refine seq_any fun K64 hK64 => ?_
  refine one_reg ?_
  refine op_assign rfl ?_
  refine op_assign rfl ?_
  refine op_assign rfl ?_
  refine reg_nil ?_
  refine hK64 _ _ ?_
  refine seq_any fun K65 hK65 => ?_
  refine seq_any fun K66 hK66 => ?_
  refine one_reg ?_
  refine op_move (ev_base hN rfl s0) ?_
  refine op_len_rd Try.underlying22 (ev_hit hN rfl) hv ?_
  refine op_lss (ev_hit hN rfl) rfl (fun c10 => ?_) (fun c10 => ?_)
  · -- 10 True
    refine reg_nil ?_
    refine hK66 _ _ ?_
    refine wp_cond_true (ev_hit hN rfl) ?_
    refine seq_any fun K67 hK67 => ?_
    refine one_reg ?_
    refine op_assign rfl ?_
    refine op_assign rfl ?_
    refine op_assign rfl ?_
    refine reg_nil ?_
    refine hK67 _ _ ?_
    refine wp_ret (then_ret ( ?_))
    refine retN (rs := [.tmp 2, .tmp 3, .tmp 4]) (vs := [(Value.slice none 0 0), (Value.int .i64 0), (Value.int .i64 2)]) rfl hd ⟨(ev_hit hN rfl), ⟨(ev_hit hN rfl), ⟨(ev_hit hN rfl), trivial⟩⟩⟩ rfl ⟨_, rfl, ?_⟩
    -- path 10T
    have hc0 := (bl.getD 0 0).toNat_lt
    have e : takeL bl = ([], 0, 2) := by rw [takeL, if_pos (by omega)]
    exact ⟨hb, _, by rw [e]; rfl, by rw [e]; exact Own.nil _ _ _ _⟩
  · -- 10 False
    refine reg_nil ?_
    refine hK66 _ _ ?_
    refine wp_cond_false (ev_hit hN rfl) ?_
    refine wp_skip ?_
    refine hK65 _ _ ?_
    refine seq_any fun K68 hK68 => ?_
    refine one_reg ?_
    refine op_move (ev_base hN rfl s0) ?_
    refine op_index_rd slt22 (ev_hit hN rfl) hv rfl (by omega) (by omega) ?_
    intro b69 o70 h0b69 h1b69 hc71
    refine op_load1 (v := (Value.int .u8 ((bl.getD 0 0).toNat : Int))) one5 (ev_hit hN rfl) (by have := hc71 0 (Value.int .u8 ((bl.getD 0 0).toNat : Int)) (by decide) (el_u8 (i := 0) (by omega) (by omega)); simpa using this) ?_
    refine op_conv (r := ((bl.getD 0 0).toNat : Int)) (ev_hit hN rfl) us5 Try.underlying3 (wrap_i64 (by have := ((bl.getD 0 0)).toNat_lt; omega)) ?_
    refine op_assign (ev_hit hN rfl) ?_
    refine reg_nil ?_
    refine hK68 _ _ ?_
    refine seq_any fun K72 hK72 => ?_
    refine seq_any fun K73 hK73 => ?_
    refine one_reg ?_
    refine op_move (ev_hit hN rfl) ?_
    refine op_gtr (ev_hit hN rfl) rfl (fun c16 => ?_) (fun c16 => ?_)
    · -- 16 True
      refine reg_nil ?_
      refine hK73 _ _ ?_
      refine wp_cond_true (ev_hit hN rfl) ?_
      refine seq_any fun K74 hK74 => ?_
      refine one_reg ?_
      refine op_assign rfl ?_
      refine op_assign rfl ?_
      refine op_assign rfl ?_
      refine reg_nil ?_
      refine hK74 _ _ ?_
      refine wp_ret (then_ret ( ?_))
      refine retN (rs := [.tmp 2, .tmp 3, .tmp 4]) (vs := [(Value.slice none 0 0), (Value.int .i64 0), (Value.int .i64 3)]) rfl hd ⟨(ev_hit hN rfl), ⟨(ev_hit hN rfl), ⟨(ev_hit hN rfl), trivial⟩⟩⟩ rfl ⟨_, rfl, ?_⟩
      -- path 10F 16T
      have hc0 := (bl.getD 0 0).toNat_lt
      have e : takeL bl = ([], 0, 3) := by rw [takeL, if_neg (by omega), if_pos (by omega)]
      exact ⟨hb, _, by rw [e]; rfl, by rw [e]; exact Own.nil _ _ _ _⟩
    · -- 16 False
      refine reg_nil ?_
      refine hK73 _ _ ?_
      refine wp_cond_false (ev_hit hN rfl) ?_
      refine wp_skip ?_
      refine hK72 _ _ ?_
      refine seq_any fun K75 hK75 => ?_
      refine seq_any fun K76 hK76 => ?_
      refine one_reg ?_
      refine op_move (ev_base hN rfl s0) ?_
      refine op_len_rd Try.underlying22 (ev_hit hN rfl) hv ?_
      refine op_move (ev_hit hN rfl) ?_
      have hc0 := (bl.getD 0 0).toNat_lt
      refine op_mul rfl (ev_hit hN rfl) (mul64 (by omega)) ?_
      have hc0 := (bl.getD 0 0).toNat_lt
      refine op_add rfl (ev_hit hN rfl) (add64 (by omega)) ?_
      refine op_lss (ev_hit hN rfl) (ev_hit hN rfl) (fun c22 => ?_) (fun c22 => ?_)
      · -- 22 True
        refine reg_nil ?_
        refine hK76 _ _ ?_
        refine wp_cond_true (ev_hit hN rfl) ?_
        refine seq_any fun K77 hK77 => ?_
        refine one_reg ?_
        refine op_assign rfl ?_
        refine op_assign rfl ?_
        refine op_assign rfl ?_
        refine reg_nil ?_
        refine hK77 _ _ ?_
        refine wp_ret (then_ret ( ?_))
        refine retN (rs := [.tmp 2, .tmp 3, .tmp 4]) (vs := [(Value.slice none 0 0), (Value.int .i64 0), (Value.int .i64 2)]) rfl hd ⟨(ev_hit hN rfl), ⟨(ev_hit hN rfl), ⟨(ev_hit hN rfl), trivial⟩⟩⟩ rfl ⟨_, rfl, ?_⟩
        -- path 10F 16F 22T
        have hc0 := (bl.getD 0 0).toNat_lt
        have e : takeL bl = ([], 0, 2) := by rw [takeL, if_neg (by omega), if_neg (by omega), if_pos (by omega)]
        exact ⟨hb, _, by rw [e]; rfl, by rw [e]; exact Own.nil _ _ _ _⟩
      · -- 22 False
        refine reg_nil ?_
        refine hK76 _ _ ?_
        refine wp_cond_false (ev_hit hN rfl) ?_
        refine wp_skip ?_
        refine hK75 _ _ ?_
        refine seq_any fun K78 hK78 => ?_
        refine one_reg ?_
        refine op_assign rfl ?_
        refine reg_nil ?_
        refine hK78 _ _ ?_
        refine seq_any fun K79 hK79 => ?_
        refine seq_any fun K80 hK80 => ?_
        refine one_reg ?_
        refine op_assign rfl ?_
        refine reg_nil ?_
        refine hK80 _ _ ?_
        refine wp_block ?_
        have hc0 := (bl.getD 0 0).toNat_lt
        refine loop_m (fun mz_ a w' => ∃ (i : Nat) (u : Value), mz_ = (bl.getD 0 0).toNat - i ∧ (a.tmps.getD 0 undef = v) ∧ (a.tmps.getD 2 undef = (Value.slice none 0 0)) ∧ (a.tmps.getD 3 undef = (Value.int .i64 0)) ∧ (a.tmps.getD 4 undef = (Value.int .i64 0)) ∧ (a.tmps.getD 5 undef = (Value.int .i64 ((bl.getD 0 0).toNat : Int))) ∧ (a.tmps.getD 8 undef = v) ∧ (a.tmps.getD 9 undef = (Value.int .i64 ((bl.length : Nat) : Int))) ∧ (a.tmps.getD 10 undef = (Value.bool false)) ∧ (a.tmps.getD 11 undef = v) ∧ (a.tmps.getD 12 undef = (ptr b69 o70)) ∧ (a.tmps.getD 13 undef = (Value.int .u8 ((bl.getD 0 0).toNat : Int))) ∧ (a.tmps.getD 14 undef = (Value.int .i64 ((bl.getD 0 0).toNat : Int))) ∧ (a.tmps.getD 15 undef = (Value.int .i64 ((bl.getD 0 0).toNat : Int))) ∧ (a.tmps.getD 16 undef = (Value.bool false)) ∧ (a.tmps.getD 17 undef = v) ∧ (a.tmps.getD 18 undef = (Value.int .i64 ((bl.length : Nat) : Int))) ∧ (a.tmps.getD 19 undef = (Value.int .i64 ((bl.getD 0 0).toNat : Int))) ∧ (a.tmps.getD 20 undef = (Value.int .i64 (2 * ((bl.getD 0 0).toNat : Int)))) ∧ (a.tmps.getD 21 undef = (Value.int .i64 (1 + (2 * ((bl.getD 0 0).toNat : Int))))) ∧ (a.tmps.getD 22 undef = (Value.bool false)) ∧ (a.tmps.getD 7 undef = (Value.int .i64 ((i : Nat) : Int))) ∧ (a.tmps.getD 6 undef = u) ∧ (i ≤ (bl.getD 0 0).toNat) ∧ (Below w.heap.size w w') ∧ (RdC w' 0 w.heap.size 1 v bl.length (bl.map u8v)) ∧ (Own w' w.heap.size 46 1 u i ((tagsL i bl).map u16v))) _ hN hd ⟨0, _, rfl, (sl_base hN rfl s0), (sl_hit hN rfl), (sl_hit hN rfl), (sl_hit hN rfl), (sl_hit hN rfl), (sl_hit hN rfl), (sl_hit hN rfl), (sl_hit hN rfl), (sl_hit hN rfl), (sl_hit hN rfl), (sl_hit hN rfl), (sl_hit hN rfl), (sl_hit hN rfl), (sl_hit hN rfl), (sl_hit hN rfl), (sl_hit hN rfl), (sl_hit hN rfl), (sl_hit hN rfl), (sl_hit hN rfl), (sl_hit hN rfl), (sl_hit hN rfl).trans (congrArg (Value.int .i64) (by omega)), (sl_hit hN rfl), Nat.zero_le _, hb, hv, (Own.nil _ _ _ _)⟩ ?_
        rintro _ a81 w81 hN81 hd81 ⟨i, u, rfl, s81_0, s81_2, s81_3, s81_4, s81_5, s81_8, s81_9, s81_10, s81_11, s81_12, s81_13, s81_14, s81_15, s81_16, s81_17, s81_18, s81_19, s81_20, s81_21, s81_22, s81_7, s81_6, hi, hb, hv, hO82⟩
        have z_w81 := hb.size
        refine seq_any fun K83 hK83 => ?_
        refine seq_any fun K84 hK84 => ?_
        refine one_reg ?_
        refine op_move (ev_base hN81 rfl s81_7) ?_
        refine op_move (ev_base hN81 rfl s81_5) ?_
        refine op_lss (ev_hit hN81 rfl) (ev_hit hN81 rfl) (fun c25 => ?_) (fun c25 => ?_)
        · -- 25 True
          refine reg_nil ?_
          refine hK84 _ _ ?_
          refine wp_cond_true (ev_hit hN81 rfl) ?_
          refine wp_skip ?_
          refine hK83 _ _ ?_
          refine seq_any fun K85 hK85 => ?_
          refine wp_block ?_
          refine reg_chain (Φ := phiC [(fun _ _ uz _ => uz = u), (fun _ _ uz _ => uz = v), (fun _ _ uz _ => uz = (Value.int .i64 ((i : Nat) : Int))), (fun _ _ uz _ => uz = (Value.int .i64 (2 * ((i : Nat) : Int)))), (fun _ _ uz _ => uz = (Value.int .i64 (1 + (2 * ((i : Nat) : Int))))), (fun _ vz uz w' => ∃ (b86 : (Nat)) (o87 : (Nat)), uz = (ptr b86 o87) ∧ PtC w' 0 w.heap.size b86 o87 [(Value.int .u8 ((bl.getD (1 + (2 * i)) 0).toNat : Int))] ∧ (w.heap.size ≤ w'.heap.size ∧ ∀ k, vz.ownBlock = some k → w.heap.size ≤ k)), (fun _ _ uz _ => uz = (Value.int .u8 ((bl.getD (1 + (2 * i)) 0).toNat : Int))), (fun _ _ uz _ => uz = (Value.int .u16 ((bl.getD (1 + (2 * i)) 0).toNat : Int))), (fun _ _ uz _ => uz = (Value.int .u16 (((bl.getD (1 + 2 * i) 0).toNat * 256 : Nat) : Int))), (fun _ _ uz _ => uz = v), (fun _ _ uz _ => uz = (Value.int .i64 ((i : Nat) : Int))), (fun _ _ uz _ => uz = (Value.int .i64 (2 * ((i : Nat) : Int)))), (fun _ _ uz _ => uz = (Value.int .i64 (2 + (2 * ((i : Nat) : Int))))), (fun _ vz uz w' => ∃ (b90 : (Nat)) (o91 : (Nat)), uz = (ptr b90 o91) ∧ PtC w' 0 w.heap.size b90 o91 [(Value.int .u8 ((bl.getD (2 + (2 * i)) 0).toNat : Int))] ∧ (w.heap.size ≤ w'.heap.size ∧ ∀ k, vz.ownBlock = some k → w.heap.size ≤ k)), (fun _ _ uz _ => uz = (Value.int .u8 ((bl.getD (2 + (2 * i)) 0).toNat : Int))), (fun _ _ uz _ => uz = (Value.int .u16 ((bl.getD (2 + (2 * i)) 0).toNat : Int))), (fun _ _ uz _ => uz = (Value.int .u16 ((UInt16.ofNat ((bl.getD (1 + 2 * i) 0).toNat * 256 + (bl.getD (2 + 2 * i) 0).toNat)).toNat : Int))), (fun _ vz uz w' => ∃ (b95 : Nat), uz = (Value.slice (some ⟨b95, 0, none⟩) 1 1) ∧ w81.heap.size ≤ b95 ∧ Bx w' b95 46 [(Value.int .u16 ((UInt16.ofNat ((bl.getD (1 + 2 * i) 0).toNat * 256 + (bl.getD (2 + 2 * i) 0).toNat)).toNat : Int))] ∧ vz.ownBlock ≠ some b95), chP 0, chP 0]) (C := CL [(fun vz w' => Own w' w.heap.size 46 1 vz i ((tagsL i bl).map u16v)), (fun vz w' => Own w' w.heap.size 46 1 vz (i + 1) ((((tagsL i bl) ++ [(UInt16.ofNat ((bl.getD (1 + 2 * i) 0).toNat * 256 + (bl.getD (2 + 2 * i) 0).toNat))])).map u16v))]) ⟨[18], fun c => [54, 46].getD c 54⟩ u mixed (by kernel_rfl) (by kernel_rfl) (by kernel_rfl) (by kernel_rfl) hN81 (StK.get0 (n := 1) (StK.eq (StK.eq (StK.eq (StK.eq (StK.eq (StK.cons (fun c v u w1 w2 E h => by obtain ⟨x0, x1, hv, f0, q0⟩ := h; exact ⟨x0, x1, hv, f0.keep0 E, ⟨Nat.le_trans q0.1 E.size, q0.2⟩⟩) (fun c v v' u w1 w2 _ E h => by obtain ⟨x0, x1, hv, f0, q0⟩ := h; exact ⟨x0, x1, hv, f0.keep E.1 (fun k hk => .inr (q0.2 k hk)), ⟨Nat.le_trans q0.1 E.1.size, ge_step E q0.1 q0.2⟩⟩) (StK.eq (StK.eq (StK.eq (StK.eq (StK.eq (StK.eq (StK.eq (StK.cons (fun c v u w1 w2 E h => by obtain ⟨x0, x1, hv, f0, q0⟩ := h; exact ⟨x0, x1, hv, f0.keep0 E, ⟨Nat.le_trans q0.1 E.size, q0.2⟩⟩) (fun c v v' u w1 w2 _ E h => by obtain ⟨x0, x1, hv, f0, q0⟩ := h; exact ⟨x0, x1, hv, f0.keep E.1 (fun k hk => .inr (q0.2 k hk)), ⟨Nat.le_trans q0.1 E.1.size, ge_step E q0.1 q0.2⟩⟩) (StK.eq (StK.eq (StK.eq (StK.cons (fun c v u w1 w2 E h => by obtain ⟨x0, hv, l0, f0, q0⟩ := h; exact ⟨x0, hv, l0, f0.keep0 E, q0⟩) (fun c v v' u w1 w2 _ E h => by obtain ⟨x0, hv, l0, f0, q0⟩ := h; exact ⟨x0, hv, l0, f0.keep E.1 (fun hh => q0 hh.symm), ne_step E f0.lt q0⟩) (StK.ch (StK.ch (StK.nil)))))))))))))))))))))) (StK.get1 (n := 1) (StK.eq (StK.eq (StK.eq (StK.eq (StK.eq (StK.cons (fun c v u w1 w2 E h => by obtain ⟨x0, x1, hv, f0, q0⟩ := h; exact ⟨x0, x1, hv, f0.keep0 E, ⟨Nat.le_trans q0.1 E.size, q0.2⟩⟩) (fun c v v' u w1 w2 _ E h => by obtain ⟨x0, x1, hv, f0, q0⟩ := h; exact ⟨x0, x1, hv, f0.keep E.1 (fun k hk => .inr (q0.2 k hk)), ⟨Nat.le_trans q0.1 E.1.size, ge_step E q0.1 q0.2⟩⟩) (StK.eq (StK.eq (StK.eq (StK.eq (StK.eq (StK.eq (StK.eq (StK.cons (fun c v u w1 w2 E h => by obtain ⟨x0, x1, hv, f0, q0⟩ := h; exact ⟨x0, x1, hv, f0.keep0 E, ⟨Nat.le_trans q0.1 E.size, q0.2⟩⟩) (fun c v v' u w1 w2 _ E h => by obtain ⟨x0, x1, hv, f0, q0⟩ := h; exact ⟨x0, x1, hv, f0.keep E.1 (fun k hk => .inr (q0.2 k hk)), ⟨Nat.le_trans q0.1 E.1.size, ge_step E q0.1 q0.2⟩⟩) (StK.eq (StK.eq (StK.eq (StK.cons (fun c v u w1 w2 E h => by obtain ⟨x0, hv, l0, f0, q0⟩ := h; exact ⟨x0, hv, l0, f0.keep0 E, q0⟩) (fun c v v' u w1 w2 _ E h => by obtain ⟨x0, hv, l0, f0, q0⟩ := h; exact ⟨x0, hv, l0, f0.keep E.1 (fun hh => q0 hh.symm), ne_step E f0.lt q0⟩) (StK.ch (StK.ch (StK.nil)))))))))))))))))))))) (StL2.get0 (StL2.own (StL2.own (StL2.nil)))) (StL2.get1 (StL2.own (StL2.own (StL2.nil)))) hO82 (ObLn.get (ObLn.cons ?_ (ObLn.cons ?_ (ObLn.cons ?_ (ObLn.cons ?_ (ObLn.cons ?_ (ObLn.cons ?_ (ObLn.cons ?_ (ObLn.cons ?_ (ObLn.cons ?_ (ObLn.cons ?_ (ObLn.cons ?_ (ObLn.cons ?_ (ObLn.cons ?_ (ObLn.cons ?_ (ObLn.cons ?_ (ObLn.cons ?_ (ObLn.cons ?_ (ObLn.cons ?_ (ObLn.pass rfl (ObLn.cons ?_ (ObLn.nil)))))))))))))))))))))) (ObLc.get (ObLc.cons ?_ (ObLc.nil))) ?_
          · -- operation 0, slot 28
            intro a86 w86 cc86 cv86 hN86 hcl86 hR86 hlt86 hvo86 hbs86 hdp86
            have hR86 : w81.grownBy w86 u.ownBlock := hR86
            have hO82_o := hO82
            have q86_6 : a86.tmps.getD 6 undef = u := (hbs86 6 (by kernel_rfl)).trans (sl_base hN81 rfl s81_6)
            clear hbs86 hdp86
            refine op_move (ev_base hN86 rfl q86_6) ?_
            exact obNc_end rfl rfl ((grown_refl _ _))
          · -- operation 1, slot 29
            intro a87 w87 cc87 cv87 hN87 hcl87 hR87 hlt87 hvo87 hbs87 hdp87
            have hR87 : w81.grownBy w87 u.ownBlock := hR87
            have hO82_o := hO82
            have q87_0 : a87.tmps.getD 0 undef = v := (hbs87 0 rfl).trans (sl_base hN81 rfl s81_0)
            clear hbs87 hdp87
            refine op_move (ev_base hN87 rfl q87_0) ?_
            exact obNc_end rfl rfl ((grown_refl _ _))
          · -- operation 2, slot 30
            intro a88 w88 cc88 cv88 hN88 hcl88 hR88 hlt88 hvo88 hbs88 hdp88
            have hR88 : w81.grownBy w88 u.ownBlock := hR88
            have hO82_o := hO82
            have q88_7 : a88.tmps.getD 7 undef = (Value.int .i64 ((i : Nat) : Int)) := (hbs88 7 rfl).trans (sl_base hN81 rfl s81_7)
            clear hbs88 hdp88
            refine op_move (ev_base hN88 rfl q88_7) ?_
            exact obNc_end rfl rfl ((grown_refl _ _))
          · -- operation 3, slot 31
            intro a89 w89 cc89 cv89 hN89 hcl89 hR89 hlt89 hvo89 hbs89 hdp89
            have hR89 : w81.grownBy w89 u.ownBlock := hR89
            have hO82_o := hO82
            have q89_30 : a89.tmps.getD 30 undef = (Value.int .i64 ((i : Nat) : Int)) := hdp89 2 _ 30 (by kernel_rfl) rfl rfl
            clear hbs89 hdp89
            refine op_mul rfl (ev_base hN89 rfl q89_30) (mul64 (by omega)) ?_
            exact obNc_end rfl rfl ((grown_refl _ _))
          · -- operation 4, slot 32
            intro a90 w90 cc90 cv90 hN90 hcl90 hR90 hlt90 hvo90 hbs90 hdp90
            have hR90 : w81.grownBy w90 u.ownBlock := hR90
            have hO82_o := hO82
            have q90_31 : a90.tmps.getD 31 undef = (Value.int .i64 (2 * ((i : Nat) : Int))) := hdp90 3 _ 31 (by kernel_rfl) rfl rfl
            clear hbs90 hdp90
            refine op_add rfl (ev_base hN90 rfl q90_31) (add64 (by omega)) ?_
            exact obNc_end rfl rfl ((grown_refl _ _))
          · -- operation 5, slot 33
            intro a91 w91 cc91 cv91 hN91 hcl91 hR91 hlt91 hvo91 hbs91 hdp91
            have hR91 : w81.grownBy w91 u.ownBlock := hR91
            have hO82_o := hO82
            have z_w91 := hR91.size
            have hb := below_stepO hb hO82 hR91 hb.size (by omega)
            have hv := hv.keepO hO82 hR91 (by omega)
            have q91_29 : a91.tmps.getD 29 undef = v := hdp91 1 _ 29 (by kernel_rfl) rfl rfl
            have q91_32 : a91.tmps.getD 32 undef = (Value.int .i64 (1 + (2 * ((i : Nat) : Int)))) := hdp91 4 _ 32 (by kernel_rfl) rfl rfl
            clear hbs91 hdp91
            refine op_index_rd slt22 (ev_base hN91 rfl q91_29) hv (ev_base hN91 rfl q91_32) (by omega) (by omega) ?_
            intro b92 o93 h0b92 h1b92 hc94
            have hp95 : PtC w91 0 w.heap.size b92 o93 [(Value.int .u8 ((bl.getD (1 + (2 * i)) 0).toNat : Int))] := ⟨h0b92, h1b92, fun j u hu => hc94 j u (by have := (List.getElem?_eq_some_iff.1 hu).1; simpa using this) ((fun j u hu => one_at (el_u8 (i := (1 + (2 * i))) (by omega) (by omega)) hu) j u hu)⟩
            exact obNc_end rfl ⟨b92, o93, rfl, hp95, ⟨by omega, ge_of hvo91 (fun k hk => by have := (hO82_o.lt k hk).1; omega) (by omega)⟩⟩ ((grown_refl _ _))
          · -- operation 6, slot 34
            intro a96 w96 cc96 cv96 hN96 hcl96 hR96 hlt96 hvo96 hbs96 hdp96
            have hR96 : w81.grownBy w96 u.ownBlock := hR96
            have hO82_o := hO82
            have z_w96 := hR96.size
            have hb := below_stepO hb hO82 hR96 hb.size (by omega)
            have hv := hv.keepO hO82 hR96 (by omega)
            obtain ⟨b86, o87, q96_33, hp89, xq96_33_0⟩ := hdp96 5 _ 33 (by kernel_rfl) rfl rfl
            have hp89 : PtC w96 0 w.heap.size b86 o87 [(Value.int .u8 ((bl.getD (1 + (2 * i)) 0).toNat : Int))] := hp89
            clear hbs96 hdp96
            refine op_load1 (v := (Value.int .u8 ((bl.getD (1 + (2 * i)) 0).toNat : Int))) one5 (ev_base hN96 rfl q96_33) (hp89.2.2 0 _ rfl) ?_
            exact obNc_end rfl rfl ((grown_refl _ _))
          · -- operation 7, slot 35
            intro a97 w97 cc97 cv97 hN97 hcl97 hR97 hlt97 hvo97 hbs97 hdp97
            have hR97 : w81.grownBy w97 u.ownBlock := hR97
            have hO82_o := hO82
            have z_w97 := hR97.size
            have hb := below_stepO hb hO82 hR97 hb.size (by omega)
            have hv := hv.keepO hO82 hR97 (by omega)
            have q97_34 : a97.tmps.getD 34 undef = (Value.int .u8 ((bl.getD (1 + (2 * i)) 0).toNat : Int)) := hdp97 6 _ 34 (by kernel_rfl) rfl rfl
            clear hbs97 hdp97
            refine op_conv (r := ((bl.getD (1 + (2 * i)) 0).toNat : Int)) (ev_base hN97 rfl q97_34) us5 Try.underlying46 (wrap_u16 (by have := ((bl.getD (1 + (2 * i)) 0)).toNat_lt; omega)) ?_
            exact obNc_end rfl rfl ((grown_refl _ _))
          · -- operation 8, slot 36
            intro a98 w98 cc98 cv98 hN98 hcl98 hR98 hlt98 hvo98 hbs98 hdp98
            have hR98 : w81.grownBy w98 u.ownBlock := hR98
            have hO82_o := hO82
            have q98_35 : a98.tmps.getD 35 undef = (Value.int .u16 ((bl.getD (1 + (2 * i)) 0).toNat : Int)) := hdp98 7 _ 35 (by kernel_rfl) rfl rfl
            clear hbs98 hdp98
            refine op_mul (r := (((bl.getD (1 + 2 * i) 0).toNat * 256 : Nat) : Int)) (ev_base hN98 rfl q98_35) rfl mul16 ?_
            exact obNc_end rfl rfl ((grown_refl _ _))
          · -- operation 9, slot 37
            intro a99 w99 cc99 cv99 hN99 hcl99 hR99 hlt99 hvo99 hbs99 hdp99
            have hR99 : w81.grownBy w99 u.ownBlock := hR99
            have hO82_o := hO82
            have q99_0 : a99.tmps.getD 0 undef = v := (hbs99 0 rfl).trans (sl_base hN81 rfl s81_0)
            clear hbs99 hdp99
            refine op_move (ev_base hN99 rfl q99_0) ?_
            exact obNc_end rfl rfl ((grown_refl _ _))
          · -- operation 10, slot 38
            intro a100 w100 cc100 cv100 hN100 hcl100 hR100 hlt100 hvo100 hbs100 hdp100
            have hR100 : w81.grownBy w100 u.ownBlock := hR100
            have hO82_o := hO82
            have q100_7 : a100.tmps.getD 7 undef = (Value.int .i64 ((i : Nat) : Int)) := (hbs100 7 rfl).trans (sl_base hN81 rfl s81_7)
            clear hbs100 hdp100
            refine op_move (ev_base hN100 rfl q100_7) ?_
            exact obNc_end rfl rfl ((grown_refl _ _))
          · -- operation 11, slot 39
            intro a101 w101 cc101 cv101 hN101 hcl101 hR101 hlt101 hvo101 hbs101 hdp101
            have hR101 : w81.grownBy w101 u.ownBlock := hR101
            have hO82_o := hO82
            have q101_38 : a101.tmps.getD 38 undef = (Value.int .i64 ((i : Nat) : Int)) := hdp101 10 _ 38 (by kernel_rfl) rfl rfl
            clear hbs101 hdp101
            refine op_mul rfl (ev_base hN101 rfl q101_38) (mul64 (by omega)) ?_
            exact obNc_end rfl rfl ((grown_refl _ _))
          · -- operation 12, slot 40
            intro a102 w102 cc102 cv102 hN102 hcl102 hR102 hlt102 hvo102 hbs102 hdp102
            have hR102 : w81.grownBy w102 u.ownBlock := hR102
            have hO82_o := hO82
            have q102_39 : a102.tmps.getD 39 undef = (Value.int .i64 (2 * ((i : Nat) : Int))) := hdp102 11 _ 39 (by kernel_rfl) rfl rfl
            clear hbs102 hdp102
            refine op_add rfl (ev_base hN102 rfl q102_39) (add64 (by omega)) ?_
            exact obNc_end rfl rfl ((grown_refl _ _))
          · -- operation 13, slot 41
            intro a103 w103 cc103 cv103 hN103 hcl103 hR103 hlt103 hvo103 hbs103 hdp103
            have hR103 : w81.grownBy w103 u.ownBlock := hR103
            have hO82_o := hO82
            have z_w103 := hR103.size
            have hb := below_stepO hb hO82 hR103 hb.size (by omega)
            have hv := hv.keepO hO82 hR103 (by omega)
            have q103_37 : a103.tmps.getD 37 undef = v := hdp103 9 _ 37 (by kernel_rfl) rfl rfl
            have q103_40 : a103.tmps.getD 40 undef = (Value.int .i64 (2 + (2 * ((i : Nat) : Int)))) := hdp103 12 _ 40 (by kernel_rfl) rfl rfl
            clear hbs103 hdp103
            refine op_index_rd slt22 (ev_base hN103 rfl q103_37) hv (ev_base hN103 rfl q103_40) (by omega) (by omega) ?_
            intro b104 o105 h0b104 h1b104 hc106
            have hp107 : PtC w103 0 w.heap.size b104 o105 [(Value.int .u8 ((bl.getD (2 + (2 * i)) 0).toNat : Int))] := ⟨h0b104, h1b104, fun j u hu => hc106 j u (by have := (List.getElem?_eq_some_iff.1 hu).1; simpa using this) ((fun j u hu => one_at (el_u8 (i := (2 + (2 * i))) (by omega) (by omega)) hu) j u hu)⟩
            exact obNc_end rfl ⟨b104, o105, rfl, hp107, ⟨by omega, ge_of hvo103 (fun k hk => by have := (hO82_o.lt k hk).1; omega) (by omega)⟩⟩ ((grown_refl _ _))
          · -- operation 14, slot 42
            intro a108 w108 cc108 cv108 hN108 hcl108 hR108 hlt108 hvo108 hbs108 hdp108
            have hR108 : w81.grownBy w108 u.ownBlock := hR108
            have hO82_o := hO82
            have z_w108 := hR108.size
            have hb := below_stepO hb hO82 hR108 hb.size (by omega)
            have hv := hv.keepO hO82 hR108 (by omega)
            obtain ⟨b90, o91, q108_41, hp93, xq108_41_0⟩ := hdp108 13 _ 41 (by kernel_rfl) rfl rfl
            have hp93 : PtC w108 0 w.heap.size b90 o91 [(Value.int .u8 ((bl.getD (2 + (2 * i)) 0).toNat : Int))] := hp93
            clear hbs108 hdp108
            refine op_load1 (v := (Value.int .u8 ((bl.getD (2 + (2 * i)) 0).toNat : Int))) one5 (ev_base hN108 rfl q108_41) (hp93.2.2 0 _ rfl) ?_
            exact obNc_end rfl rfl ((grown_refl _ _))
          · -- operation 15, slot 43
            intro a109 w109 cc109 cv109 hN109 hcl109 hR109 hlt109 hvo109 hbs109 hdp109
            have hR109 : w81.grownBy w109 u.ownBlock := hR109
            have hO82_o := hO82
            have z_w109 := hR109.size
            have hb := below_stepO hb hO82 hR109 hb.size (by omega)
            have hv := hv.keepO hO82 hR109 (by omega)
            have q109_42 : a109.tmps.getD 42 undef = (Value.int .u8 ((bl.getD (2 + (2 * i)) 0).toNat : Int)) := hdp109 14 _ 42 (by kernel_rfl) rfl rfl
            clear hbs109 hdp109
            refine op_conv (r := ((bl.getD (2 + (2 * i)) 0).toNat : Int)) (ev_base hN109 rfl q109_42) us5 Try.underlying46 (wrap_u16 (by have := ((bl.getD (2 + (2 * i)) 0)).toNat_lt; omega)) ?_
            exact obNc_end rfl rfl ((grown_refl _ _))
          · -- operation 16, slot 44
            intro a110 w110 cc110 cv110 hN110 hcl110 hR110 hlt110 hvo110 hbs110 hdp110
            have hR110 : w81.grownBy w110 u.ownBlock := hR110
            have hO82_o := hO82
            have q110_36 : a110.tmps.getD 36 undef = (Value.int .u16 (((bl.getD (1 + 2 * i) 0).toNat * 256 : Nat) : Int)) := hdp110 8 _ 36 (by kernel_rfl) rfl rfl
            have q110_43 : a110.tmps.getD 43 undef = (Value.int .u16 ((bl.getD (2 + (2 * i)) 0).toNat : Int)) := hdp110 15 _ 43 (by kernel_rfl) rfl rfl
            clear hbs110 hdp110
            refine op_add (r := ((UInt16.ofNat ((bl.getD (1 + 2 * i) 0).toNat * 256 + (bl.getD (2 + 2 * i) 0).toNat)).toNat : Int)) (ev_base hN110 rfl q110_36) (ev_base hN110 rfl q110_43) add16 ?_
            exact obNc_end rfl rfl ((grown_refl _ _))
          · -- operation 17, slot 45
            intro a111 w111 cc111 cv111 hN111 hcl111 hR111 hlt111 hvo111 hbs111 hdp111
            have hR111 : w81.grownBy w111 u.ownBlock := hR111
            have hO82_o := hO82
            have z_w111 := hR111.size
            have hb := below_stepO hb hO82 hR111 hb.size (by omega)
            have hv := hv.keepO hO82 hR111 (by omega)
            have q111_44 : a111.tmps.getD 44 undef = (Value.int .u16 ((UInt16.ofNat ((bl.getD (1 + 2 * i) 0).toNat * 256 + (bl.getD (2 + 2 * i) 0).toNat)).toNat : Int)) := hdp111 16 _ 44 (by kernel_rfl) rfl rfl
            clear hbs111 hdp111
            refine op_bslice (e := 46) (pv := [(0, (Value.int .u16 ((UInt16.ofNat ((bl.getD (1 + 2 * i) 0).toNat * 256 + (bl.getD (2 + 2 * i) 0).toNat)).toNat : Int)))]) (cs := [(Value.int .u16 ((UInt16.ofNat ((bl.getD (1 + 2 * i) 0).toNat * 256 + (bl.getD (2 + 2 * i) 0).toNat)).toNat : Int))]) ⟨rfl, (ev_base hN111 rfl q111_44), trivial⟩ (by kernel_rfl) ?_
            intro w112 b113 lo_b113 hi_b113 hB115 E114
            have z_w112 := E114.size
            have hv := hv.keep0 E114
            have hb := below_step0 hb E114 hb.size
            exact obNc_end rfl ⟨b113, rfl, (by omega), hB115, (fun hh => by have := hlt111 _ hh; omega)⟩ (E114)
          · -- operation 19, slot 6
            intro a116 w116 cc116 cv116 hN116 hcl116 hR116 hlt116 hvo116 hbs116 hdp116
            have hR116 : w81.grownBy w116 u.ownBlock := hR116
            have hO82_o := hO82
            have hch116 : chP 0 cc116 cv116 (a116.tmps.getD 46 undef) w116 := hdp116 18 _ 46 (by kernel_rfl) rfl rfl
            have hcc116 : cc116 = 1 := Nat.le_antisymm hcl116 hch116.1
            have q116_46 := hch116.2 hcc116
            clear hbs116 hdp116
            refine op_assign (ev_base hN116 rfl q116_46) ?_
            exact obNc_end rfl ⟨by omega, fun _ => rfl⟩ ((grown_refl _ _))
          · -- operation 18, slot 46
            intro o_ ho_; obtain rfl := Option.some.inj ho_; intro a117 w117 cv117 hN117 hR117 hcv0117 hbs117 hdp117 hC117
            have hR117 : w81.grownBy w117 u.ownBlock := hR117
            have hO82_o := hO82
            have z_w117 := hR117.size
            have hb := below_stepO hb hO82 hR117 hb.size (by omega)
            have hv := hv.keepO hO82 hR117 (by omega)
            have hcv117 : u = cv117 := (hcv0117 rfl).symm
            subst hcv117
            have hC117 : Own w117 w.heap.size 46 1 u i ((tagsL i bl).map u16v) := hC117
            have q117_28 : a117.tmps.getD 28 undef = u := hdp117 0 _ 28 (by kernel_rfl) rfl rfl
            obtain ⟨b95, q117_45, lo117_0, hB97, xq117_45_0⟩ := hdp117 17 _ 45 (by kernel_rfl) rfl rfl
            have hB97 : Bx w117 b95 46 [(Value.int .u16 ((UInt16.ofNat ((bl.getD (1 + 2 * i) 0).toNat * 256 + (bl.getD (2 + 2 * i) 0).toNat)).toNat : Int))] := hB97
            clear hbs117 hdp117
            have hP123 := hC117
            refine op_append slt75 (ev_base hN117 rfl q117_28) hP123 (ev_base hN117 rfl q117_45) (Src.ofRd Try.underlying75 (by decide) (RdC.ofBx (sz := 1) (n := 1) hB97 rfl (by decide)) (by simp [Value.oneCell', u8v])) (by unfold maxLen; omega) (by omega) hb.size ?_
            intro v118 w119 hO121 E120 hm122
            have z_w119 := E120.size
            have hv := hv.keepO hP123 E120 (by omega)
            have hB97 := hB97.keep E120 (fun hh => xq117_45_0 hh.symm)
            have hb := below_stepO hb hP123 E120 hb.size (by omega)
            have hO121 : Own w119 w.heap.size 46 1 v118 (i + 1) ((((tagsL i bl) ++ [(UInt16.ofNat ((bl.getD (1 + 2 * i) 0).toNat * 256 + (bl.getD (2 + 2 * i) 0).toNat))])).map u16v) := by simpa [u8v, u16v, cellsV] using hO121
            exact obCc_end rfl rfl (chP_now (w := w119)) hO121 ⟨E120, hm122⟩
          · -- behind the region
            intro a124 w124 v98 hN124 hd124 hbs124 hph124 hC124 E124 hm124
            have hd124 := hd124.trans hd81
            have s124_0 : a124.tmps.getD 0 undef = v := (hbs124 0 rfl).trans (sl_base hN81 rfl s81_0)
            have s124_2 : a124.tmps.getD 2 undef = (Value.slice none 0 0) := (hbs124 2 rfl).trans (sl_base hN81 rfl s81_2)
            have s124_3 : a124.tmps.getD 3 undef = (Value.int .i64 0) := (hbs124 3 rfl).trans (sl_base hN81 rfl s81_3)
            have s124_4 : a124.tmps.getD 4 undef = (Value.int .i64 0) := (hbs124 4 rfl).trans (sl_base hN81 rfl s81_4)
            have s124_5 : a124.tmps.getD 5 undef = (Value.int .i64 ((bl.getD 0 0).toNat : Int)) := (hbs124 5 rfl).trans (sl_base hN81 rfl s81_5)
            have s124_6 : a124.tmps.getD 6 undef = v98 := (show chP 0 1 v98 (a124.tmps.getD 6 undef) w124 from hph124 19 _ 6 rfl rfl).2 rfl
            have s124_7 : a124.tmps.getD 7 undef = (Value.int .i64 ((i : Nat) : Int)) := (hbs124 7 rfl).trans (sl_base hN81 rfl s81_7)
            have s124_8 : a124.tmps.getD 8 undef = v := (hbs124 8 rfl).trans (sl_base hN81 rfl s81_8)
            have s124_9 : a124.tmps.getD 9 undef = (Value.int .i64 ((bl.length : Nat) : Int)) := (hbs124 9 rfl).trans (sl_base hN81 rfl s81_9)
            have s124_10 : a124.tmps.getD 10 undef = (Value.bool false) := (hbs124 10 rfl).trans (sl_base hN81 rfl s81_10)
            have s124_11 : a124.tmps.getD 11 undef = v := (hbs124 11 rfl).trans (sl_base hN81 rfl s81_11)
            have s124_12 : a124.tmps.getD 12 undef = (ptr b69 o70) := (hbs124 12 rfl).trans (sl_base hN81 rfl s81_12)
            have s124_13 : a124.tmps.getD 13 undef = (Value.int .u8 ((bl.getD 0 0).toNat : Int)) := (hbs124 13 rfl).trans (sl_base hN81 rfl s81_13)
            have s124_14 : a124.tmps.getD 14 undef = (Value.int .i64 ((bl.getD 0 0).toNat : Int)) := (hbs124 14 rfl).trans (sl_base hN81 rfl s81_14)
            have s124_15 : a124.tmps.getD 15 undef = (Value.int .i64 ((bl.getD 0 0).toNat : Int)) := (hbs124 15 rfl).trans (sl_base hN81 rfl s81_15)
            have s124_16 : a124.tmps.getD 16 undef = (Value.bool false) := (hbs124 16 rfl).trans (sl_base hN81 rfl s81_16)
            have s124_17 : a124.tmps.getD 17 undef = v := (hbs124 17 rfl).trans (sl_base hN81 rfl s81_17)
            have s124_18 : a124.tmps.getD 18 undef = (Value.int .i64 ((bl.length : Nat) : Int)) := (hbs124 18 rfl).trans (sl_base hN81 rfl s81_18)
            have s124_19 : a124.tmps.getD 19 undef = (Value.int .i64 ((bl.getD 0 0).toNat : Int)) := (hbs124 19 rfl).trans (sl_base hN81 rfl s81_19)
            have s124_20 : a124.tmps.getD 20 undef = (Value.int .i64 (2 * ((bl.getD 0 0).toNat : Int))) := (hbs124 20 rfl).trans (sl_base hN81 rfl s81_20)
            have s124_21 : a124.tmps.getD 21 undef = (Value.int .i64 (1 + (2 * ((bl.getD 0 0).toNat : Int)))) := (hbs124 21 rfl).trans (sl_base hN81 rfl s81_21)
            have s124_22 : a124.tmps.getD 22 undef = (Value.bool false) := (hbs124 22 rfl).trans (sl_base hN81 rfl s81_22)
            have s124_23 : a124.tmps.getD 23 undef = (Value.int .i64 ((i : Nat) : Int)) := (hbs124 23 rfl).trans (sl_hit hN81 rfl)
            have s124_24 : a124.tmps.getD 24 undef = (Value.int .i64 ((bl.getD 0 0).toNat : Int)) := (hbs124 24 rfl).trans (sl_hit hN81 rfl)
            have s124_25 : a124.tmps.getD 25 undef = (Value.bool true) := (hbs124 25 rfl).trans (sl_hit hN81 rfl)
            have s124_28 : a124.tmps.getD 28 undef = u := hph124 0 _ 28 rfl rfl
            have s124_29 : a124.tmps.getD 29 undef = v := hph124 1 _ 29 rfl rfl
            have s124_30 : a124.tmps.getD 30 undef = (Value.int .i64 ((i : Nat) : Int)) := hph124 2 _ 30 rfl rfl
            have s124_31 : a124.tmps.getD 31 undef = (Value.int .i64 (2 * ((i : Nat) : Int))) := hph124 3 _ 31 rfl rfl
            have s124_32 : a124.tmps.getD 32 undef = (Value.int .i64 (1 + (2 * ((i : Nat) : Int)))) := hph124 4 _ 32 rfl rfl
            obtain ⟨b86, o87, s124_33, hp89, xq124_33_0⟩ := hph124 5 _ 33 rfl rfl
            have hp89 : PtC w124 0 w.heap.size b86 o87 [(Value.int .u8 ((bl.getD (1 + (2 * i)) 0).toNat : Int))] := hp89
            have s124_34 : a124.tmps.getD 34 undef = (Value.int .u8 ((bl.getD (1 + (2 * i)) 0).toNat : Int)) := hph124 6 _ 34 rfl rfl
            have s124_35 : a124.tmps.getD 35 undef = (Value.int .u16 ((bl.getD (1 + (2 * i)) 0).toNat : Int)) := hph124 7 _ 35 rfl rfl
            have s124_36 : a124.tmps.getD 36 undef = (Value.int .u16 (((bl.getD (1 + 2 * i) 0).toNat * 256 : Nat) : Int)) := hph124 8 _ 36 rfl rfl
            have s124_37 : a124.tmps.getD 37 undef = v := hph124 9 _ 37 rfl rfl
            have s124_38 : a124.tmps.getD 38 undef = (Value.int .i64 ((i : Nat) : Int)) := hph124 10 _ 38 rfl rfl
            have s124_39 : a124.tmps.getD 39 undef = (Value.int .i64 (2 * ((i : Nat) : Int))) := hph124 11 _ 39 rfl rfl
            have s124_40 : a124.tmps.getD 40 undef = (Value.int .i64 (2 + (2 * ((i : Nat) : Int)))) := hph124 12 _ 40 rfl rfl
            obtain ⟨b90, o91, s124_41, hp93, xq124_41_0⟩ := hph124 13 _ 41 rfl rfl
            have hp93 : PtC w124 0 w.heap.size b90 o91 [(Value.int .u8 ((bl.getD (2 + (2 * i)) 0).toNat : Int))] := hp93
            have s124_42 : a124.tmps.getD 42 undef = (Value.int .u8 ((bl.getD (2 + (2 * i)) 0).toNat : Int)) := hph124 14 _ 42 rfl rfl
            have s124_43 : a124.tmps.getD 43 undef = (Value.int .u16 ((bl.getD (2 + (2 * i)) 0).toNat : Int)) := hph124 15 _ 43 rfl rfl
            have s124_44 : a124.tmps.getD 44 undef = (Value.int .u16 ((UInt16.ofNat ((bl.getD (1 + 2 * i) 0).toNat * 256 + (bl.getD (2 + 2 * i) 0).toNat)).toNat : Int)) := hph124 16 _ 44 rfl rfl
            obtain ⟨b95, s124_45, l124_0, hB97, xq124_45_0⟩ := hph124 17 _ 45 rfl rfl
            have hB97 : Bx w124 b95 46 [(Value.int .u16 ((UInt16.ofNat ((bl.getD (1 + 2 * i) 0).toNat * 256 + (bl.getD (2 + 2 * i) 0).toNat)).toNat : Int))] := hB97
            have s124_46 : a124.tmps.getD 46 undef = v98 := (show chP 0 1 v98 (a124.tmps.getD 46 undef) w124 from hph124 18 _ 46 rfl rfl).2 rfl
            clear hbs124 hph124
            have E124 : w81.grownBy w124 u.ownBlock := E124
            have hC124 : Own w124 w.heap.size 46 1 v98 (i + 1) ((((tagsL i bl) ++ [(UInt16.ofNat ((bl.getD (1 + 2 * i) 0).toNat * 256 + (bl.getD (2 + 2 * i) 0).toNat))])).map u16v) := hC124
            have z_w124 := E124.size
            have hv := hv.keepO hO82 E124 (by omega)
            have hb := below_stepO hb hO82 E124 hb.size (by omega)
            refine hK85 _ _ ?_
            refine one_reg ?_
            refine op_move (ev_base hN124 rfl s124_7) ?_
            refine op_add (ev_hit hN124 rfl) rfl (add64 (by omega)) ?_
            refine op_assign (ev_hit hN124 rfl) ?_
            refine reg_nil ?_
            -- round 10F 16F 22F 25T
            exact loop_next _ hN124 hd124 ⟨i + 1, _, rfl, (sl_base hN124 rfl s124_0), (sl_base hN124 rfl s124_2), (sl_base hN124 rfl s124_3), (sl_base hN124 rfl s124_4), (sl_base hN124 rfl s124_5), (sl_base hN124 rfl s124_8), (sl_base hN124 rfl s124_9), (sl_base hN124 rfl s124_10), (sl_base hN124 rfl s124_11), (sl_base hN124 rfl s124_12), (sl_base hN124 rfl s124_13), (sl_base hN124 rfl s124_14), (sl_base hN124 rfl s124_15), (sl_base hN124 rfl s124_16), (sl_base hN124 rfl s124_17), (sl_base hN124 rfl s124_18), (sl_base hN124 rfl s124_19), (sl_base hN124 rfl s124_20), (sl_base hN124 rfl s124_21), (sl_base hN124 rfl s124_22), (sl_hit hN124 rfl).trans (congrArg (Value.int .i64) (by omega)), (sl_base hN124 rfl s124_6), (by omega), hb, hv, (hC124.cast (by first | omega | (simp; try omega)) (by first | (rw [tags_step]; done) | (rw [tags_step]; simp [u16v])))⟩ (by omega)
        · -- 25 False
          refine reg_nil ?_
          refine hK84 _ _ ?_
          refine wp_cond_false (ev_hit hN81 rfl) ?_
          refine wp_exit (then_exit (then_exit (blk_hit ?_)))
          refine hK79 _ _ ?_
          refine seq_any fun K125 hK125 => ?_
          refine seq_any fun K126 hK126 => ?_
          refine one_reg ?_
          refine op_move (ev_base hN81 rfl s81_6) ?_
          have htl := tags_len i bl
          refine op_fn (vs := [u]) ok54 ⟨(ev_hit hN81 rfl), trivial⟩ (refMay_ret (tagsL i bl) _ _ (by first | assumption | omega | (simp only [List.length_append, List.length_cons, List.length_nil, List.length_drop, List.length_take]; omega) | (dsimp only; omega) | decide | (simp [keyV, be8_len]; done)) (show RdC w81 0 w81.heap.size 1 u (tagsL i bl).length ((tagsL i bl).map u16v) from by have hh : RdC w81 0 w81.heap.size 1 _ _ _ := (hO82.rdw.mono (L' := 0) (B' := w81.heap.size) (Nat.zero_le _) (by omega)); first | exact hh | exact hh.cast (by first | omega | (simp; try omega)) (by first | rfl | simp [u16v]))) ?_
          rintro _ w127 ⟨E128, rfl⟩
          have E128 := grown_of_below E128
          have z_w127 := E128.size
          have hv := hv.keep0 E128
          have hO82 := hO82.keep0 E128
          have hb := below_step0 hb E128 hb.size
          rcases Bool.eq_false_or_eq_true ((mayL (tagsL i bl))) with c48 | c48
          · -- 48 True
            rw [c48]
            refine op_not (ev_hit hN81 rfl) ?_
            refine reg_nil ?_
            refine hK126 _ _ ?_
            refine wp_cond_false (ev_hit hN81 rfl) ?_
            refine wp_skip ?_
            refine hK125 _ _ ?_
            refine seq_any fun K129 hK129 => ?_
            refine one_reg ?_
            refine op_move (ev_base hN81 rfl s81_6) ?_
            refine op_move (ev_base hN81 rfl s81_5) ?_
            refine op_mul rfl (ev_hit hN81 rfl) (mul64 (by omega)) ?_
            refine op_add rfl (ev_hit hN81 rfl) (add64 (by omega)) ?_
            refine op_assign (ev_hit hN81 rfl) ?_
            refine op_assign (ev_hit hN81 rfl) ?_
            refine op_assign rfl ?_
            refine reg_nil ?_
            refine hK129 _ _ ?_
            refine wp_ret ?_
            refine retN (rs := [.tmp 2, .tmp 3, .tmp 4]) (vs := [u, (Value.int .i64 (1 + (2 * ((bl.getD 0 0).toNat : Int)))), (Value.int .i64 0)]) rfl hd81 ⟨(ev_hit hN81 rfl), ⟨(ev_hit hN81 rfl), ⟨(ev_hit hN81 rfl), trivial⟩⟩⟩ rfl ⟨_, rfl, ?_⟩
            -- path 10F 16F 22F 25F 48T
            have hi2 : i = (bl.getD 0 0).toNat := by omega
            subst hi2
            have e : takeL bl = (tagsL (bl.getD 0 0).toNat bl, ((1 + 2 * (bl.getD 0 0).toNat : Nat) : Int), 0) := by rw [takeL, if_neg (by omega), if_neg (by omega), if_neg (by omega), if_pos (mayL_rise c48)]
            exact ⟨hb, _, by rw [e]; exact congrArg (fun q : Int => Value.tuple #[_, .int .i64 q, _]) (show (1 + 2 * ((bl.getD 0 0).toNat : Int)) = ((1 + 2 * (bl.getD 0 0).toNat : Nat) : Int) by omega), by rw [e]; exact hO82.cast (tags_len _ _).symm rfl⟩
          · -- 48 False
            rw [c48]
            refine op_not (ev_hit hN81 rfl) ?_
            refine reg_nil ?_
            refine hK126 _ _ ?_
            refine wp_cond_true (ev_hit hN81 rfl) ?_
            refine seq_any fun K130 hK130 => ?_
            refine one_reg ?_
            refine op_assign rfl ?_
            refine op_assign rfl ?_
            refine op_assign rfl ?_
            refine reg_nil ?_
            refine hK130 _ _ ?_
            refine wp_ret (then_ret ( ?_))
            refine retN (rs := [.tmp 2, .tmp 3, .tmp 4]) (vs := [(Value.slice none 0 0), (Value.int .i64 0), (Value.int .i64 3)]) rfl hd81 ⟨(ev_hit hN81 rfl), ⟨(ev_hit hN81 rfl), ⟨(ev_hit hN81 rfl), trivial⟩⟩⟩ rfl ⟨_, rfl, ?_⟩
            -- path 10F 16F 22F 25F 48F
            have hi2 : i = (bl.getD 0 0).toNat := by omega
            subst hi2
            have e : takeL bl = ([], 0, 3) := by rw [takeL, if_neg (by omega), if_neg (by omega), if_neg (by omega), if_neg (fun hh => by rw [mayL, decide_eq_true hh, Bool.true_and, tags_len] at c48; exact absurd (of_decide_eq_false c48) (by omega))]
            exact ⟨hb, _, by rw [e]; rfl, by rw [e]; exact Own.nil _ _ _ _⟩

end Go.Proofs.Ytkkongnmcfdioaa
