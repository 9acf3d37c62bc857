/- Walks, written by a program: what each function of the translation hands back. -/
import Derived.Test.YtkkongnmcfdioaaI1
namespace Go.Proofs.Ytkkongnmcfdioaa
open Go.Gx Go.RowKit
attribute [local irreducible] wpList Code.wp Calls

theorem cmpL_ret (l m : Lb) (v u : Value) (w : World) (hl : l.length ≤ 9223372036854775807) (hm : m.length ≤ 9223372036854775807) (h : RdC w 0 w.heap.size 1 v l.length (l.map u16v)) (h2 : RdC w 0 w.heap.size 1 u m.length (m.map u16v)) : Ret Try.prog 61 #[v, u] w (fun v' w' => Below w.heap.size w w' ∧ v' = .int .i64 (cmpL l m)) := by
  have hb := Below.refl w.heap.size w
  refine enter (N := 40) Try.func61 rfl rfl (by simp) fun a0 hN hd hA => ?_
  have s0 : a0.tmps.getD 0 undef = v := hA 0 (by simp)
  have s1 : a0.tmps.getD 1 undef = u := hA 1 (by simp)
  clear hA
  refine seq_any fun K59 hK59 => ?_
  refine one_reg ?_
  refine op_assign rfl ?_
  refine reg_nil ?_
  refine hK59 _ _ ?_
  refine seq_any fun K60 hK60 => ?_
  refine seq_any fun K61 hK61 => ?_
  refine one_reg ?_
  refine op_move (ev_base hN rfl s0) ?_
  refine op_len_rd Try.underlying75 (ev_hit hN rfl) h ?_
  refine op_move (ev_base hN rfl s1) ?_
  refine op_len_rd Try.underlying75 (ev_hit hN rfl) h2 ?_
  refine op_neq (ev_hit hN rfl) (ev_hit hN rfl) (fun c10 => ?_) (fun c10 => ?_)
  · -- 10 True
    refine reg_nil ?_
    refine hK61 _ _ ?_
    refine wp_cond_true (ev_hit hN rfl) ?_
    refine seq_any fun K62 hK62 => ?_
    refine seq_any fun K63 hK63 => ?_
    refine one_reg ?_
    refine op_move (ev_base hN rfl s0) ?_
    refine op_len_rd Try.underlying75 (ev_hit hN rfl) h ?_
    refine op_move (ev_base hN rfl s1) ?_
    refine op_len_rd Try.underlying75 (ev_hit hN rfl) h2 ?_
    refine op_lss (ev_hit hN rfl) (ev_hit hN rfl) (fun c15 => ?_) (fun c15 => ?_)
    · -- 15 True
      refine reg_nil ?_
      refine hK63 _ _ ?_
      refine wp_cond_true (ev_hit hN rfl) ?_
      refine seq_any fun K64 hK64 => ?_
      refine one_reg ?_
      refine op_assign rfl ?_
      refine reg_nil ?_
      refine hK64 _ _ ?_
      refine wp_ret (then_ret (then_ret ( ?_)))
      refine ret1 rfl hd (ev_hit hN rfl) ⟨_, rfl, ?_⟩
      -- path 10T 15T
      exact ⟨hb, congrArg (Value.int .i64) (by rw [cmpL, if_pos (by omega)])⟩
    · -- 15 False
      refine reg_nil ?_
      refine hK63 _ _ ?_
      refine wp_cond_false (ev_hit hN rfl) ?_
      refine wp_skip ?_
      refine hK62 _ _ ?_
      refine seq_any fun K65 hK65 => ?_
      refine one_reg ?_
      refine op_assign rfl ?_
      refine reg_nil ?_
      refine hK65 _ _ ?_
      refine wp_ret (then_ret ( ?_))
      refine ret1 rfl hd (ev_hit hN rfl) ⟨_, rfl, ?_⟩
      -- path 10T 15F
      exact ⟨hb, congrArg (Value.int .i64) (by rw [cmpL, if_neg (by omega), if_pos (by omega)])⟩
  · -- 10 False
    refine reg_nil ?_
    refine hK61 _ _ ?_
    refine wp_cond_false (ev_hit hN rfl) ?_
    refine wp_skip ?_
    refine hK60 _ _ ?_
    refine seq_any fun K66 hK66 => ?_
    refine seq_any fun K67 hK67 => ?_
    refine one_reg ?_
    refine op_assign rfl ?_
    refine reg_nil ?_
    refine hK67 _ _ ?_
    refine wp_block ?_
    refine loop_m (fun mz_ a w' => ∃ (i : Nat), mz_ = l.length - i ∧ (a.tmps.getD 0 undef = v) ∧ (a.tmps.getD 1 undef = u) ∧ (a.tmps.getD 6 undef = v) ∧ (a.tmps.getD 7 undef = (Value.int .i64 ((l.length : Nat) : Int))) ∧ (a.tmps.getD 8 undef = u) ∧ (a.tmps.getD 9 undef = (Value.int .i64 ((m.length : Nat) : Int))) ∧ (a.tmps.getD 10 undef = (Value.bool false)) ∧ (a.tmps.getD 5 undef = (Value.int .i64 ((i : Nat) : Int))) ∧ (i ≤ l.length) ∧ (cmpG l m = cmpG (l.drop i) (m.drop i)) ∧ (Below w.heap.size w w') ∧ (RdC w' 0 w.heap.size 1 v l.length (l.map u16v)) ∧ (RdC w' 0 w.heap.size 1 u m.length (m.map u16v))) _ hN hd ⟨0, rfl, (sl_base hN rfl s0), (sl_base hN rfl s1), (sl_hit hN rfl), (sl_hit hN rfl), (sl_hit hN rfl), (sl_hit hN rfl), (sl_hit hN rfl), (sl_hit hN rfl), Nat.zero_le _, rfl, hb, h, h2⟩ ?_
    rintro _ a68 w68 hN68 hd68 ⟨i, rfl, s68_0, s68_1, s68_6, s68_7, s68_8, s68_9, s68_10, s68_5, hi, he, hb, h, h2⟩
    have z_w68 := hb.size
    refine seq_any fun K69 hK69 => ?_
    refine seq_any fun K70 hK70 => ?_
    refine one_reg ?_
    refine op_move (ev_base hN68 rfl s68_5) ?_
    refine op_move (ev_base hN68 rfl s68_0) ?_
    refine op_len_rd Try.underlying75 (ev_hit hN68 rfl) h ?_
    refine op_lss (ev_hit hN68 rfl) (ev_hit hN68 rfl) (fun c19 => ?_) (fun c19 => ?_)
    · -- 19 True
      refine reg_nil ?_
      refine hK70 _ _ ?_
      refine wp_cond_true (ev_hit hN68 rfl) ?_
      refine wp_skip ?_
      refine hK69 _ _ ?_
      refine seq_any fun K71 hK71 => ?_
      refine wp_block ?_
      refine seq_any fun K72 hK72 => ?_
      refine seq_any fun K73 hK73 => ?_
      refine reg_quiet (Φ := phiL [(fun uz _ => uz = v), (fun uz _ => uz = (Value.int .i64 ((i : Nat) : Int))), (fun uz w' => ∃ (b74 : (Nat)) (o75 : (Nat)), uz = (ptr b74 o75) ∧ PtC w' 0 w.heap.size b74 o75 [(Value.int .u16 ((l.getD i 0).toNat : Int))]), (fun uz _ => uz = (Value.int .u16 ((l.getD i 0).toNat : Int))), (fun uz _ => uz = u), (fun uz _ => uz = (Value.int .i64 ((i : Nat) : Int))), (fun uz w' => ∃ (b78 : (Nat)) (o79 : (Nat)), uz = (ptr b78 o79) ∧ PtC w' 0 w.heap.size b78 o79 [(Value.int .u16 ((m.getD i 0).toNat : Int))]), (fun uz _ => uz = (Value.int .u16 ((m.getD i 0).toNat : Int))), (fun uz _ => uz = (Value.bool (decide (((l.getD i 0).toNat : Int) < ((m.getD i 0).toNat : Int)))))]) mixed (by kernel_rfl) (by kernel_rfl) (by kernel_rfl) hN68 (StL.get (StL.eq (StL.eq (StL.cons (fun u w1 w2 E h => by obtain ⟨x0, x1, hv, f0⟩ := h; exact ⟨x0, x1, hv, f0.keep0 E⟩) (StL.eq (StL.eq (StL.eq (StL.cons (fun u w1 w2 E h => by obtain ⟨x0, x1, hv, f0⟩ := h; exact ⟨x0, x1, hv, f0.keep0 E⟩) (StL.eq (StL.eq (StL.nil _))))))))))) (ObL.get (s := 9) (ObL.cons ?_ (ObL.cons ?_ (ObL.cons ?_ (ObL.cons ?_ (ObL.cons ?_ (ObL.cons ?_ (ObL.cons ?_ (ObL.cons ?_ (ObL.cons ?_ (ObL.nil)))))))))) rfl) ?_
      · -- operation 0, slot 22
        intro a74 w74 hN74 hR74 hbs74 hdp74
        have hR74 : w68.grownBy w74 none := hR74
        have q74_0 : a74.tmps.getD 0 undef = v := (hbs74 0 rfl).trans (sl_base hN68 rfl s68_0)
        clear hbs74 hdp74
        refine op_move (ev_base hN74 rfl q74_0) ?_
        exact obN_end rfl rfl ((grown_refl _ _))
      · -- operation 1, slot 23
        intro a75 w75 hN75 hR75 hbs75 hdp75
        have hR75 : w68.grownBy w75 none := hR75
        have q75_5 : a75.tmps.getD 5 undef = (Value.int .i64 ((i : Nat) : Int)) := (hbs75 5 rfl).trans (sl_base hN68 rfl s68_5)
        clear hbs75 hdp75
        refine op_move (ev_base hN75 rfl q75_5) ?_
        exact obN_end rfl rfl ((grown_refl _ _))
      · -- operation 2, slot 24
        intro a76 w76 hN76 hR76 hbs76 hdp76
        have hR76 : w68.grownBy w76 none := hR76
        have z_w76 := hR76.size
        have h := h.keep0 hR76
        have h2 := h2.keep0 hR76
        have hb := below_step0 hb hR76 hb.size
        have q76_22 : a76.tmps.getD 22 undef = v := hdp76 0 _ 22 (by kernel_rfl) rfl rfl
        have q76_23 : a76.tmps.getD 23 undef = (Value.int .i64 ((i : Nat) : Int)) := hdp76 1 _ 23 (by kernel_rfl) rfl rfl
        clear hbs76 hdp76
        refine op_index_rd slt75 (ev_base hN76 rfl q76_22) h (ev_base hN76 rfl q76_23) (by omega) (by omega) ?_
        intro b77 o78 h0b77 h1b77 hc79
        have hp80 : PtC w76 0 w.heap.size b77 o78 [(Value.int .u16 ((l.getD i 0).toNat : Int))] := ⟨h0b77, h1b77, fun j u hu => hc79 j u (by have := (List.getElem?_eq_some_iff.1 hu).1; simpa using this) ((fun j u hu => one_at (el_u16 (i := i) (by omega) (by omega)) hu) j u hu)⟩
        exact obN_end rfl ⟨b77, o78, rfl, hp80⟩ ((grown_refl _ _))
      · -- operation 3, slot 25
        intro a81 w81 hN81 hR81 hbs81 hdp81
        have hR81 : w68.grownBy w81 none := hR81
        have z_w81 := hR81.size
        have h := h.keep0 hR81
        have h2 := h2.keep0 hR81
        have hb := below_step0 hb hR81 hb.size
        obtain ⟨b74, o75, q81_24, hp77⟩ := hdp81 2 _ 24 (by kernel_rfl) rfl rfl
        have hp77 : PtC w81 0 w.heap.size b74 o75 [(Value.int .u16 ((l.getD i 0).toNat : Int))] := hp77
        clear hbs81 hdp81
        refine op_load1 (v := (Value.int .u16 ((l.getD i 0).toNat : Int))) one46 (ev_base hN81 rfl q81_24) (hp77.2.2 0 _ rfl) ?_
        exact obN_end rfl rfl ((grown_refl _ _))
      · -- operation 4, slot 26
        intro a82 w82 hN82 hR82 hbs82 hdp82
        have hR82 : w68.grownBy w82 none := hR82
        have q82_1 : a82.tmps.getD 1 undef = u := (hbs82 1 rfl).trans (sl_base hN68 rfl s68_1)
        clear hbs82 hdp82
        refine op_move (ev_base hN82 rfl q82_1) ?_
        exact obN_end rfl rfl ((grown_refl _ _))
      · -- operation 5, slot 27
        intro a83 w83 hN83 hR83 hbs83 hdp83
        have hR83 : w68.grownBy w83 none := hR83
        have q83_5 : a83.tmps.getD 5 undef = (Value.int .i64 ((i : Nat) : Int)) := (hbs83 5 rfl).trans (sl_base hN68 rfl s68_5)
        clear hbs83 hdp83
        refine op_move (ev_base hN83 rfl q83_5) ?_
        exact obN_end rfl rfl ((grown_refl _ _))
      · -- operation 6, slot 28
        intro a84 w84 hN84 hR84 hbs84 hdp84
        have hR84 : w68.grownBy w84 none := hR84
        have z_w84 := hR84.size
        have h := h.keep0 hR84
        have h2 := h2.keep0 hR84
        have hb := below_step0 hb hR84 hb.size
        have q84_26 : a84.tmps.getD 26 undef = u := hdp84 4 _ 26 (by kernel_rfl) rfl rfl
        have q84_27 : a84.tmps.getD 27 undef = (Value.int .i64 ((i : Nat) : Int)) := hdp84 5 _ 27 (by kernel_rfl) rfl rfl
        clear hbs84 hdp84
        refine op_index_rd slt75 (ev_base hN84 rfl q84_26) h2 (ev_base hN84 rfl q84_27) (by omega) (by omega) ?_
        intro b85 o86 h0b85 h1b85 hc87
        have hp88 : PtC w84 0 w.heap.size b85 o86 [(Value.int .u16 ((m.getD i 0).toNat : Int))] := ⟨h0b85, h1b85, fun j u hu => hc87 j u (by have := (List.getElem?_eq_some_iff.1 hu).1; simpa using this) ((fun j u hu => one_at (el_u16 (i := i) (by omega) (by omega)) hu) j u hu)⟩
        exact obN_end rfl ⟨b85, o86, rfl, hp88⟩ ((grown_refl _ _))
      · -- operation 7, slot 29
        intro a89 w89 hN89 hR89 hbs89 hdp89
        have hR89 : w68.grownBy w89 none := hR89
        have z_w89 := hR89.size
        have h := h.keep0 hR89
        have h2 := h2.keep0 hR89
        have hb := below_step0 hb hR89 hb.size
        obtain ⟨b78, o79, q89_28, hp81⟩ := hdp89 6 _ 28 (by kernel_rfl) rfl rfl
        have hp81 : PtC w89 0 w.heap.size b78 o79 [(Value.int .u16 ((m.getD i 0).toNat : Int))] := hp81
        clear hbs89 hdp89
        refine op_load1 (v := (Value.int .u16 ((m.getD i 0).toNat : Int))) one46 (ev_base hN89 rfl q89_28) (hp81.2.2 0 _ rfl) ?_
        exact obN_end rfl rfl ((grown_refl _ _))
      · -- operation 8, slot 30
        intro a90 w90 hN90 hR90 hbs90 hdp90
        have hR90 : w68.grownBy w90 none := hR90
        have q90_25 : a90.tmps.getD 25 undef = (Value.int .u16 ((l.getD i 0).toNat : Int)) := hdp90 3 _ 25 (by kernel_rfl) rfl rfl
        have q90_29 : a90.tmps.getD 29 undef = (Value.int .u16 ((m.getD i 0).toNat : Int)) := hdp90 7 _ 29 (by kernel_rfl) rfl rfl
        clear hbs90 hdp90
        refine op_cmp (b := (decide (((l.getD i 0).toNat : Int) < ((m.getD i 0).toNat : Int)))) (ev_base hN90 rfl q90_25) (ev_base hN90 rfl q90_29) (b_lss rfl) ?_
        exact obN_end rfl rfl ((grown_refl _ _))
      · -- behind the region
        intro a91 w91 hN91 hd91 hbs91 hph91 E91
        have hd91 := hd91.trans hd68
        have s91_0 : a91.tmps.getD 0 undef = v := (hbs91 0 rfl).trans (sl_base hN68 rfl s68_0)
        have s91_1 : a91.tmps.getD 1 undef = u := (hbs91 1 rfl).trans (sl_base hN68 rfl s68_1)
        have s91_5 : a91.tmps.getD 5 undef = (Value.int .i64 ((i : Nat) : Int)) := (hbs91 5 rfl).trans (sl_base hN68 rfl s68_5)
        have s91_6 : a91.tmps.getD 6 undef = v := (hbs91 6 rfl).trans (sl_base hN68 rfl s68_6)
        have s91_7 : a91.tmps.getD 7 undef = (Value.int .i64 ((l.length : Nat) : Int)) := (hbs91 7 rfl).trans (sl_base hN68 rfl s68_7)
        have s91_8 : a91.tmps.getD 8 undef = u := (hbs91 8 rfl).trans (sl_base hN68 rfl s68_8)
        have s91_9 : a91.tmps.getD 9 undef = (Value.int .i64 ((m.length : Nat) : Int)) := (hbs91 9 rfl).trans (sl_base hN68 rfl s68_9)
        have s91_10 : a91.tmps.getD 10 undef = (Value.bool false) := (hbs91 10 rfl).trans (sl_base hN68 rfl s68_10)
        have s91_16 : a91.tmps.getD 16 undef = (Value.int .i64 ((i : Nat) : Int)) := (hbs91 16 rfl).trans (sl_hit hN68 rfl)
        have s91_17 : a91.tmps.getD 17 undef = v := (hbs91 17 rfl).trans (sl_hit hN68 rfl)
        have s91_18 : a91.tmps.getD 18 undef = (Value.int .i64 ((l.length : Nat) : Int)) := (hbs91 18 rfl).trans (sl_hit hN68 rfl)
        have s91_19 : a91.tmps.getD 19 undef = (Value.bool true) := (hbs91 19 rfl).trans (sl_hit hN68 rfl)
        have s91_22 : a91.tmps.getD 22 undef = v := hph91 0 _ 22 rfl rfl
        have s91_23 : a91.tmps.getD 23 undef = (Value.int .i64 ((i : Nat) : Int)) := hph91 1 _ 23 rfl rfl
        obtain ⟨b74, o75, s91_24, hp77⟩ := hph91 2 _ 24 rfl rfl
        have hp77 : PtC w91 0 w.heap.size b74 o75 [(Value.int .u16 ((l.getD i 0).toNat : Int))] := hp77
        have s91_25 : a91.tmps.getD 25 undef = (Value.int .u16 ((l.getD i 0).toNat : Int)) := hph91 3 _ 25 rfl rfl
        have s91_26 : a91.tmps.getD 26 undef = u := hph91 4 _ 26 rfl rfl
        have s91_27 : a91.tmps.getD 27 undef = (Value.int .i64 ((i : Nat) : Int)) := hph91 5 _ 27 rfl rfl
        obtain ⟨b78, o79, s91_28, hp81⟩ := hph91 6 _ 28 rfl rfl
        have hp81 : PtC w91 0 w.heap.size b78 o79 [(Value.int .u16 ((m.getD i 0).toNat : Int))] := hp81
        have s91_29 : a91.tmps.getD 29 undef = (Value.int .u16 ((m.getD i 0).toNat : Int)) := hph91 7 _ 29 rfl rfl
        have s91_30 : a91.tmps.getD 30 undef = (Value.bool (decide (((l.getD i 0).toNat : Int) < ((m.getD i 0).toNat : Int)))) := hph91 8 _ 30 rfl rfl
        clear hbs91 hph91
        have E91 : w68.grownBy w91 none := E91
        have z_w91 := E91.size
        have h := h.keep0 E91
        have h2 := h2.keep0 E91
        have hb := below_step0 hb E91 hb.size
        refine hK73 _ _ ?_
        refine wp_cond_split (ev_base hN91 rfl s91_30) (fun c30 => ?_) (fun c30 => ?_)
        · -- 30 True
          have c30 := of_decide_eq_true c30
          refine seq_any fun K92 hK92 => ?_
          refine one_reg ?_
          refine op_assign rfl ?_
          refine reg_nil ?_
          refine hK92 _ _ ?_
          refine wp_ret (then_ret (blk_ret (then_ret (then_ret (blk_ret (then_ret ( ?_)))))))
          refine ret1 rfl hd91 (ev_hit hN91 rfl) ⟨_, rfl, ?_⟩
          -- path 10F 19T 30T
          exact ⟨hb, congrArg (Value.int .i64) (by rw [cmpL, if_neg (by omega), if_neg (by omega), he, cmpG_step (by omega) (by omega), if_pos (by omega)])⟩
        · -- 30 False
          have c30 := of_decide_eq_false c30
          refine wp_skip ?_
          refine hK72 _ _ ?_
          refine seq_any fun K93 hK93 => ?_
          refine reg_quiet (Φ := phiL [(fun uz _ => uz = v), (fun uz _ => uz = (Value.int .i64 ((i : Nat) : Int))), (fun uz w' => ∃ (b94 : (Nat)) (o95 : (Nat)), uz = (ptr b94 o95) ∧ PtC w' 0 w.heap.size b94 o95 [(Value.int .u16 ((l.getD i 0).toNat : Int))]), (fun uz _ => uz = (Value.int .u16 ((l.getD i 0).toNat : Int))), (fun uz _ => uz = u), (fun uz _ => uz = (Value.int .i64 ((i : Nat) : Int))), (fun uz w' => ∃ (b98 : (Nat)) (o99 : (Nat)), uz = (ptr b98 o99) ∧ PtC w' 0 w.heap.size b98 o99 [(Value.int .u16 ((m.getD i 0).toNat : Int))]), (fun uz _ => uz = (Value.int .u16 ((m.getD i 0).toNat : Int))), (fun uz _ => uz = (Value.bool (decide (((m.getD i 0).toNat : Int) < ((l.getD i 0).toNat : Int)))))]) mixed (by kernel_rfl) (by kernel_rfl) (by kernel_rfl) hN91 (StL.get (StL.eq (StL.eq (StL.cons (fun u w1 w2 E h => by obtain ⟨x0, x1, hv, f0⟩ := h; exact ⟨x0, x1, hv, f0.keep0 E⟩) (StL.eq (StL.eq (StL.eq (StL.cons (fun u w1 w2 E h => by obtain ⟨x0, x1, hv, f0⟩ := h; exact ⟨x0, x1, hv, f0.keep0 E⟩) (StL.eq (StL.eq (StL.nil _))))))))))) (ObL.get (s := 9) (ObL.cons ?_ (ObL.cons ?_ (ObL.cons ?_ (ObL.cons ?_ (ObL.cons ?_ (ObL.cons ?_ (ObL.cons ?_ (ObL.cons ?_ (ObL.cons ?_ (ObL.nil)))))))))) rfl) ?_
          · -- operation 0, slot 31
            intro a94 w94 hN94 hR94 hbs94 hdp94
            have hR94 : w91.grownBy w94 none := hR94
            have q94_0 : a94.tmps.getD 0 undef = v := (hbs94 0 rfl).trans (sl_base hN91 rfl s91_0)
            clear hbs94 hdp94
            refine op_move (ev_base hN94 rfl q94_0) ?_
            exact obN_end rfl rfl ((grown_refl _ _))
          · -- operation 1, slot 32
            intro a95 w95 hN95 hR95 hbs95 hdp95
            have hR95 : w91.grownBy w95 none := hR95
            have q95_5 : a95.tmps.getD 5 undef = (Value.int .i64 ((i : Nat) : Int)) := (hbs95 5 rfl).trans (sl_base hN91 rfl s91_5)
            clear hbs95 hdp95
            refine op_move (ev_base hN95 rfl q95_5) ?_
            exact obN_end rfl rfl ((grown_refl _ _))
          · -- operation 2, slot 33
            intro a96 w96 hN96 hR96 hbs96 hdp96
            have hR96 : w91.grownBy w96 none := hR96
            have z_w96 := hR96.size
            have h := h.keep0 hR96
            have h2 := h2.keep0 hR96
            have hp77 := hp77.keep0 hR96
            have hp81 := hp81.keep0 hR96
            have hb := below_step0 hb hR96 hb.size
            have q96_31 : a96.tmps.getD 31 undef = v := hdp96 0 _ 31 (by kernel_rfl) rfl rfl
            have q96_32 : a96.tmps.getD 32 undef = (Value.int .i64 ((i : Nat) : Int)) := hdp96 1 _ 32 (by kernel_rfl) rfl rfl
            clear hbs96 hdp96
            refine op_index_rd slt75 (ev_base hN96 rfl q96_31) h (ev_base hN96 rfl q96_32) (by omega) (by omega) ?_
            intro b97 o98 h0b97 h1b97 hc99
            have hp100 : PtC w96 0 w.heap.size b97 o98 [(Value.int .u16 ((l.getD i 0).toNat : Int))] := ⟨h0b97, h1b97, fun j u hu => hc99 j u (by have := (List.getElem?_eq_some_iff.1 hu).1; simpa using this) ((fun j u hu => one_at (el_u16 (i := i) (by omega) (by omega)) hu) j u hu)⟩
            exact obN_end rfl ⟨b97, o98, rfl, hp100⟩ ((grown_refl _ _))
          · -- operation 3, slot 34
            intro a101 w101 hN101 hR101 hbs101 hdp101
            have hR101 : w91.grownBy w101 none := hR101
            have z_w101 := hR101.size
            have h := h.keep0 hR101
            have h2 := h2.keep0 hR101
            have hp77 := hp77.keep0 hR101
            have hp81 := hp81.keep0 hR101
            have hb := below_step0 hb hR101 hb.size
            obtain ⟨b94, o95, q101_33, hp97⟩ := hdp101 2 _ 33 (by kernel_rfl) rfl rfl
            have hp97 : PtC w101 0 w.heap.size b94 o95 [(Value.int .u16 ((l.getD i 0).toNat : Int))] := hp97
            clear hbs101 hdp101
            refine op_load1 (v := (Value.int .u16 ((l.getD i 0).toNat : Int))) one46 (ev_base hN101 rfl q101_33) (hp97.2.2 0 _ rfl) ?_
            exact obN_end rfl rfl ((grown_refl _ _))
          · -- operation 4, slot 35
            intro a102 w102 hN102 hR102 hbs102 hdp102
            have hR102 : w91.grownBy w102 none := hR102
            have q102_1 : a102.tmps.getD 1 undef = u := (hbs102 1 rfl).trans (sl_base hN91 rfl s91_1)
            clear hbs102 hdp102
            refine op_move (ev_base hN102 rfl q102_1) ?_
            exact obN_end rfl rfl ((grown_refl _ _))
          · -- operation 5, slot 36
            intro a103 w103 hN103 hR103 hbs103 hdp103
            have hR103 : w91.grownBy w103 none := hR103
            have q103_5 : a103.tmps.getD 5 undef = (Value.int .i64 ((i : Nat) : Int)) := (hbs103 5 rfl).trans (sl_base hN91 rfl s91_5)
            clear hbs103 hdp103
            refine op_move (ev_base hN103 rfl q103_5) ?_
            exact obN_end rfl rfl ((grown_refl _ _))
          · -- operation 6, slot 37
            intro a104 w104 hN104 hR104 hbs104 hdp104
            have hR104 : w91.grownBy w104 none := hR104
            have z_w104 := hR104.size
            have h := h.keep0 hR104
            have h2 := h2.keep0 hR104
            have hp77 := hp77.keep0 hR104
            have hp81 := hp81.keep0 hR104
            have hb := below_step0 hb hR104 hb.size
            have q104_35 : a104.tmps.getD 35 undef = u := hdp104 4 _ 35 (by kernel_rfl) rfl rfl
            have q104_36 : a104.tmps.getD 36 undef = (Value.int .i64 ((i : Nat) : Int)) := hdp104 5 _ 36 (by kernel_rfl) rfl rfl
            clear hbs104 hdp104
            refine op_index_rd slt75 (ev_base hN104 rfl q104_35) h2 (ev_base hN104 rfl q104_36) (by omega) (by omega) ?_
            intro b105 o106 h0b105 h1b105 hc107
            have hp108 : PtC w104 0 w.heap.size b105 o106 [(Value.int .u16 ((m.getD i 0).toNat : Int))] := ⟨h0b105, h1b105, fun j u hu => hc107 j u (by have := (List.getElem?_eq_some_iff.1 hu).1; simpa using this) ((fun j u hu => one_at (el_u16 (i := i) (by omega) (by omega)) hu) j u hu)⟩
            exact obN_end rfl ⟨b105, o106, rfl, hp108⟩ ((grown_refl _ _))
          · -- operation 7, slot 38
            intro a109 w109 hN109 hR109 hbs109 hdp109
            have hR109 : w91.grownBy w109 none := hR109
            have z_w109 := hR109.size
            have h := h.keep0 hR109
            have h2 := h2.keep0 hR109
            have hp77 := hp77.keep0 hR109
            have hp81 := hp81.keep0 hR109
            have hb := below_step0 hb hR109 hb.size
            obtain ⟨b98, o99, q109_37, hp101⟩ := hdp109 6 _ 37 (by kernel_rfl) rfl rfl
            have hp101 : PtC w109 0 w.heap.size b98 o99 [(Value.int .u16 ((m.getD i 0).toNat : Int))] := hp101
            clear hbs109 hdp109
            refine op_load1 (v := (Value.int .u16 ((m.getD i 0).toNat : Int))) one46 (ev_base hN109 rfl q109_37) (hp101.2.2 0 _ rfl) ?_
            exact obN_end rfl rfl ((grown_refl _ _))
          · -- operation 8, slot 39
            intro a110 w110 hN110 hR110 hbs110 hdp110
            have hR110 : w91.grownBy w110 none := hR110
            have q110_34 : a110.tmps.getD 34 undef = (Value.int .u16 ((l.getD i 0).toNat : Int)) := hdp110 3 _ 34 (by kernel_rfl) rfl rfl
            have q110_38 : a110.tmps.getD 38 undef = (Value.int .u16 ((m.getD i 0).toNat : Int)) := hdp110 7 _ 38 (by kernel_rfl) rfl rfl
            clear hbs110 hdp110
            refine op_cmp (b := (decide (((m.getD i 0).toNat : Int) < ((l.getD i 0).toNat : Int)))) (ev_base hN110 rfl q110_34) (ev_base hN110 rfl q110_38) (b_gtr rfl) ?_
            exact obN_end rfl rfl ((grown_refl _ _))
          · -- behind the region
            intro a111 w111 hN111 hd111 hbs111 hph111 E111
            have hd111 := hd111.trans hd91
            have s111_0 : a111.tmps.getD 0 undef = v := (hbs111 0 rfl).trans (sl_base hN91 rfl s91_0)
            have s111_1 : a111.tmps.getD 1 undef = u := (hbs111 1 rfl).trans (sl_base hN91 rfl s91_1)
            have s111_5 : a111.tmps.getD 5 undef = (Value.int .i64 ((i : Nat) : Int)) := (hbs111 5 rfl).trans (sl_base hN91 rfl s91_5)
            have s111_6 : a111.tmps.getD 6 undef = v := (hbs111 6 rfl).trans (sl_base hN91 rfl s91_6)
            have s111_7 : a111.tmps.getD 7 undef = (Value.int .i64 ((l.length : Nat) : Int)) := (hbs111 7 rfl).trans (sl_base hN91 rfl s91_7)
            have s111_8 : a111.tmps.getD 8 undef = u := (hbs111 8 rfl).trans (sl_base hN91 rfl s91_8)
            have s111_9 : a111.tmps.getD 9 undef = (Value.int .i64 ((m.length : Nat) : Int)) := (hbs111 9 rfl).trans (sl_base hN91 rfl s91_9)
            have s111_10 : a111.tmps.getD 10 undef = (Value.bool false) := (hbs111 10 rfl).trans (sl_base hN91 rfl s91_10)
            have s111_16 : a111.tmps.getD 16 undef = (Value.int .i64 ((i : Nat) : Int)) := (hbs111 16 rfl).trans (sl_base hN91 rfl s91_16)
            have s111_17 : a111.tmps.getD 17 undef = v := (hbs111 17 rfl).trans (sl_base hN91 rfl s91_17)
            have s111_18 : a111.tmps.getD 18 undef = (Value.int .i64 ((l.length : Nat) : Int)) := (hbs111 18 rfl).trans (sl_base hN91 rfl s91_18)
            have s111_19 : a111.tmps.getD 19 undef = (Value.bool true) := (hbs111 19 rfl).trans (sl_base hN91 rfl s91_19)
            have s111_22 : a111.tmps.getD 22 undef = v := (hbs111 22 rfl).trans (sl_base hN91 rfl s91_22)
            have s111_23 : a111.tmps.getD 23 undef = (Value.int .i64 ((i : Nat) : Int)) := (hbs111 23 rfl).trans (sl_base hN91 rfl s91_23)
            have s111_24 : a111.tmps.getD 24 undef = (ptr b74 o75) := (hbs111 24 rfl).trans (sl_base hN91 rfl s91_24)
            have s111_25 : a111.tmps.getD 25 undef = (Value.int .u16 ((l.getD i 0).toNat : Int)) := (hbs111 25 rfl).trans (sl_base hN91 rfl s91_25)
            have s111_26 : a111.tmps.getD 26 undef = u := (hbs111 26 rfl).trans (sl_base hN91 rfl s91_26)
            have s111_27 : a111.tmps.getD 27 undef = (Value.int .i64 ((i : Nat) : Int)) := (hbs111 27 rfl).trans (sl_base hN91 rfl s91_27)
            have s111_28 : a111.tmps.getD 28 undef = (ptr b78 o79) := (hbs111 28 rfl).trans (sl_base hN91 rfl s91_28)
            have s111_29 : a111.tmps.getD 29 undef = (Value.int .u16 ((m.getD i 0).toNat : Int)) := (hbs111 29 rfl).trans (sl_base hN91 rfl s91_29)
            have s111_30 : a111.tmps.getD 30 undef = (Value.bool (decide (((l.getD i 0).toNat : Int) < ((m.getD i 0).toNat : Int)))) := (hbs111 30 rfl).trans (sl_base hN91 rfl s91_30)
            have s111_31 : a111.tmps.getD 31 undef = v := hph111 0 _ 31 rfl rfl
            have s111_32 : a111.tmps.getD 32 undef = (Value.int .i64 ((i : Nat) : Int)) := hph111 1 _ 32 rfl rfl
            obtain ⟨b94, o95, s111_33, hp97⟩ := hph111 2 _ 33 rfl rfl
            have hp97 : PtC w111 0 w.heap.size b94 o95 [(Value.int .u16 ((l.getD i 0).toNat : Int))] := hp97
            have s111_34 : a111.tmps.getD 34 undef = (Value.int .u16 ((l.getD i 0).toNat : Int)) := hph111 3 _ 34 rfl rfl
            have s111_35 : a111.tmps.getD 35 undef = u := hph111 4 _ 35 rfl rfl
            have s111_36 : a111.tmps.getD 36 undef = (Value.int .i64 ((i : Nat) : Int)) := hph111 5 _ 36 rfl rfl
            obtain ⟨b98, o99, s111_37, hp101⟩ := hph111 6 _ 37 rfl rfl
            have hp101 : PtC w111 0 w.heap.size b98 o99 [(Value.int .u16 ((m.getD i 0).toNat : Int))] := hp101
            have s111_38 : a111.tmps.getD 38 undef = (Value.int .u16 ((m.getD i 0).toNat : Int)) := hph111 7 _ 38 rfl rfl
            have s111_39 : a111.tmps.getD 39 undef = (Value.bool (decide (((m.getD i 0).toNat : Int) < ((l.getD i 0).toNat : Int)))) := hph111 8 _ 39 rfl rfl
            clear hbs111 hph111
            have E111 : w91.grownBy w111 none := E111
            have z_w111 := E111.size
            have h := h.keep0 E111
            have h2 := h2.keep0 E111
            have hp77 := hp77.keep0 E111
            have hp81 := hp81.keep0 E111
            have hb := below_step0 hb E111 hb.size
            refine hK93 _ _ ?_
            refine wp_cond_split (ev_base hN111 rfl s111_39) (fun c39 => ?_) (fun c39 => ?_)
            · -- 39 True
              have c39 := of_decide_eq_true c39
              refine seq_any fun K112 hK112 => ?_
              refine one_reg ?_
              refine op_assign rfl ?_
              refine reg_nil ?_
              refine hK112 _ _ ?_
              refine wp_ret (blk_ret (then_ret (then_ret (blk_ret (then_ret ( ?_))))))
              refine ret1 rfl hd111 (ev_hit hN111 rfl) ⟨_, rfl, ?_⟩
              -- path 10F 19T 30F 39T
              exact ⟨hb, congrArg (Value.int .i64) (by rw [cmpL, if_neg (by omega), if_neg (by omega), he, cmpG_step (by omega) (by omega), if_neg (by omega), if_pos (by omega)])⟩
            · -- 39 False
              have c39 := of_decide_eq_false c39
              refine wp_skip ?_
              refine hK71 _ _ ?_
              refine one_reg ?_
              refine op_move (ev_base hN111 rfl s111_5) ?_
              refine op_add (ev_hit hN111 rfl) rfl (add64 (by omega)) ?_
              refine op_assign (ev_hit hN111 rfl) ?_
              refine reg_nil ?_
              -- round 10F 19T 30F 39F
              exact loop_next _ hN111 hd111 ⟨i + 1, rfl, (sl_base hN111 rfl s111_0), (sl_base hN111 rfl s111_1), (sl_base hN111 rfl s111_6), (sl_base hN111 rfl s111_7), (sl_base hN111 rfl s111_8), (sl_base hN111 rfl s111_9), (sl_base hN111 rfl s111_10), (sl_hit hN111 rfl).trans (congrArg (Value.int .i64) (by omega)), (by omega), (he.trans ((cmpG_step (by omega) (by omega)).trans (by rw [if_neg (by omega), if_neg (by omega)]))), hb, h, h2⟩ (by omega)
    · -- 19 False
      refine reg_nil ?_
      refine hK70 _ _ ?_
      refine wp_cond_false (ev_hit hN68 rfl) ?_
      refine wp_exit (then_exit (then_exit (blk_hit ?_)))
      refine hK66 _ _ ?_
      refine seq_any fun K113 hK113 => ?_
      refine one_reg ?_
      refine op_assign rfl ?_
      refine reg_nil ?_
      refine hK113 _ _ ?_
      refine wp_ret ?_
      refine ret1 rfl hd68 (ev_hit hN68 rfl) ⟨_, rfl, ?_⟩
      -- path 10F 19F
      exact ⟨hb, congrArg (Value.int .i64) (by rw [cmpL, if_neg (by omega), if_neg (by omega), he, cmpG_end (by omega) (by omega)])⟩

theorem sameL_ret (l m : Lb) (v u : Value) (w : World) (hl : l.length ≤ 9223372036854775807) (hm : m.length ≤ 9223372036854775807) (h : RdC w 0 w.heap.size 1 v l.length (l.map u16v)) (h2 : RdC w 0 w.heap.size 1 u m.length (m.map u16v)) : Ret Try.prog 60 #[v, u] w (fun v' w' => Below w.heap.size w w' ∧ v' = .bool (decide (l = m))) := by
  have hb := Below.refl w.heap.size w
  refine enter (N := 9) Try.func60 rfl rfl (by simp) fun a0 hN hd hA => ?_
  have s0 : a0.tmps.getD 0 undef = v := hA 0 (by simp)
  have s1 : a0.tmps.getD 1 undef = u := hA 1 (by simp)
  clear hA
  refine seq_any fun K114 hK114 => ?_
  refine one_reg ?_
  refine op_assign rfl ?_
  refine reg_nil ?_
  refine hK114 _ _ ?_
  refine seq_any fun K115 hK115 => ?_
  refine one_reg ?_
  refine op_move (ev_base hN rfl s0) ?_
  refine op_move (ev_base hN rfl s1) ?_
  refine op_fn (vs := [v, u]) ok61 ⟨(ev_hit hN rfl), ⟨(ev_hit hN rfl), trivial⟩⟩ (cmpL_ret l m _ _ _ (by first | assumption | omega | (simp only [List.length_append, List.length_cons, List.length_nil, List.length_drop, List.length_take]; omega) | (dsimp only; omega) | decide | (simp [keyV, be8_len]; done)) (by first | assumption | omega | (simp only [List.length_append, List.length_cons, List.length_nil, List.length_drop, List.length_take]; omega) | (dsimp only; omega) | decide | (simp [keyV, be8_len]; done)) (show RdC w 0 w.heap.size 1 v l.length (l.map u16v) from by have hh : RdC w 0 w.heap.size 1 _ _ _ := (h.mono (L' := 0) (B' := w.heap.size) (Nat.zero_le _) (by omega)); first | exact hh | exact hh.cast (by first | omega | (simp; try omega)) (by first | rfl | simp [u16v])) (show RdC w 0 w.heap.size 1 u m.length (m.map u16v) from by have hh : RdC w 0 w.heap.size 1 _ _ _ := (h2.mono (L' := 0) (B' := w.heap.size) (Nat.zero_le _) (by omega)); first | exact hh | exact hh.cast (by first | omega | (simp; try omega)) (by first | rfl | simp [u16v]))) ?_
  rintro _ w116 ⟨E117, rfl⟩
  have E117 := grown_of_below E117
  have z_w116 := E117.size
  have h := h.keep0 E117
  have h2 := h2.keep0 E117
  have hb := below_step0 hb E117 hb.size
  refine op_eql (ev_hit hN rfl) rfl (fun c8 => ?_) (fun c8 => ?_)
  · -- 8 True
    refine op_assign (ev_hit hN rfl) ?_
    refine reg_nil ?_
    refine hK115 _ _ ?_
    refine wp_ret ?_
    refine ret1 rfl hd (ev_hit hN rfl) ⟨_, rfl, ?_⟩
    -- path 8T
    exact ⟨hb, congrArg Value.bool (decide_eq_true (cmpL_zero.1 c8)).symm⟩
  · -- 8 False
    refine op_assign (ev_hit hN rfl) ?_
    refine reg_nil ?_
    refine hK115 _ _ ?_
    refine wp_ret ?_
    refine ret1 rfl hd (ev_hit hN rfl) ⟨_, rfl, ?_⟩
    -- path 8F
    exact ⟨hb, congrArg Value.bool (decide_eq_false (fun hh => c8 (cmpL_zero.2 hh))).symm⟩

end Go.Proofs.Ytkkongnmcfdioaa
