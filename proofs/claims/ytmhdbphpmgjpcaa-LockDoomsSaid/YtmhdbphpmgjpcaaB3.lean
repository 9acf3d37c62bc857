/- Walks, written by a program: what each function of the translation hands back. -/
import Derived.Test.YtmhdbphpmgjpcaaB2
namespace Go.Proofs.Ytmhdbphpmgjpcaa
open Go.Gx Go.RowKit
attribute [local irreducible] wpList wpStill Code.wp Calls

theorem refMay_ret (l : Lb) (v : Value) (w : World) (hl : l.length ≤ 9223372036854775807) (h : RdC w 0 w.heap.size 1 v l.length (l.map u16v)) : Ret Try.prog 33 #[v] w (fun v' w' => Below w.heap.size w w' ∧ v' = .bool (mayL l)) := by
 have hb := Below.refl w.heap.size w
 refine enter (N := 23) Try.func33 rfl rfl (by simp) fun a0 hN hd hA => ?_
 have s0 : a0.tmps.getD 0 undef = v := hA 0 (by simp)
 clear hA
 refine seq_any fun K1 hK1 => ?_
 refine one_reg ?_
 refine op_assign rfl ?_
 refine reg_nil ?_
 refine hK1 _ _ ?_
 refine seq_any fun K2 hK2 => ?_
 refine seq_any fun K3 hK3 => ?_
 refine one_reg ?_
 refine op_assign rfl ?_
 refine reg_nil ?_
 refine hK3 _ _ ?_
 refine wp_block ?_
 refine loop_m (fun mz_ az_ w' => ∃ (i : Nat), mz_ = l.length - i ∧ (az_.tmps.getD 0 undef = v) ∧ (az_.tmps.getD 3 undef = (Value.int .i64 ((i : Nat) : Int))) ∧ (1 ≤ i ∧ (i ≤ l.length ∨ i = 1)) ∧ (Rise (l.take i)) ∧ (Below w.heap.size w w') ∧ (w.heap.size ≤ w'.heap.size) ∧ (RdC w' 0 w.heap.size 1 v l.length (l.map u16v))) _ hN hd ⟨1, rfl, (sl_base hN rfl s0), (sl_hit hN rfl).trans (congrArg (Value.int .i64) (by omega)), ⟨Nat.le_refl _, .inr rfl⟩, rise_one, hb, (Nat.le_refl _), h⟩ ?_
 rintro _ a4 w4 hN4 hd4 ⟨i, rfl, s4_0, s4_3, hi, hr, hb, zl_w4, h⟩
 have z_w4 := hb.size
 refine seq_any fun K5 hK5 => ?_
 refine seq_any fun K6 hK6 => ?_
 refine one_reg ?_
 refine op_move (ev_base hN4 rfl s4_3) ?_
 refine op_move (ev_base hN4 rfl s4_0) ?_
 refine op_len_rd Try.underlying54 (ev_hit hN4 rfl) h ?_
 refine op_lss (ev_hit hN4 rfl) (ev_hit hN4 rfl) (fun c7 => ?_) (fun c7 => ?_)
 · -- 7T
  refine reg_nil ?_
  refine hK6 _ _ ?_
  refine wp_cond_true (ev_hit hN4 rfl) ?_
  refine wp_skip ?_
  refine hK5 _ _ ?_
  refine seq_any fun K7 hK7 => ?_
  refine wp_block ?_
  refine seq_any fun K8 hK8 => ?_
  refine reg_still mixed (by kernel_rfl) ?_
  intro w10 E9
  have z_w10 := E9.size
  have h := h.keep0 E9
  have hb := below_step0 hb E9 hb.size
  refine st_step rfl (fun _ h9 => op_move (ev_base hN4 rfl s4_0) h9) ?_
  refine st_step rfl (fun _ h9 => op_move (ev_base hN4 rfl s4_3) h9) ?_
  refine st_step rfl (fun _ h9 => op_sub (ev_hit hN4 rfl) rfl (sub64 (by omega)) h9) ?_
  refine st_index_rd slt54 (ev_hit hN4 rfl) h (ev_hit hN4 rfl) (by omega) (by omega) ?_
  intro b11 o12 h0b11 h1b11 hc13
  refine st_step rfl (fun _ h9 => op_load1 (v := (Value.int .u16 ((l.getD (i - 1) 0).toNat : Int))) one46 (ev_hit hN4 rfl) (by have := hc13 0 (Value.int .u16 ((l.getD (i - 1) 0).toNat : Int)) (by decide) (el_u16 (i := (i - 1)) (by omega) (by omega)); simpa using this) h9) ?_
  refine st_step rfl (fun _ h9 => op_move (ev_base hN4 rfl s4_0) h9) ?_
  refine st_step rfl (fun _ h9 => op_move (ev_base hN4 rfl s4_3) h9) ?_
  refine st_index_rd slt54 (ev_hit hN4 rfl) h (ev_hit hN4 rfl) (by omega) (by omega) ?_
  intro b14 o15 h0b14 h1b14 hc16
  refine st_step rfl (fun _ h9 => op_load1 (v := (Value.int .u16 ((l.getD i 0).toNat : Int))) one46 (ev_hit hN4 rfl) (by have := hc16 0 (Value.int .u16 ((l.getD i 0).toNat : Int)) (by decide) (el_u16 (i := i) (by omega) (by omega)); simpa using this) h9) ?_
  refine st_step rfl (fun _ h9 => op_cmp (b := (decide (((l.getD i 0).toNat : Int) ≤ ((l.getD (i - 1) 0).toNat : Int)))) (ev_hit hN4 rfl) (ev_hit hN4 rfl) (b_geq rfl) h9) ?_
  refine st_nil ?_
  refine hK8 _ _ ?_
  refine wp_cond_split (ev_hit hN4 rfl) (fun c19 => ?_) (fun c19 => ?_)
  · -- 19T
   have c19 := of_decide_eq_true c19
   refine seq_any fun K17 hK17 => ?_
   refine one_reg ?_
   refine op_assign rfl ?_
   refine reg_nil ?_
   refine hK17 _ _ ?_
   refine wp_ret (blk_ret (then_ret (then_ret (blk_ret (then_ret ( ?_))))))
   refine ret1 rfl hd4 (ev_hit hN4 rfl) ⟨_, rfl, ?_⟩
   -- path 7T 19T
   exact ⟨hb, congrArg Value.bool (by rw [mayL, decide_eq_false (rise_bad (i := i) (by omega) (by omega) (by omega)), Bool.false_and])⟩
  · -- 19F
   have c19 := of_decide_eq_false c19
   refine wp_skip ?_
   refine hK7 _ _ ?_
   refine one_reg ?_
   refine op_move (ev_base hN4 rfl s4_3) ?_
   refine op_add (ev_hit hN4 rfl) rfl (add64 (by omega)) ?_
   refine op_assign (ev_hit hN4 rfl) ?_
   refine reg_nil ?_
   -- round 7T 19F
   exact loop_next _ hN4 hd4 ⟨i + 1, rfl, (sl_base hN4 rfl s4_0), (sl_hit hN4 rfl).trans (congrArg (Value.int .i64) (by omega)), (by omega), (rise_step (by omega) (by omega) hr (by omega)), hb, (by omega), h⟩ (by omega)
 · -- 7F
  refine reg_nil ?_
  refine hK6 _ _ ?_
  refine wp_cond_false (ev_hit hN4 rfl) ?_
  refine wp_exit (then_exit (then_exit (blk_hit ?_)))
  refine hK2 _ _ ?_
  refine seq_any fun K18 hK18 => ?_
  refine one_reg ?_
  refine op_move (ev_base hN4 rfl s4_0) ?_
  refine op_len_rd Try.underlying54 (ev_hit hN4 rfl) h ?_
  refine op_leq (ev_hit hN4 rfl) rfl (fun c22 => ?_) (fun c22 => ?_)
  · -- 22T
   refine op_assign (ev_hit hN4 rfl) ?_
   refine reg_nil ?_
   refine hK18 _ _ ?_
   refine wp_ret ?_
   refine ret1 rfl hd4 (ev_hit hN4 rfl) ⟨_, rfl, ?_⟩
   -- path 7F 22T
   have hr2 : Rise l := by rwa [List.take_of_length_le (by omega)] at hr
   exact ⟨hb, congrArg Value.bool (by rw [mayL, decide_eq_true hr2, Bool.true_and]; exact (decide_eq_true (by omega)).symm)⟩
  · -- 22F
   refine op_assign (ev_hit hN4 rfl) ?_
   refine reg_nil ?_
   refine hK18 _ _ ?_
   refine wp_ret ?_
   refine ret1 rfl hd4 (ev_hit hN4 rfl) ⟨_, rfl, ?_⟩
   -- path 7F 22F
   have hr2 : Rise l := by rwa [List.take_of_length_le (by omega)] at hr
   exact ⟨hb, congrArg Value.bool (by rw [mayL, decide_eq_true hr2, Bool.true_and]; exact (decide_eq_false (by omega)).symm)⟩

theorem cmpL_ret (l m : Lb) (v u : Value) (w : World) (hl : l.length ≤ 9223372036854775807) (hm : m.length ≤ 9223372036854775807) (h : RdC w 0 w.heap.size 1 v l.length (l.map u16v)) (h2 : RdC w 0 w.heap.size 1 u m.length (m.map u16v)) : Ret Try.prog 78 #[v, u] w (fun v' w' => Below w.heap.size w w' ∧ v' = .int .i64 (cmpL l m)) := by
 have hb := Below.refl w.heap.size w
 refine enter (N := 40) Try.func78 rfl rfl (by simp) fun a0 hN hd hA => ?_
 have s0 : a0.tmps.getD 0 undef = v := hA 0 (by simp)
 have s1 : a0.tmps.getD 1 undef = u := hA 1 (by simp)
 clear hA
 refine seq_any fun K37 hK37 => ?_
 refine one_reg ?_
 refine op_assign rfl ?_
 refine reg_nil ?_
 refine hK37 _ _ ?_
 refine seq_any fun K38 hK38 => ?_
 refine seq_any fun K39 hK39 => ?_
 refine one_reg ?_
 refine op_move (ev_base hN rfl s0) ?_
 refine op_len_rd Try.underlying54 (ev_hit hN rfl) h ?_
 refine op_move (ev_base hN rfl s1) ?_
 refine op_len_rd Try.underlying54 (ev_hit hN rfl) h2 ?_
 refine op_neq (ev_hit hN rfl) (ev_hit hN rfl) (fun c10 => ?_) (fun c10 => ?_)
 · -- 10T
  refine reg_nil ?_
  refine hK39 _ _ ?_
  refine wp_cond_true (ev_hit hN rfl) ?_
  refine seq_any fun K40 hK40 => ?_
  refine seq_any fun K41 hK41 => ?_
  refine one_reg ?_
  refine op_move (ev_base hN rfl s0) ?_
  refine op_len_rd Try.underlying54 (ev_hit hN rfl) h ?_
  refine op_move (ev_base hN rfl s1) ?_
  refine op_len_rd Try.underlying54 (ev_hit hN rfl) h2 ?_
  refine op_lss (ev_hit hN rfl) (ev_hit hN rfl) (fun c15 => ?_) (fun c15 => ?_)
  · -- 15T
   refine reg_nil ?_
   refine hK41 _ _ ?_
   refine wp_cond_true (ev_hit hN rfl) ?_
   refine seq_any fun K42 hK42 => ?_
   refine one_reg ?_
   refine op_assign rfl ?_
   refine reg_nil ?_
   refine hK42 _ _ ?_
   refine wp_ret (then_ret (then_ret ( ?_)))
   refine ret1 rfl hd (ev_hit hN rfl) ⟨_, rfl, ?_⟩
   -- path 10T 15T
   exact ⟨hb, congrArg (Value.int .i64) (by rw [cmpL, if_pos (by omega)])⟩
  · -- 15F
   refine reg_nil ?_
   refine hK41 _ _ ?_
   refine wp_cond_false (ev_hit hN rfl) ?_
   refine wp_skip ?_
   refine hK40 _ _ ?_
   refine seq_any fun K43 hK43 => ?_
   refine one_reg ?_
   refine op_assign rfl ?_
   refine reg_nil ?_
   refine hK43 _ _ ?_
   refine wp_ret (then_ret ( ?_))
   refine ret1 rfl hd (ev_hit hN rfl) ⟨_, rfl, ?_⟩
   -- path 10T 15F
   exact ⟨hb, congrArg (Value.int .i64) (by rw [cmpL, if_neg (by omega), if_pos (by omega)])⟩
 · -- 10F
  refine reg_nil ?_
  refine hK39 _ _ ?_
  refine wp_cond_false (ev_hit hN rfl) ?_
  refine wp_skip ?_
  refine hK38 _ _ ?_
  refine seq_any fun K44 hK44 => ?_
  refine seq_any fun K45 hK45 => ?_
  refine one_reg ?_
  refine op_assign rfl ?_
  refine reg_nil ?_
  refine hK45 _ _ ?_
  refine wp_block ?_
  refine loop_m (fun mz_ az_ w' => ∃ (i : Nat), mz_ = l.length - i ∧ (az_.tmps.getD 0 undef = v) ∧ (az_.tmps.getD 1 undef = u) ∧ (az_.tmps.getD 5 undef = (Value.int .i64 ((i : Nat) : Int))) ∧ (i ≤ l.length) ∧ (cmpG l m = cmpG (l.drop i) (m.drop i)) ∧ (Below w.heap.size w w') ∧ (w.heap.size ≤ w'.heap.size) ∧ (RdC w' 0 w.heap.size 1 v l.length (l.map u16v)) ∧ (RdC w' 0 w.heap.size 1 u m.length (m.map u16v))) _ hN hd ⟨0, rfl, (sl_base hN rfl s0), (sl_base hN rfl s1), (sl_hit hN rfl), Nat.zero_le _, rfl, hb, (Nat.le_refl _), h, h2⟩ ?_
  rintro _ a46 w46 hN46 hd46 ⟨i, rfl, s46_0, s46_1, s46_5, hi, he, hb, zl_w46, h, h2⟩
  have z_w46 := hb.size
  refine seq_any fun K47 hK47 => ?_
  refine seq_any fun K48 hK48 => ?_
  refine one_reg ?_
  refine op_move (ev_base hN46 rfl s46_5) ?_
  refine op_move (ev_base hN46 rfl s46_0) ?_
  refine op_len_rd Try.underlying54 (ev_hit hN46 rfl) h ?_
  refine op_lss (ev_hit hN46 rfl) (ev_hit hN46 rfl) (fun c19 => ?_) (fun c19 => ?_)
  · -- 19T
   refine reg_nil ?_
   refine hK48 _ _ ?_
   refine wp_cond_true (ev_hit hN46 rfl) ?_
   refine wp_skip ?_
   refine hK47 _ _ ?_
   refine seq_any fun K49 hK49 => ?_
   refine wp_block ?_
   refine seq_any fun K50 hK50 => ?_
   refine seq_any fun K51 hK51 => ?_
   refine reg_still mixed (by kernel_rfl) ?_
   intro w53 E52
   have z_w53 := E52.size
   have h := h.keep0 E52
   have h2 := h2.keep0 E52
   have hb := below_step0 hb E52 hb.size
   refine st_step rfl (fun _ h9 => op_move (ev_base hN46 rfl s46_0) h9) ?_
   refine st_step rfl (fun _ h9 => op_move (ev_base hN46 rfl s46_5) h9) ?_
   refine st_index_rd slt54 (ev_hit hN46 rfl) h (ev_hit hN46 rfl) (by omega) (by omega) ?_
   intro b54 o55 h0b54 h1b54 hc56
   refine st_step rfl (fun _ h9 => op_load1 (v := (Value.int .u16 ((l.getD i 0).toNat : Int))) one46 (ev_hit hN46 rfl) (by have := hc56 0 (Value.int .u16 ((l.getD i 0).toNat : Int)) (by decide) (el_u16 (i := i) (by omega) (by omega)); simpa using this) h9) ?_
   refine st_step rfl (fun _ h9 => op_move (ev_base hN46 rfl s46_1) h9) ?_
   refine st_step rfl (fun _ h9 => op_move (ev_base hN46 rfl s46_5) h9) ?_
   refine st_index_rd slt54 (ev_hit hN46 rfl) h2 (ev_hit hN46 rfl) (by omega) (by omega) ?_
   intro b57 o58 h0b57 h1b57 hc59
   refine st_step rfl (fun _ h9 => op_load1 (v := (Value.int .u16 ((m.getD i 0).toNat : Int))) one46 (ev_hit hN46 rfl) (by have := hc59 0 (Value.int .u16 ((m.getD i 0).toNat : Int)) (by decide) (el_u16 (i := i) (by omega) (by omega)); simpa using this) h9) ?_
   refine st_step rfl (fun _ h9 => op_cmp (b := (decide (((l.getD i 0).toNat : Int) < ((m.getD i 0).toNat : Int)))) (ev_hit hN46 rfl) (ev_hit hN46 rfl) (b_lss rfl) h9) ?_
   refine st_nil ?_
   refine hK51 _ _ ?_
   refine wp_cond_split (ev_hit hN46 rfl) (fun c30 => ?_) (fun c30 => ?_)
   · -- 30T
    have c30 := of_decide_eq_true c30
    refine seq_any fun K60 hK60 => ?_
    refine one_reg ?_
    refine op_assign rfl ?_
    refine reg_nil ?_
    refine hK60 _ _ ?_
    refine wp_ret (then_ret (blk_ret (then_ret (then_ret (blk_ret (then_ret ( ?_)))))))
    refine ret1 rfl hd46 (ev_hit hN46 rfl) ⟨_, rfl, ?_⟩
    -- path 10F 19T 30T
    exact ⟨hb, congrArg (Value.int .i64) (by rw [cmpL, if_neg (by omega), if_neg (by omega), he, cmpG_step (by omega) (by omega), if_pos (by omega)])⟩
   · -- 30F
    have c30 := of_decide_eq_false c30
    refine wp_skip ?_
    refine hK50 _ _ ?_
    refine seq_any fun K61 hK61 => ?_
    refine reg_still mixed (by kernel_rfl) ?_
    intro w63 E62
    have z_w63 := E62.size
    have h := h.keep0 E62
    have h2 := h2.keep0 E62
    have hb := below_step0 hb E62 hb.size
    refine st_step rfl (fun _ h9 => op_move (ev_base hN46 rfl s46_0) h9) ?_
    refine st_step rfl (fun _ h9 => op_move (ev_base hN46 rfl s46_5) h9) ?_
    refine st_index_rd slt54 (ev_hit hN46 rfl) h (ev_hit hN46 rfl) (by omega) (by omega) ?_
    intro b64 o65 h0b64 h1b64 hc66
    refine st_step rfl (fun _ h9 => op_load1 (v := (Value.int .u16 ((l.getD i 0).toNat : Int))) one46 (ev_hit hN46 rfl) (by have := hc66 0 (Value.int .u16 ((l.getD i 0).toNat : Int)) (by decide) (el_u16 (i := i) (by omega) (by omega)); simpa using this) h9) ?_
    refine st_step rfl (fun _ h9 => op_move (ev_base hN46 rfl s46_1) h9) ?_
    refine st_step rfl (fun _ h9 => op_move (ev_base hN46 rfl s46_5) h9) ?_
    refine st_index_rd slt54 (ev_hit hN46 rfl) h2 (ev_hit hN46 rfl) (by omega) (by omega) ?_
    intro b67 o68 h0b67 h1b67 hc69
    refine st_step rfl (fun _ h9 => op_load1 (v := (Value.int .u16 ((m.getD i 0).toNat : Int))) one46 (ev_hit hN46 rfl) (by have := hc69 0 (Value.int .u16 ((m.getD i 0).toNat : Int)) (by decide) (el_u16 (i := i) (by omega) (by omega)); simpa using this) h9) ?_
    refine st_step rfl (fun _ h9 => op_cmp (b := (decide (((m.getD i 0).toNat : Int) < ((l.getD i 0).toNat : Int)))) (ev_hit hN46 rfl) (ev_hit hN46 rfl) (b_gtr rfl) h9) ?_
    refine st_nil ?_
    refine hK61 _ _ ?_
    refine wp_cond_split (ev_hit hN46 rfl) (fun c39 => ?_) (fun c39 => ?_)
    · -- 39T
     have c39 := of_decide_eq_true c39
     refine seq_any fun K70 hK70 => ?_
     refine one_reg ?_
     refine op_assign rfl ?_
     refine reg_nil ?_
     refine hK70 _ _ ?_
     refine wp_ret (blk_ret (then_ret (then_ret (blk_ret (then_ret ( ?_))))))
     refine ret1 rfl hd46 (ev_hit hN46 rfl) ⟨_, rfl, ?_⟩
     -- path 10F 19T 30F 39T
     exact ⟨hb, congrArg (Value.int .i64) (by rw [cmpL, if_neg (by omega), if_neg (by omega), he, cmpG_step (by omega) (by omega), if_neg (by omega), if_pos (by omega)])⟩
    · -- 39F
     have c39 := of_decide_eq_false c39
     refine wp_skip ?_
     refine hK49 _ _ ?_
     refine one_reg ?_
     refine op_move (ev_base hN46 rfl s46_5) ?_
     refine op_add (ev_hit hN46 rfl) rfl (add64 (by omega)) ?_
     refine op_assign (ev_hit hN46 rfl) ?_
     refine reg_nil ?_
     -- round 10F 19T 30F 39F
     exact loop_next _ hN46 hd46 ⟨i + 1, rfl, (sl_base hN46 rfl s46_0), (sl_base hN46 rfl s46_1), (sl_hit hN46 rfl).trans (congrArg (Value.int .i64) (by omega)), (by omega), (he.trans ((cmpG_step (by omega) (by omega)).trans (by rw [if_neg (by omega), if_neg (by omega)]))), hb, (by omega), h, h2⟩ (by omega)
  · -- 19F
   refine reg_nil ?_
   refine hK48 _ _ ?_
   refine wp_cond_false (ev_hit hN46 rfl) ?_
   refine wp_exit (then_exit (then_exit (blk_hit ?_)))
   refine hK44 _ _ ?_
   refine seq_any fun K71 hK71 => ?_
   refine one_reg ?_
   refine op_assign rfl ?_
   refine reg_nil ?_
   refine hK71 _ _ ?_
   refine wp_ret ?_
   refine ret1 rfl hd46 (ev_hit hN46 rfl) ⟨_, rfl, ?_⟩
   -- path 10F 19F
   exact ⟨hb, congrArg (Value.int .i64) (by rw [cmpL, if_neg (by omega), if_neg (by omega), he, cmpG_end (by omega) (by omega)])⟩

theorem sameL_ret (l m : Lb) (v u : Value) (w : World) (hl : l.length ≤ 9223372036854775807) (hm : m.length ≤ 9223372036854775807) (h : RdC w 0 w.heap.size 1 v l.length (l.map u16v)) (h2 : RdC w 0 w.heap.size 1 u m.length (m.map u16v)) : Ret Try.prog 34 #[v, u] w (fun v' w' => Below w.heap.size w w' ∧ v' = .bool (decide (l = m))) := by
 have hb := Below.refl w.heap.size w
 refine enter (N := 9) Try.func34 rfl rfl (by simp) fun a0 hN hd hA => ?_
 have s0 : a0.tmps.getD 0 undef = v := hA 0 (by simp)
 have s1 : a0.tmps.getD 1 undef = u := hA 1 (by simp)
 clear hA
 refine seq_any fun K72 hK72 => ?_
 refine one_reg ?_
 refine op_assign rfl ?_
 refine reg_nil ?_
 refine hK72 _ _ ?_
 refine seq_any fun K73 hK73 => ?_
 refine one_reg ?_
 refine op_move (ev_base hN rfl s0) ?_
 refine op_move (ev_base hN rfl s1) ?_
 refine op_fn (vs := [v, u]) ok78 ⟨(ev_hit hN rfl), ⟨(ev_hit hN rfl), trivial⟩⟩ (cmpL_ret l m _ _ _ (by first | assumption | omega | (simp only [List.length_append, List.length_cons, List.length_nil, List.length_drop, List.length_take]; omega) | (dsimp only; omega) | decide | (simp [keyV, be8_len]; done)) (by first | assumption | omega | (simp only [List.length_append, List.length_cons, List.length_nil, List.length_drop, List.length_take]; omega) | (dsimp only; omega) | decide | (simp [keyV, be8_len]; done)) (show RdC w 0 w.heap.size 1 v l.length (l.map u16v) from by have hh : RdC w 0 w.heap.size 1 _ _ _ := (h.mono (L' := 0) (B' := w.heap.size) (Nat.zero_le _) (by omega)); first | exact hh | exact hh.cast (by first | omega | (simp; try omega)) (by first | rfl | simp [u16v])) (show RdC w 0 w.heap.size 1 u m.length (m.map u16v) from by have hh : RdC w 0 w.heap.size 1 _ _ _ := (h2.mono (L' := 0) (B' := w.heap.size) (Nat.zero_le _) (by omega)); first | exact hh | exact hh.cast (by first | omega | (simp; try omega)) (by first | rfl | simp [u16v]))) ?_
 rintro _ w74 ⟨E75, rfl⟩
 have E75 := grown_of_below E75
 have z_w74 := E75.size
 have h := h.keep0 E75
 have h2 := h2.keep0 E75
 have hb := below_step0 hb E75 hb.size
 refine op_eql (ev_hit hN rfl) rfl (fun c8 => ?_) (fun c8 => ?_)
 · -- 8T
  refine op_assign (ev_hit hN rfl) ?_
  refine reg_nil ?_
  refine hK73 _ _ ?_
  refine wp_ret ?_
  refine ret1 rfl hd (ev_hit hN rfl) ⟨_, rfl, ?_⟩
  -- path 8T
  exact ⟨hb, congrArg Value.bool (decide_eq_true (cmpL_zero.1 c8)).symm⟩
 · -- 8F
  refine op_assign (ev_hit hN rfl) ?_
  refine reg_nil ?_
  refine hK73 _ _ ?_
  refine wp_ret ?_
  refine ret1 rfl hd (ev_hit hN rfl) ⟨_, rfl, ?_⟩
  -- path 8F
  exact ⟨hb, congrArg Value.bool (decide_eq_false (fun hh => c8 (cmpL_zero.2 hh))).symm⟩

end Go.Proofs.Ytmhdbphpmgjpcaa

/- Walks, written by a program: what each function of the translation hands back. -/
namespace Go.Proofs.Ytmhdbphpmgjpcaa
open Go.Gx Go.RowKit
attribute [local irreducible] wpList wpStill Code.wp Calls

theorem isNaN_int_ret (m : Int) (w : World) : Ret Try.prog 139 #[(Value.int .i64 m)] w (fun v' w' => v' = .bool false ∧ w' = w) := by
 have hb := Below.refl w.heap.size w
 refine enter (N := 6) Try.func139 rfl rfl (by simp) fun a0 hN hd hA => ?_
 have s0 : a0.tmps.getD 0 undef = (Value.int .i64 m) := hA 0 (by simp)
 clear hA
 refine seq_any fun K1 hK1 => ?_
 refine one_reg ?_
 refine op_assign rfl ?_
 refine reg_nil ?_
 refine hK1 _ _ ?_
 refine seq_any fun K2 hK2 => ?_
 refine one_reg ?_
 refine op_move (ev_base hN rfl s0) ?_
 refine op_move (ev_base hN rfl s0) ?_
 refine op_neq (ev_hit hN rfl) (ev_hit hN rfl) (fun c5 => ?_) (fun c5 => ?_)
 · -- 5T
  refine op_assign (ev_hit hN rfl) ?_
  refine reg_nil ?_
  refine hK2 _ _ ?_
  refine wp_ret ?_
  refine ret1 rfl hd (ev_hit hN rfl) ⟨_, rfl, ?_⟩
  -- path 5T
  exact (c5 rfl).elim
 · -- 5F
  refine op_assign (ev_hit hN rfl) ?_
  refine reg_nil ?_
  refine hK2 _ _ ?_
  refine wp_ret ?_
  refine ret1 rfl hd (ev_hit hN rfl) ⟨_, rfl, ?_⟩
  -- path 5F
  exact ⟨rfl, rfl⟩

theorem cmpCompare_int_ret (m n : Int) (w : World) : Ret Try.prog 122 #[(Value.int .i64 m), (Value.int .i64 n)] w (fun v' w' => v' = .int .i64 (cmpI m n) ∧ w' = w) := by
 have hb := Below.refl w.heap.size w
 refine enter (N := 20) Try.func122 rfl rfl (by simp) fun a0 hN hd hA => ?_
 have s0 : a0.tmps.getD 0 undef = (Value.int .i64 m) := hA 0 (by simp)
 have s1 : a0.tmps.getD 1 undef = (Value.int .i64 n) := hA 1 (by simp)
 clear hA
 refine seq_any fun K3 hK3 => ?_
 refine one_reg ?_
 refine op_assign rfl ?_
 refine reg_nil ?_
 refine hK3 _ _ ?_
 refine seq_any fun K4 hK4 => ?_
 refine one_reg ?_
 refine op_move (ev_base hN rfl s0) ?_
 refine op_fn (vs := [(Value.int .i64 m)]) ok139 ⟨(ev_hit hN rfl), trivial⟩ (Ret.flip (isNaN_int_ret m _)) ?_
 rintro _ _ ⟨rfl, rfl⟩
 refine op_assign (ev_hit hN rfl) ?_
 refine reg_nil ?_
 refine hK4 _ _ ?_
 refine seq_any fun K5 hK5 => ?_
 refine one_reg ?_
 refine op_move (ev_base hN rfl s1) ?_
 refine op_fn (vs := [(Value.int .i64 n)]) ok139 ⟨(ev_hit hN rfl), trivial⟩ (Ret.flip (isNaN_int_ret n _)) ?_
 rintro _ _ ⟨rfl, rfl⟩
 refine op_assign (ev_hit hN rfl) ?_
 refine reg_nil ?_
 refine hK5 _ _ ?_
 refine seq_any fun K6 hK6 => ?_
 refine seq_any fun K7 hK7 => ?_
 refine one_reg ?_
 refine op_move (ev_hit hN rfl) ?_
 refine reg_nil ?_
 refine hK7 _ _ ?_
 refine wp_cond_false (ev_hit hN rfl) ?_
 refine wp_skip ?_
 refine hK6 _ _ ?_
 refine seq_any fun K8 hK8 => ?_
 refine seq_any fun K9 hK9 => ?_
 refine one_reg ?_
 refine op_move (ev_hit hN rfl) ?_
 refine reg_nil ?_
 refine hK9 _ _ ?_
 refine wp_cond_false (ev_hit hN rfl) ?_
 refine wp_skip ?_
 refine hK8 _ _ ?_
 refine seq_any fun K10 hK10 => ?_
 refine seq_any fun K11 hK11 => ?_
 refine one_reg ?_
 refine op_move (ev_base hN rfl s0) ?_
 refine op_move (ev_base hN rfl s1) ?_
 refine op_lss (ev_hit hN rfl) (ev_hit hN rfl) (fun c16 => ?_) (fun c16 => ?_)
 · -- 16T
  refine reg_nil ?_
  refine hK11 _ _ ?_
  refine wp_cond_true (ev_hit hN rfl) ?_
  refine seq_any fun K12 hK12 => ?_
  refine one_reg ?_
  refine op_assign rfl ?_
  refine reg_nil ?_
  refine hK12 _ _ ?_
  refine wp_ret (then_ret ( ?_))
  refine ret1 rfl hd (ev_hit hN rfl) ⟨_, rfl, ?_⟩
  -- path 16T
  exact ⟨congrArg (Value.int .i64) (by simp only [cmpI]; (repeat' split) <;> omega), rfl⟩
 · -- 16F
  refine reg_nil ?_
  refine hK11 _ _ ?_
  refine wp_cond_false (ev_hit hN rfl) ?_
  refine wp_skip ?_
  refine hK10 _ _ ?_
  refine seq_any fun K13 hK13 => ?_
  refine seq_any fun K14 hK14 => ?_
  refine one_reg ?_
  refine op_move (ev_base hN rfl s0) ?_
  refine op_move (ev_base hN rfl s1) ?_
  refine op_gtr (ev_hit hN rfl) (ev_hit hN rfl) (fun c19 => ?_) (fun c19 => ?_)
  · -- 19T
   refine reg_nil ?_
   refine hK14 _ _ ?_
   refine wp_cond_true (ev_hit hN rfl) ?_
   refine seq_any fun K15 hK15 => ?_
   refine one_reg ?_
   refine op_assign rfl ?_
   refine reg_nil ?_
   refine hK15 _ _ ?_
   refine wp_ret (then_ret ( ?_))
   refine ret1 rfl hd (ev_hit hN rfl) ⟨_, rfl, ?_⟩
   -- path 16F 19T
   exact ⟨congrArg (Value.int .i64) (by simp only [cmpI]; (repeat' split) <;> omega), rfl⟩
  · -- 19F
   refine reg_nil ?_
   refine hK14 _ _ ?_
   refine wp_cond_false (ev_hit hN rfl) ?_
   refine wp_skip ?_
   refine hK13 _ _ ?_
   refine seq_any fun K16 hK16 => ?_
   refine one_reg ?_
   refine op_assign rfl ?_
   refine reg_nil ?_
   refine hK16 _ _ ?_
   refine wp_ret ?_
   refine ret1 rfl hd (ev_hit hN rfl) ⟨_, rfl, ?_⟩
   -- path 16F 19F
   exact ⟨congrArg (Value.int .i64) (by simp only [cmpI]; (repeat' split) <;> omega), rfl⟩

theorem Or_ret (m n : Int) (v : Value) (w : World) (hv : RdC w 0 w.heap.size 1 v 2 [(Value.int .i64 m), (Value.int .i64 n)]) : Ret Try.prog 121 #[v] w (fun v' w' => Below w.heap.size w w' ∧ v' = .int .i64 (if m = 0 then n else m)) := by
 have hb := Below.refl w.heap.size w
 refine enter (N := 18) Try.func121 rfl rfl (by simp) fun a0 hN hd hA => ?_
 have s0 : a0.tmps.getD 0 undef = v := hA 0 (by simp)
 clear hA
 refine seq_any fun K17 hK17 => ?_
 refine one_reg ?_
 refine op_assign rfl ?_
 refine reg_nil ?_
 refine hK17 _ _ ?_
 refine seq_any fun K18 hK18 => ?_
 refine one_reg ?_
 refine op_assign rfl ?_
 refine reg_nil ?_
 refine hK18 _ _ ?_
 refine seq_any fun K19 hK19 => ?_
 refine seq_any fun K20 hK20 => ?_
 refine one_reg ?_
 refine op_move (ev_base hN rfl s0) ?_
 refine op_len_rd Try.underlying35 (ev_hit hN rfl) hv ?_
 refine op_move rfl ?_
 refine reg_nil ?_
 refine hK20 _ _ ?_
 refine wp_block ?_
 refine wp_loop_rounds 3 ?_
 refine rounds_any fun K21 hK21 => ?_
 refine seq_any fun K22 hK22 => ?_
 refine one_reg ?_
 refine op_bin (v := .bool true) (ev_hit hN rfl) (ev_hit hN rfl) (by rw [binOp_lss]; rfl) ?_
 refine reg_nil ?_
 refine hK22 _ _ ?_
 refine seq_any fun K23 hK23 => ?_
 refine wp_cond_true (ev_hit hN rfl) ?_
 refine wp_skip ?_
 refine hK23 _ _ ?_
 refine seq_any fun K24 hK24 => ?_
 refine wp_block ?_
 refine seq_any fun K25 hK25 => ?_
 refine one_reg ?_
 refine op_index_rd slt35 (ev_hit hN rfl) hv (ev_hit hN rfl) (by omega) (by omega) ?_
 intro b26 o27 h0b26 h1b26 hc28
 refine op_load1 (v := (Value.int .i64 m)) one3 (ev_hit hN rfl) (by have := hc28 0 (Value.int .i64 m) (by decide) rfl; simpa using this) ?_
 refine op_assign (ev_hit hN rfl) ?_
 refine reg_nil ?_
 refine hK25 _ _ ?_
 refine seq_any fun K29 hK29 => ?_
 refine one_reg ?_
 refine op_move (ev_hit hN rfl) ?_
 refine op_move (ev_hit hN rfl) ?_
 refine op_neq (ev_hit hN rfl) (ev_hit hN rfl) (fun c14 => ?_) (fun c14 => ?_)
 · -- 14T
  refine reg_nil ?_
  refine hK29 _ _ ?_
  refine wp_cond_true (ev_hit hN rfl) ?_
  refine seq_any fun K30 hK30 => ?_
  refine one_reg ?_
  refine op_move (ev_hit hN rfl) ?_
  refine op_assign (ev_hit hN rfl) ?_
  refine reg_nil ?_
  refine hK30 _ _ ?_
  refine wp_ret (blk_ret (then_ret (then_ret (blk_ret (then_ret ( ?_))))))
  refine ret1 rfl hd (ev_hit hN rfl) ⟨_, rfl, ?_⟩
  -- path 14T
  exact ⟨hb, congrArg (Value.int .i64) (by split <;> omega)⟩
 · -- 14F
  refine reg_nil ?_
  refine hK29 _ _ ?_
  refine wp_cond_false (ev_hit hN rfl) ?_
  refine wp_skip ?_
  refine hK24 _ _ ?_
  refine one_reg ?_
  refine op_add (r := 1) (ev_hit hN rfl) rfl (by decide) ?_
  refine op_move (ev_hit hN rfl) ?_
  refine reg_nil ?_
  refine hK21 _ _ ?_
  refine rounds_any fun K31 hK31 => ?_
  refine seq_any fun K32 hK32 => ?_
  refine one_reg ?_
  refine op_bin (v := .bool true) (ev_hit hN rfl) (ev_hit hN rfl) (by rw [binOp_lss]; rfl) ?_
  refine reg_nil ?_
  refine hK32 _ _ ?_
  refine seq_any fun K33 hK33 => ?_
  refine wp_cond_true (ev_hit hN rfl) ?_
  refine wp_skip ?_
  refine hK33 _ _ ?_
  refine seq_any fun K34 hK34 => ?_
  refine wp_block ?_
  refine seq_any fun K35 hK35 => ?_
  refine one_reg ?_
  refine op_index_rd slt35 (ev_hit hN rfl) hv (ev_hit hN rfl) (by omega) (by omega) ?_
  intro b36 o37 h0b36 h1b36 hc38
  refine op_load1 (v := (Value.int .i64 n)) one3 (ev_hit hN rfl) (by have := hc38 0 (Value.int .i64 n) (by decide) rfl; simpa using this) ?_
  refine op_assign (ev_hit hN rfl) ?_
  refine reg_nil ?_
  refine hK35 _ _ ?_
  refine seq_any fun K39 hK39 => ?_
  refine one_reg ?_
  refine op_move (ev_hit hN rfl) ?_
  refine op_move (ev_hit hN rfl) ?_
  refine op_neq (ev_hit hN rfl) (ev_hit hN rfl) (fun c14 => ?_) (fun c14 => ?_)
  · -- 14T
   refine reg_nil ?_
   refine hK39 _ _ ?_
   refine wp_cond_true (ev_hit hN rfl) ?_
   refine seq_any fun K40 hK40 => ?_
   refine one_reg ?_
   refine op_move (ev_hit hN rfl) ?_
   refine op_assign (ev_hit hN rfl) ?_
   refine reg_nil ?_
   refine hK40 _ _ ?_
   refine wp_ret (blk_ret (then_ret (then_ret (blk_ret (then_ret ( ?_))))))
   refine ret1 rfl hd (ev_hit hN rfl) ⟨_, rfl, ?_⟩
   -- path 14F 14T
   exact ⟨hb, congrArg (Value.int .i64) (by split <;> omega)⟩
  · -- 14F
   refine reg_nil ?_
   refine hK39 _ _ ?_
   refine wp_cond_false (ev_hit hN rfl) ?_
   refine wp_skip ?_
   refine hK34 _ _ ?_
   refine one_reg ?_
   refine op_add (r := 2) (ev_hit hN rfl) rfl (by decide) ?_
   refine op_move (ev_hit hN rfl) ?_
   refine reg_nil ?_
   refine hK31 _ _ ?_
   refine rounds_any fun K41 hK41 => ?_
   refine seq_any fun K42 hK42 => ?_
   refine one_reg ?_
   refine op_bin (v := .bool false) (ev_hit hN rfl) (ev_hit hN rfl) (by rw [binOp_lss]; rfl) ?_
   refine reg_nil ?_
   refine hK42 _ _ ?_
   refine seq_any fun K43 hK43 => ?_
   refine wp_cond_false (ev_hit hN rfl) ?_
   refine wp_exit (then_exit (then_exit (blk_hit ?_)))
   refine hK19 _ _ ?_
   refine seq_any fun K44 hK44 => ?_
   refine one_reg ?_
   refine op_move (ev_hit hN rfl) ?_
   refine op_assign (ev_hit hN rfl) ?_
   refine reg_nil ?_
   refine hK44 _ _ ?_
   refine wp_ret ?_
   refine ret1 rfl hd (ev_hit hN rfl) ⟨_, rfl, ?_⟩
   -- path 14F 14F
   exact ⟨hb, congrArg (Value.int .i64) (by split <;> omega)⟩

theorem cmp16_ret (x y : UInt16) (w : World) : Ret Try.prog 140 #[(Value.int .u16 (x.toNat : Int)), (Value.int .u16 (y.toNat : Int))] w (fun v' w' => v' = .int .i64 (cmpI (x.toNat : Int) (y.toNat : Int)) ∧ w' = w) := by
 have hb := Below.refl w.heap.size w
 refine enter (N := 20) Try.func140 rfl rfl (by simp) fun a0 hN hd hA => ?_
 have s0 : a0.tmps.getD 0 undef = (Value.int .u16 (x.toNat : Int)) := hA 0 (by simp)
 have s1 : a0.tmps.getD 1 undef = (Value.int .u16 (y.toNat : Int)) := hA 1 (by simp)
 clear hA
 refine seq_any fun K45 hK45 => ?_
 refine one_reg ?_
 refine op_assign rfl ?_
 refine reg_nil ?_
 refine hK45 _ _ ?_
 refine seq_any fun K46 hK46 => ?_
 refine one_reg ?_
 refine op_move (ev_base hN rfl s0) ?_
 refine op_fn (vs := [(Value.int .u16 (x.toNat : Int))]) ok151 ⟨(ev_hit hN rfl), trivial⟩ (Ret.flip (isNaN16_ret x _)) ?_
 rintro _ _ ⟨rfl, rfl⟩
 refine op_assign (ev_hit hN rfl) ?_
 refine reg_nil ?_
 refine hK46 _ _ ?_
 refine seq_any fun K47 hK47 => ?_
 refine one_reg ?_
 refine op_move (ev_base hN rfl s1) ?_
 refine op_fn (vs := [(Value.int .u16 (y.toNat : Int))]) ok151 ⟨(ev_hit hN rfl), trivial⟩ (Ret.flip (isNaN16_ret y _)) ?_
 rintro _ _ ⟨rfl, rfl⟩
 refine op_assign (ev_hit hN rfl) ?_
 refine reg_nil ?_
 refine hK47 _ _ ?_
 refine seq_any fun K48 hK48 => ?_
 refine seq_any fun K49 hK49 => ?_
 refine one_reg ?_
 refine op_move (ev_hit hN rfl) ?_
 refine reg_nil ?_
 refine hK49 _ _ ?_
 refine wp_cond_false (ev_hit hN rfl) ?_
 refine wp_skip ?_
 refine hK48 _ _ ?_
 refine seq_any fun K50 hK50 => ?_
 refine seq_any fun K51 hK51 => ?_
 refine one_reg ?_
 refine op_move (ev_hit hN rfl) ?_
 refine reg_nil ?_
 refine hK51 _ _ ?_
 refine wp_cond_false (ev_hit hN rfl) ?_
 refine wp_skip ?_
 refine hK50 _ _ ?_
 refine seq_any fun K52 hK52 => ?_
 refine seq_any fun K53 hK53 => ?_
 refine one_reg ?_
 refine op_move (ev_base hN rfl s0) ?_
 refine op_move (ev_base hN rfl s1) ?_
 refine op_lss (ev_hit hN rfl) (ev_hit hN rfl) (fun c16 => ?_) (fun c16 => ?_)
 · -- 16T
  refine reg_nil ?_
  refine hK53 _ _ ?_
  refine wp_cond_true (ev_hit hN rfl) ?_
  refine seq_any fun K54 hK54 => ?_
  refine one_reg ?_
  refine op_assign rfl ?_
  refine reg_nil ?_
  refine hK54 _ _ ?_
  refine wp_ret (then_ret ( ?_))
  refine ret1 rfl hd (ev_hit hN rfl) ⟨_, rfl, ?_⟩
  -- path 16T
  exact ⟨congrArg (Value.int .i64) (by simp only [cmpI]; (repeat' split) <;> omega), rfl⟩
 · -- 16F
  refine reg_nil ?_
  refine hK53 _ _ ?_
  refine wp_cond_false (ev_hit hN rfl) ?_
  refine wp_skip ?_
  refine hK52 _ _ ?_
  refine seq_any fun K55 hK55 => ?_
  refine seq_any fun K56 hK56 => ?_
  refine one_reg ?_
  refine op_move (ev_base hN rfl s0) ?_
  refine op_move (ev_base hN rfl s1) ?_
  refine op_gtr (ev_hit hN rfl) (ev_hit hN rfl) (fun c19 => ?_) (fun c19 => ?_)
  · -- 19T
   refine reg_nil ?_
   refine hK56 _ _ ?_
   refine wp_cond_true (ev_hit hN rfl) ?_
   refine seq_any fun K57 hK57 => ?_
   refine one_reg ?_
   refine op_assign rfl ?_
   refine reg_nil ?_
   refine hK57 _ _ ?_
   refine wp_ret (then_ret ( ?_))
   refine ret1 rfl hd (ev_hit hN rfl) ⟨_, rfl, ?_⟩
   -- path 16F 19T
   exact ⟨congrArg (Value.int .i64) (by simp only [cmpI]; (repeat' split) <;> omega), rfl⟩
  · -- 19F
   refine reg_nil ?_
   refine hK56 _ _ ?_
   refine wp_cond_false (ev_hit hN rfl) ?_
   refine wp_skip ?_
   refine hK55 _ _ ?_
   refine seq_any fun K58 hK58 => ?_
   refine one_reg ?_
   refine op_assign rfl ?_
   refine reg_nil ?_
   refine hK58 _ _ ?_
   refine wp_ret ?_
   refine ret1 rfl hd (ev_hit hN rfl) ⟨_, rfl, ?_⟩
   -- path 16F 19F
   exact ⟨congrArg (Value.int .i64) (by simp only [cmpI]; (repeat' split) <;> omega), rfl⟩

theorem scmpW_ret (l m : Lb) (v u : Value) (w : World) (hl2 : l.length ≤ 1000000000000) (hm2 : m.length ≤ 1000000000000) (hl : RdC w 0 w.heap.size 1 v l.length (l.map u16v)) (hm : RdC w 0 w.heap.size 1 u m.length (m.map u16v)) : Ret Try.prog 123 #[v, u] w (fun v' w' => Below w.heap.size w w' ∧ v' = .int .i64 (cmpG l m)) := by
 have hb := Below.refl w.heap.size w
 refine enter (N := 36) Try.func123 rfl rfl (by simp) fun a0 hN hd hA => ?_
 have s0 : a0.tmps.getD 0 undef = v := hA 0 (by simp)
 have s1 : a0.tmps.getD 1 undef = u := hA 1 (by simp)
 clear hA
 refine seq_any fun K59 hK59 => ?_
 refine one_reg ?_
 refine op_assign rfl ?_
 refine reg_nil ?_
 refine hK59 _ _ ?_
 refine seq_any fun K60 hK60 => ?_
 refine seq_any fun K61 hK61 => ?_
 refine one_reg ?_
 refine op_move (ev_base hN rfl s0) ?_
 refine op_len_rd Try.underlying54 (ev_hit hN rfl) hl ?_
 refine op_move rfl ?_
 refine reg_nil ?_
 refine hK61 _ _ ?_
 refine wp_block ?_
 refine loop_m (fun mz_ az_ w' => ∃ (i : Nat), mz_ = l.length - i ∧ (az_.tmps.getD 0 undef = v) ∧ (az_.tmps.getD 1 undef = u) ∧ (az_.tmps.getD 9 undef = v) ∧ (az_.tmps.getD 10 undef = (Value.int .i64 ((l.length : Nat) : Int))) ∧ (az_.tmps.getD 11 undef = (Value.int .i64 ((i : Nat) : Int))) ∧ (i ≤ l.length) ∧ (cmpG l m = cmpG (l.drop i) (m.drop i)) ∧ (Below w.heap.size w w') ∧ (w.heap.size ≤ w'.heap.size) ∧ (RdC w' 0 w.heap.size 1 v l.length (l.map u16v)) ∧ (RdC w' 0 w.heap.size 1 u m.length (m.map u16v))) _ hN hd ⟨0, rfl, (sl_base hN rfl s0), (sl_base hN rfl s1), (sl_hit hN rfl), (sl_hit hN rfl), (sl_hit hN rfl), Nat.zero_le _, rfl, hb, (Nat.le_refl _), hl, hm⟩ ?_
 rintro _ a62 w62 hN62 hd62 ⟨i, rfl, s62_0, s62_1, s62_9, s62_10, s62_11, hi, he, hb, zl_w62, hl, hm⟩
 have z_w62 := hb.size
 refine seq_any fun K63 hK63 => ?_
 refine one_reg ?_
 refine op_lss (ev_base hN62 rfl s62_11) (ev_base hN62 rfl s62_10) (fun c12 => ?_) (fun c12 => ?_)
 · -- 12T
  refine reg_nil ?_
  refine hK63 _ _ ?_
  refine seq_any fun K64 hK64 => ?_
  refine wp_cond_true (ev_hit hN62 rfl) ?_
  refine wp_skip ?_
  refine hK64 _ _ ?_
  refine seq_any fun K65 hK65 => ?_
  refine wp_block ?_
  refine seq_any fun K66 hK66 => ?_
  refine one_reg ?_
  refine op_move (ev_base hN62 rfl s62_11) ?_
  refine op_index_rd slt54 (ev_base hN62 rfl s62_9) hl (ev_base hN62 rfl s62_11) (by omega) (by omega) ?_
  intro b67 o68 h0b67 h1b67 hc69
  refine op_load1 (v := (Value.int .u16 ((l.getD i 0).toNat : Int))) one46 (ev_hit hN62 rfl) (by have := hc69 0 (Value.int .u16 ((l.getD i 0).toNat : Int)) (by decide) (el_u16 (i := i) (by omega) (by omega)); simpa using this) ?_
  refine op_assign (ev_hit hN62 rfl) ?_
  refine op_assign (ev_hit hN62 rfl) ?_
  refine reg_nil ?_
  refine hK66 _ _ ?_
  refine seq_any fun K70 hK70 => ?_
  refine seq_any fun K71 hK71 => ?_
  refine one_reg ?_
  refine op_move (ev_hit hN62 rfl) ?_
  refine op_move (ev_base hN62 rfl s62_1) ?_
  refine op_len_rd Try.underlying54 (ev_hit hN62 rfl) hm ?_
  refine op_geq (ev_hit hN62 rfl) (ev_hit hN62 rfl) (fun c19 => ?_) (fun c19 => ?_)
  · -- 19T
   refine reg_nil ?_
   refine hK71 _ _ ?_
   refine wp_cond_true (ev_hit hN62 rfl) ?_
   refine seq_any fun K72 hK72 => ?_
   refine one_reg ?_
   refine op_assign rfl ?_
   refine reg_nil ?_
   refine hK72 _ _ ?_
   refine wp_ret (then_ret (blk_ret (then_ret (then_ret (blk_ret (then_ret ( ?_)))))))
   refine ret1 rfl hd62 (ev_hit hN62 rfl) ⟨_, rfl, ?_⟩
   -- path 12T 19T
   exact ⟨hb, congrArg (Value.int .i64) (by rw [he, cmpG_gt (by omega) (by omega)])⟩
  · -- 19F
   refine reg_nil ?_
   refine hK71 _ _ ?_
   refine wp_cond_false (ev_hit hN62 rfl) ?_
   refine wp_skip ?_
   refine hK70 _ _ ?_
   refine seq_any fun K73 hK73 => ?_
   refine one_reg ?_
   refine op_move (ev_base hN62 rfl s62_1) ?_
   refine op_move (ev_hit hN62 rfl) ?_
   refine op_index_rd slt54 (ev_hit hN62 rfl) hm (ev_hit hN62 rfl) (by omega) (by omega) ?_
   intro b74 o75 h0b74 h1b74 hc76
   refine op_load1 (v := (Value.int .u16 ((m.getD i 0).toNat : Int))) one46 (ev_hit hN62 rfl) (by have := hc76 0 (Value.int .u16 ((m.getD i 0).toNat : Int)) (by decide) (el_u16 (i := i) (by omega) (by omega)); simpa using this) ?_
   refine op_assign (ev_hit hN62 rfl) ?_
   refine reg_nil ?_
   refine hK73 _ _ ?_
   refine seq_any fun K77 hK77 => ?_
   refine one_reg ?_
   refine op_move (ev_hit hN62 rfl) ?_
   refine op_move (ev_hit hN62 rfl) ?_
   refine op_fn (vs := [(Value.int .u16 ((l.getD i 0).toNat : Int)), (Value.int .u16 ((m.getD i 0).toNat : Int))]) ok140 ⟨(ev_hit hN62 rfl), ⟨(ev_hit hN62 rfl), trivial⟩⟩ (Ret.flip (cmp16_ret (l.getD i 0) (m.getD i 0) _)) ?_
   rintro _ _ ⟨rfl, rfl⟩
   refine op_assign (ev_hit hN62 rfl) ?_
   refine reg_nil ?_
   refine hK77 _ _ ?_
   refine seq_any fun K78 hK78 => ?_
   refine one_reg ?_
   refine op_move (ev_hit hN62 rfl) ?_
   refine op_neq (ev_hit hN62 rfl) rfl (fun c28 => ?_) (fun c28 => ?_)
   · -- 28T
    refine reg_nil ?_
    refine hK78 _ _ ?_
    refine wp_cond_true (ev_hit hN62 rfl) ?_
    refine seq_any fun K79 hK79 => ?_
    refine one_reg ?_
    refine op_move (ev_hit hN62 rfl) ?_
    refine op_assign (ev_hit hN62 rfl) ?_
    refine reg_nil ?_
    refine hK79 _ _ ?_
    refine wp_ret (blk_ret (then_ret (then_ret (blk_ret (then_ret ( ?_))))))
    refine ret1 rfl hd62 (ev_hit hN62 rfl) ⟨_, rfl, ?_⟩
    -- path 12T 19F 28T
    exact ⟨hb, congrArg (Value.int .i64) (by rw [he, cmpG_step (by omega) (by omega)]; simp only [cmpI] at c28 ⊢; (repeat' split) <;> (first | rfl | omega | (simp_all; done) | (exfalso; simp_all; omega)))⟩
   · -- 28F
    refine reg_nil ?_
    refine hK78 _ _ ?_
    refine wp_cond_false (ev_hit hN62 rfl) ?_
    refine wp_skip ?_
    refine hK65 _ _ ?_
    refine one_reg ?_
    refine op_add (ev_base hN62 rfl s62_11) rfl (add64 (by omega)) ?_
    refine op_move (ev_hit hN62 rfl) ?_
    refine reg_nil ?_
    -- round 12T 19F 28F
    exact loop_next _ hN62 hd62 ⟨i + 1, rfl, (sl_base hN62 rfl s62_0), (sl_base hN62 rfl s62_1), (sl_base hN62 rfl s62_9), (sl_base hN62 rfl s62_10), (sl_hit hN62 rfl).trans (congrArg (Value.int .i64) (by omega)), (by omega), (he.trans ((cmpG_step (by omega) (by omega)).trans (by simp only [cmpI] at c28; (repeat' split at c28) <;> (first | omega | (rw [if_neg (by omega), if_neg (by omega)]))))), hb, (by omega), hl, hm⟩ (by omega)
 · -- 12F
  refine reg_nil ?_
  refine hK63 _ _ ?_
  refine seq_any fun K80 hK80 => ?_
  refine wp_cond_false (ev_hit hN62 rfl) ?_
  refine wp_exit (then_exit (then_exit (blk_hit ?_)))
  refine hK60 _ _ ?_
  refine seq_any fun K81 hK81 => ?_
  refine seq_any fun K82 hK82 => ?_
  refine one_reg ?_
  refine op_move (ev_base hN62 rfl s62_0) ?_
  refine op_len_rd Try.underlying54 (ev_hit hN62 rfl) hl ?_
  refine op_move (ev_base hN62 rfl s62_1) ?_
  refine op_len_rd Try.underlying54 (ev_hit hN62 rfl) hm ?_
  refine op_lss (ev_hit hN62 rfl) (ev_hit hN62 rfl) (fun c35 => ?_) (fun c35 => ?_)
  · -- 35T
   refine reg_nil ?_
   refine hK82 _ _ ?_
   refine wp_cond_true (ev_hit hN62 rfl) ?_
   refine seq_any fun K83 hK83 => ?_
   refine one_reg ?_
   refine op_assign rfl ?_
   refine reg_nil ?_
   refine hK83 _ _ ?_
   refine wp_ret (then_ret ( ?_))
   refine ret1 rfl hd62 (ev_hit hN62 rfl) ⟨_, rfl, ?_⟩
   -- path 12F 35T
   exact ⟨hb, congrArg (Value.int .i64) (by rw [he, cmpG_lt (by omega) (by omega)])⟩
  · -- 35F
   refine reg_nil ?_
   refine hK82 _ _ ?_
   refine wp_cond_false (ev_hit hN62 rfl) ?_
   refine wp_skip ?_
   refine hK81 _ _ ?_
   refine seq_any fun K84 hK84 => ?_
   refine one_reg ?_
   refine op_assign rfl ?_
   refine reg_nil ?_
   refine hK84 _ _ ?_
   refine wp_ret ?_
   refine ret1 rfl hd62 (ev_hit hN62 rfl) ⟨_, rfl, ?_⟩
   -- path 12F 35F
   exact ⟨hb, congrArg (Value.int .i64) (by rw [he, cmpG_end (by omega) (by omega)])⟩

theorem lcmpW_ret (l m : Lb) (v u : Value) (w : World) (hl2 : l.length ≤ 1000000000000) (hm2 : m.length ≤ 1000000000000) (hl : RdC w 0 w.heap.size 1 v l.length (l.map u16v)) (hm : RdC w 0 w.heap.size 1 u m.length (m.map u16v)) : Ret Try.prog 98 #[v, u] w (fun v' w' => Below w.heap.size w w' ∧ v' = .int .i64 (cmpL l m)) := by
 have hb := Below.refl w.heap.size w
 refine enter (N := 15) Try.func98 rfl rfl (by simp) fun a0 hN hd hA => ?_
 have s0 : a0.tmps.getD 0 undef = v := hA 0 (by simp)
 have s1 : a0.tmps.getD 1 undef = u := hA 1 (by simp)
 clear hA
 refine seq_any fun K85 hK85 => ?_
 refine one_reg ?_
 refine op_assign rfl ?_
 refine reg_nil ?_
 refine hK85 _ _ ?_
 refine seq_any fun K86 hK86 => ?_
 refine one_reg ?_
 refine op_move (ev_base hN rfl s0) ?_
 refine op_len_rd Try.underlying54 (ev_hit hN rfl) hl ?_
 refine op_move (ev_base hN rfl s1) ?_
 refine op_len_rd Try.underlying54 (ev_hit hN rfl) hm ?_
 refine op_fn (vs := [(Value.int .i64 ((l.length : Nat) : Int)), (Value.int .i64 ((m.length : Nat) : Int))]) ok122 ⟨(ev_hit hN rfl), ⟨(ev_hit hN rfl), trivial⟩⟩ (Ret.flip (cmpCompare_int_ret ((l.length : Nat) : Int) ((m.length : Nat) : Int) _)) ?_
 rintro _ _ ⟨rfl, rfl⟩
 refine op_move (ev_base hN rfl s0) ?_
 refine op_move (ev_base hN rfl s1) ?_
 refine op_fn (vs := [v, u]) ok123 ⟨(ev_hit hN rfl), ⟨(ev_hit hN rfl), trivial⟩⟩ (scmpW_ret l m _ _ _ (by first | assumption | omega | (simp only [List.length_append, List.length_cons, List.length_nil, List.length_drop, List.length_take]; omega) | (dsimp only; omega) | decide | (simp [keyV, be8_len]; done)) (by first | assumption | omega | (simp only [List.length_append, List.length_cons, List.length_nil, List.length_drop, List.length_take]; omega) | (dsimp only; omega) | decide | (simp [keyV, be8_len]; done)) (show RdC w 0 w.heap.size 1 v l.length (l.map u16v) from by have hh : RdC w 0 w.heap.size 1 _ _ _ := (hl.mono (L' := 0) (B' := w.heap.size) (Nat.zero_le _) (by omega)); first | exact hh | exact hh.cast (by first | omega | (simp; try omega)) (by first | rfl | simp [u16v])) (show RdC w 0 w.heap.size 1 u m.length (m.map u16v) from by have hh : RdC w 0 w.heap.size 1 _ _ _ := (hm.mono (L' := 0) (B' := w.heap.size) (Nat.zero_le _) (by omega)); first | exact hh | exact hh.cast (by first | omega | (simp; try omega)) (by first | rfl | simp [u16v]))) ?_
 rintro _ w87 ⟨E88, rfl⟩
 have E88 := grown_of_below E88
 have z_w87 := E88.size
 have hl := hl.keep0 E88
 have hm := hm.keep0 E88
 have hb := below_step0 hb E88 hb.size
 refine op_bslice (e := 3) (pv := [(0, (Value.int .i64 (cmpI ((l.length : Nat) : Int) ((m.length : Nat) : Int)))), (1, (Value.int .i64 (cmpG l m)))]) (cs := [(Value.int .i64 (cmpI ((l.length : Nat) : Int) ((m.length : Nat) : Int))), (Value.int .i64 (cmpG l m))]) ⟨rfl, (ev_hit hN rfl), ⟨rfl, (ev_hit hN rfl), trivial⟩⟩ (by kernel_rfl) ?_
 intro w89 b90 lo_b90 hi_b90 hB92 E91
 have z_w89 := E91.size
 have hl := hl.keep0 E91
 have hm := hm.keep0 E91
 have hb := below_step0 hb E91 hb.size
 refine op_fn (vs := [(Value.slice (some ⟨b90, 0, none⟩) 2 2)]) ok121 ⟨(ev_hit hN rfl), trivial⟩ (Or_ret (cmpI ((l.length : Nat) : Int) ((m.length : Nat) : Int)) (cmpG l m) _ _ ((RdC.ofBx (sz := 1) (n := 2) hB92 rfl (by decide)).mono (Nat.zero_le _) (by have := hB92.lt; omega))) ?_
 rintro _ w93 ⟨E94, rfl⟩
 have E94 := grown_of_below E94
 have z_w93 := E94.size
 have hl := hl.keep0 E94
 have hm := hm.keep0 E94
 have hB92 := hB92.keep0 E94
 have hb := below_step0 hb E94 hb.size
 refine op_assign (ev_hit hN rfl) ?_
 refine reg_nil ?_
 refine hK86 _ _ ?_
 refine wp_ret ?_
 refine ret1 rfl hd (ev_hit hN rfl) ⟨_, rfl, ?_⟩
 -- path
 exact ⟨hb, congrArg (Value.int .i64) cmpL_or⟩

end Go.Proofs.Ytmhdbphpmgjpcaa

/- Walks, written by a program: what each function of the translation hands back. -/
namespace Go.Proofs.Ytmhdbphpmgjpcaa
open Go.Gx Go.RowKit
attribute [local irreducible] wpList wpStill Code.wp Calls

theorem hasS {base p : Nat} {la rv wv : Value} {lab : List UInt16} {stp : Int} {D : List RD} {Wr : List (List UInt8)} {dm : Bool} {p9 : List UInt8 → Bool} {w : World} (hbase : base ≤ w.heap.size) (hx : Bx w p 164 [la, .int .u64 stp, rv, wv, .bool dm]) (hLa : Own w base 46 1 la lab.length (lab.map u16v)) (hR : Own w base 169 2 rv D.length (D.flatMap cellsRd)) (hD : ∀ x9 ∈ D.map rdL, Own w base 46 1 x9.1 x9.2.length (x9.2.map u16v)) (hW : Own w base 9 1 wv Wr.length (Wr.map sv)) (h8 : lab.length ≤ 8 ∧ ∀ r ∈ D, r.lab.length ≤ 8) {g : Nat} {fs cs : List Value} (hokg : callOk Try.prog g = true) (hf : ∀ i, i < Wr.length → ∀ w1, Below w.heap.size w w1 → Ret Try.prog g (fs ++ [Value.string (bs (Wr.getD i []))] ++ cs).toArray w1 (fun v' w' => Below w1.heap.size w1 w' ∧ v' = .bool (p9 (Wr.getD i [])))) : Ret Try.prog 107 #[(ptr p 3), (Value.func (.func g) fs.toArray cs.toArray)] w (fun v' w' => Below w.heap.size w w' ∧ v' = .bool (Wr.any p9)) := by
 have hb := Below.refl w.heap.size w
 refine enter (N := 11) Try.func107 rfl rfl (by simp) fun a0 hN hd hA => ?_
 have s0 : a0.tmps.getD 0 undef = (ptr p 3) := hA 0 (by simp)
 have s1 : a0.tmps.getD 1 undef = (Value.func (.func g) fs.toArray cs.toArray) := hA 1 (by simp)
 clear hA
 refine seq_any fun K1 hK1 => ?_
 refine one_reg ?_
 refine op_assign rfl ?_
 refine reg_nil ?_
 refine hK1 _ _ ?_
 refine seq_any fun K2 hK2 => ?_
 refine one_reg ?_
 refine op_move (ev_base hN rfl s0) ?_
 refine op_nil (ev_hit hN rfl) ?_
 refine op_field fld162_0 (ev_hit hN rfl) ?_
 refine op_load1 (v := wv) one26 (ev_hit hN rfl) (hx.cell rfl) ?_
 refine op_move (ev_base hN rfl s1) ?_
 refine op_fn (vs := [wv, (Value.func (.func g) fs.toArray cs.toArray)]) ok124 ⟨(ev_hit hN rfl), ⟨(ev_hit hN rfl), trivial⟩⟩ (ContF_s (p := p9) (hW.rdw.mono (Nat.zero_le _) (by omega)) hokg (fun i hi w1 E => hf i hi w1 (below_step0 hb (grown_of_below E) hb.size))) ?_
 rintro _ w3 ⟨E4, rfl⟩
 have E4 := grown_of_below E4
 have z_w3 := E4.size
 have hx := hx.keep0 E4
 have hLa := hLa.keep0 E4
 have hR := hR.keep0 E4
 have hD : ∀ x9 ∈ (D.map rdL), Own w3 base 46 1 x9.1 x9.2.length (x9.2.map u16v) := fun x9 hx9 => (hD x9 hx9).keep0 E4
 have hW := hW.keep0 E4
 have hb := below_step0 hb E4 hb.size
 refine op_assign (ev_hit hN rfl) ?_
 refine reg_nil ?_
 refine hK2 _ _ ?_
 refine wp_ret ?_
 refine ret1 rfl hd (ev_hit hN rfl) ⟨_, rfl, ?_⟩
 -- path
 exact ⟨hb, rfl⟩

theorem hasR {base p : Nat} {la rv wv : Value} {lab : List UInt16} {stp : Int} {D : List RD} {Wr : List (List UInt8)} {dm : Bool} {p9 : RD → Bool} {w : World} (hbase : base ≤ w.heap.size) (hx : Bx w p 164 [la, .int .u64 stp, rv, wv, .bool dm]) (hLa : Own w base 46 1 la lab.length (lab.map u16v)) (hR : Own w base 169 2 rv D.length (D.flatMap cellsRd)) (hD : ∀ x9 ∈ D.map rdL, Own w base 46 1 x9.1 x9.2.length (x9.2.map u16v)) (hW : Own w base 9 1 wv Wr.length (Wr.map sv)) (h8 : lab.length ≤ 8 ∧ ∀ r ∈ D, r.lab.length ≤ 8) {g : Nat} {fs cs : List Value} (hokg : callOk Try.prog g = true) (hf : ∀ i, i < D.length → ∀ w1, Below w.heap.size w w1 → Ret Try.prog g (fs ++ [Value.agg #[.string (bs (D.getD i default).tab), (D.getD i default).la]] ++ cs).toArray w1 (fun v' w' => Below w1.heap.size w1 w' ∧ v' = .bool (p9 (D.getD i default)))) : Ret Try.prog 130 #[(ptr p 2), (Value.func (.func g) fs.toArray cs.toArray)] w (fun v' w' => Below w.heap.size w w' ∧ v' = .bool (D.any p9)) := by
 have hb := Below.refl w.heap.size w
 refine enter (N := 11) Try.func130 rfl rfl (by simp) fun a0 hN hd hA => ?_
 have s0 : a0.tmps.getD 0 undef = (ptr p 2) := hA 0 (by simp)
 have s1 : a0.tmps.getD 1 undef = (Value.func (.func g) fs.toArray cs.toArray) := hA 1 (by simp)
 clear hA
 refine seq_any fun K5 hK5 => ?_
 refine one_reg ?_
 refine op_assign rfl ?_
 refine reg_nil ?_
 refine hK5 _ _ ?_
 refine seq_any fun K6 hK6 => ?_
 refine one_reg ?_
 refine op_move (ev_base hN rfl s0) ?_
 refine op_nil (ev_hit hN rfl) ?_
 refine op_field fld160_0 (ev_hit hN rfl) ?_
 refine op_load1 (v := rv) one158 (ev_hit hN rfl) (hx.cell rfl) ?_
 refine op_move (ev_base hN rfl s1) ?_
 refine op_fn (vs := [rv, (Value.func (.func g) fs.toArray cs.toArray)]) ok126 ⟨(ev_hit hN rfl), ⟨(ev_hit hN rfl), trivial⟩⟩ (ContF_r (p := p9) (hR.rdw.mono (Nat.zero_le _) (by omega)) hokg (fun i hi w1 E => hf i hi w1 (below_step0 hb (grown_of_below E) hb.size))) ?_
 rintro _ w7 ⟨E8, rfl⟩
 have E8 := grown_of_below E8
 have z_w7 := E8.size
 have hx := hx.keep0 E8
 have hLa := hLa.keep0 E8
 have hR := hR.keep0 E8
 have hD : ∀ x9 ∈ (D.map rdL), Own w7 base 46 1 x9.1 x9.2.length (x9.2.map u16v) := fun x9 hx9 => (hD x9 hx9).keep0 E8
 have hW := hW.keep0 E8
 have hb := below_step0 hb E8 hb.size
 refine op_assign (ev_hit hN rfl) ?_
 refine reg_nil ?_
 refine hK6 _ _ ?_
 refine wp_ret ?_
 refine ret1 rfl hd (ev_hit hN rfl) ⟨_, rfl, ?_⟩
 -- path
 exact ⟨hb, rfl⟩

theorem writ1 {x y : List UInt8} {tb : Nat} {w : World} (hb9 : Bx w tb 9 [.string (bs x)]) : Ret Try.prog 142 #[(Value.string (bs y)), (ptr tb 0)] w (fun v' w' => Below w.heap.size w w' ∧ v' = .bool (decide (y = x))) := by
 have hb := Below.refl w.heap.size w
 refine enter (N := 7) Try.func142 rfl rfl (by simp) fun a0 hN hd hA => ?_
 have s0 : a0.tmps.getD 0 undef = (Value.string (bs y)) := hA 0 (by simp)
 have s1 : a0.tmps.getD 1 undef = (ptr tb 0) := hA 1 (by simp)
 clear hA
 refine seq_any fun K9 hK9 => ?_
 refine one_reg ?_
 refine op_assign rfl ?_
 refine reg_nil ?_
 refine hK9 _ _ ?_
 refine seq_any fun K10 hK10 => ?_
 refine one_reg ?_
 refine op_move (ev_base hN rfl s0) ?_
 refine op_load1 (v := (Value.string (bs x))) one9 (ev_base hN rfl s1) (hb9.cell rfl) ?_
 refine op_seql (ev_hit hN rfl) (ev_hit hN rfl) (fun c6 => ?_) (fun c6 => ?_)
 · -- 6T
  refine op_assign (ev_hit hN rfl) ?_
  refine reg_nil ?_
  refine hK10 _ _ ?_
  refine wp_ret ?_
  refine ret1 rfl hd (ev_hit hN rfl) ⟨_, rfl, ?_⟩
  -- path 6T
  exact ⟨hb, congrArg Value.bool (decide_eq_true c6).symm⟩
 · -- 6F
  refine op_assign (ev_hit hN rfl) ?_
  refine reg_nil ?_
  refine hK10 _ _ ?_
  refine wp_ret ?_
  refine ret1 rfl hd (ev_hit hN rfl) ⟨_, rfl, ?_⟩
  -- path 6F
  exact ⟨hb, congrArg Value.bool (decide_eq_false c6).symm⟩

theorem covers1 {x : List UInt8} {l : List UInt16} {lv : Value} {r : RD} {tb lb : Nat} {w : World} (hb9 : Bx w tb 9 [.string (bs x)]) (hb54 : Bx w lb 54 [lv]) (hl : RdC w 0 w.heap.size 1 lv l.length (l.map u16v)) (hr : RdC w 0 w.heap.size 1 r.la r.lab.length (r.lab.map u16v)) (hl8 : l.length ≤ 8) (hr8 : r.lab.length ≤ 8) : Ret Try.prog 131 #[(Value.agg #[(Value.string (bs r.tab)), r.la]), (ptr tb 0), (ptr lb 0)] w (fun v' w' => Below w.heap.size w w' ∧ v' = .bool (decide (r.tab = x) && flowsL l r.lab)) := by
 have hb := Below.refl w.heap.size w
 refine enter (N := 15) Try.func131 rfl rfl (by simp) fun a0 hN hd hA => ?_
 have s0 : a0.tmps.getD 0 undef = (Value.agg #[(Value.string (bs r.tab)), r.la]) := hA 0 (by simp)
 have s1 : a0.tmps.getD 1 undef = (ptr tb 0) := hA 1 (by simp)
 have s2 : a0.tmps.getD 2 undef = (ptr lb 0) := hA 2 (by simp)
 clear hA
 refine seq_any fun K11 hK11 => ?_
 refine one_reg ?_
 refine op_box (cs := [(Value.string (bs r.tab)), r.la]) (ev_base hN rfl s0) rfl ?_
 intro w12 b13 lo_b13 hi_b13 hB15 E14
 have z_w12 := E14.size
 have hb9 := hb9.keep0 E14
 have hb54 := hb54.keep0 E14
 have hl := hl.keep0 E14
 have hr := hr.keep0 E14
 have hb := below_step0 hb E14 hb.size
 refine op_assign rfl ?_
 refine reg_nil ?_
 refine hK11 _ _ ?_
 refine seq_any fun K16 hK16 => ?_
 refine one_reg ?_
 refine op_field fld169_0 (ev_hit hN rfl) ?_
 refine op_load1 (v := (Value.string (bs r.tab))) one9 (ev_hit hN rfl) (hB15.cell rfl) ?_
 refine op_load1 (v := (Value.string (bs x))) one9 (ev_base hN rfl s1) (hb9.cell rfl) ?_
 refine op_seql (ev_hit hN rfl) (ev_hit hN rfl) (fun c8 => ?_) (fun c8 => ?_)
 · -- 8T
  refine op_move (ev_hit hN rfl) ?_
  refine g_true (j := 4) (dj := 9) (b := true) rfl rfl rfl (ev_hit hN rfl) ?_
  refine op_load1 (v := lv) one54 (ev_base hN rfl s2) (hb54.cell rfl) ?_
  refine g_true (j := 4) (dj := 9) (b := true) rfl rfl rfl (ev_hit hN rfl) ?_
  refine op_field fld169_1 (ev_hit hN rfl) ?_
  refine g_true (j := 4) (dj := 9) (b := true) rfl rfl rfl (ev_hit hN rfl) ?_
  refine op_load1 (v := r.la) one54 (ev_hit hN rfl) (hB15.cell rfl) ?_
  refine g_true (j := 4) (dj := 9) (b := true) rfl rfl rfl (ev_hit hN rfl) ?_
  refine op_fn (vs := [lv, r.la]) ok106 ⟨(ev_hit hN rfl), ⟨(ev_hit hN rfl), trivial⟩⟩ (flowsW_ret l r.lab _ _ _ (by first | assumption | omega | (simp only [List.length_append, List.length_cons, List.length_nil, List.length_drop, List.length_take]; omega) | (dsimp only; omega) | decide | (simp [keyV, be8_len]; done)) (by first | assumption | omega | (simp only [List.length_append, List.length_cons, List.length_nil, List.length_drop, List.length_take]; omega) | (dsimp only; omega) | decide | (simp [keyV, be8_len]; done)) (show RdC w12 0 w12.heap.size 1 lv l.length (l.map u16v) from by have hh : RdC w12 0 w12.heap.size 1 _ _ _ := (hl.mono (L' := 0) (B' := w12.heap.size) (Nat.zero_le _) (by omega)); first | exact hh | exact hh.cast (by first | omega | (simp; try omega)) (by first | rfl | simp [u16v])) (show RdC w12 0 w12.heap.size 1 r.la r.lab.length (r.lab.map u16v) from by have hh : RdC w12 0 w12.heap.size 1 _ _ _ := (hr.mono (L' := 0) (B' := w12.heap.size) (Nat.zero_le _) (by omega)); first | exact hh | exact hh.cast (by first | omega | (simp; try omega)) (by first | rfl | simp [u16v]))) ?_
  rintro _ w17 ⟨E18, rfl⟩
  have E18 := grown_of_below E18
  have z_w17 := E18.size
  have hb9 := hb9.keep0 E18
  have hb54 := hb54.keep0 E18
  have hl := hl.keep0 E18
  have hr := hr.keep0 E18
  have hB15 := hB15.keep0 E18
  have hb := below_step0 hb E18 hb.size
  refine op_pick_t (ev_hit hN rfl) (ev_hit hN rfl) ?_
  refine op_assign (ev_hit hN rfl) ?_
  refine reg_nil ?_
  refine hK16 _ _ ?_
  refine wp_ret ?_
  refine ret1 rfl hd (ev_hit hN rfl) ⟨_, rfl, ?_⟩
  -- path 8T
  exact ⟨hb, congrArg Value.bool (by rw [decide_eq_true c8, Bool.true_and])⟩
 · -- 8F
  refine op_move (ev_hit hN rfl) ?_
  refine g_false (j := 4) (dj := 9) (b := true) rfl rfl rfl (ev_hit hN rfl) rfl rfl ?_
  refine g_false (j := 4) (dj := 9) (b := true) rfl rfl rfl (ev_hit hN rfl) rfl rfl ?_
  refine g_false (j := 4) (dj := 9) (b := true) rfl rfl rfl (ev_hit hN rfl) rfl rfl ?_
  refine g_false (j := 4) (dj := 9) (b := true) rfl rfl rfl (ev_hit hN rfl) rfl rfl ?_
  refine op_pick_f (ev_hit hN rfl) rfl ?_
  refine op_assign (ev_hit hN rfl) ?_
  refine reg_nil ?_
  refine hK16 _ _ ?_
  refine wp_ret ?_
  refine ret1 rfl hd (ev_hit hN rfl) ⟨_, rfl, ?_⟩
  -- path 8F
  exact ⟨hb, congrArg Value.bool (by rw [decide_eq_false c8, Bool.false_and])⟩

theorem writT {base p : Nat} {la rv wv : Value} {lab : List UInt16} {stp : Int} {D : List RD} {Wr : List (List UInt8)} {dm : Bool} {x : List UInt8} {w : World} (hbase : base ≤ w.heap.size) (hx : Bx w p 164 [la, .int .u64 stp, rv, wv, .bool dm]) (hLa : Own w base 46 1 la lab.length (lab.map u16v)) (hR : Own w base 169 2 rv D.length (D.flatMap cellsRd)) (hD : ∀ x9 ∈ D.map rdL, Own w base 46 1 x9.1 x9.2.length (x9.2.map u16v)) (hW : Own w base 9 1 wv Wr.length (Wr.map sv)) (h8 : lab.length ≤ 8 ∧ ∀ r ∈ D, r.lab.length ≤ 8) : Ret Try.prog 125 #[(ptr p 0), (Value.string (bs x))] w (fun v' w' => Below w.heap.size w w' ∧ v' = .bool (writB Wr x)) := by
 have hb := Below.refl w.heap.size w
 refine enter (N := 10) Try.func125 rfl rfl (by simp) fun a0 hN hd hA => ?_
 have s0 : a0.tmps.getD 0 undef = (ptr p 0) := hA 0 (by simp)
 have s1 : a0.tmps.getD 1 undef = (Value.string (bs x)) := hA 1 (by simp)
 clear hA
 refine seq_any fun K19 hK19 => ?_
 refine one_reg ?_
 refine op_box (cs := [(Value.string (bs x))]) (ev_base hN rfl s1) rfl ?_
 intro w20 b21 lo_b21 hi_b21 hB23 E22
 have ne_b21_wv : wv.ownBlock ≠ some b21 := fun hh => by have := (hW.lt _ hh).2; omega
 have z_w20 := E22.size
 have hx := hx.keep0 E22
 have hLa := hLa.keep0 E22
 have hR := hR.keep0 E22
 have hD : ∀ x9 ∈ (D.map rdL), Own w20 base 46 1 x9.1 x9.2.length (x9.2.map u16v) := fun x9 hx9 => (hD x9 hx9).keep0 E22
 have hW := hW.keep0 E22
 have hb := below_step0 hb E22 hb.size
 refine op_assign rfl ?_
 refine reg_nil ?_
 refine hK19 _ _ ?_
 refine seq_any fun K24 hK24 => ?_
 refine one_reg ?_
 refine op_move (ev_base hN rfl s0) ?_
 refine op_nil (ev_hit hN rfl) ?_
 refine op_field fld164_3 (ev_hit hN rfl) ?_
 refine op_mkfn (cv := [(ptr b21 0)]) ⟨(ev_hit hN rfl), trivial⟩ ?_
 refine op_fn (vs := [(ptr p 3), (Value.func (.func 142) #[] #[(ptr b21 0)])]) ok107 ⟨(ev_hit hN rfl), ⟨(ev_hit hN rfl), trivial⟩⟩ (hasS (by omega) hx hLa hR hD hW h8 (p9 := (fun y => decide (y = x))) (g := 142) (fs := []) (cs := [(ptr b21 0)]) ok142 (fun i hi w1 E => writ1 (hB23.keep0 (grown_of_below E)))) ?_
 rintro _ w25 ⟨E26, rfl⟩
 have E26 := grown_of_below E26
 have z_w25 := E26.size
 have hx := hx.keep0 E26
 have hLa := hLa.keep0 E26
 have hR := hR.keep0 E26
 have hD : ∀ x9 ∈ (D.map rdL), Own w25 base 46 1 x9.1 x9.2.length (x9.2.map u16v) := fun x9 hx9 => (hD x9 hx9).keep0 E26
 have hW := hW.keep0 E26
 have hB23 := hB23.keep0 E26
 have hb := below_step0 hb E26 hb.size
 refine op_assign (ev_hit hN rfl) ?_
 refine reg_nil ?_
 refine hK24 _ _ ?_
 refine wp_ret ?_
 refine ret1 rfl hd (ev_hit hN rfl) ⟨_, rfl, ?_⟩
 -- path
 exact ⟨hb, rfl⟩

theorem coversT {base p : Nat} {la rv wv : Value} {lab : List UInt16} {stp : Int} {D : List RD} {Wr : List (List UInt8)} {dm : Bool} {x : List UInt8} {l : List UInt16} {lv : Value} {w : World} (hbase : base ≤ w.heap.size) (hx : Bx w p 164 [la, .int .u64 stp, rv, wv, .bool dm]) (hLa : Own w base 46 1 la lab.length (lab.map u16v)) (hR : Own w base 169 2 rv D.length (D.flatMap cellsRd)) (hD : ∀ x9 ∈ D.map rdL, Own w base 46 1 x9.1 x9.2.length (x9.2.map u16v)) (hW : Own w base 9 1 wv Wr.length (Wr.map sv)) (h8 : lab.length ≤ 8 ∧ ∀ r ∈ D, r.lab.length ≤ 8) (hl : RdC w 0 w.heap.size 1 lv l.length (l.map u16v)) (hl8 : l.length ≤ 8) : Ret Try.prog 109 #[(ptr p 0), (Value.string (bs x)), lv] w (fun v' w' => Below w.heap.size w w' ∧ v' = .bool (covB (D.map rOf) x l)) := by
 have hb := Below.refl w.heap.size w
 refine enter (N := 12) Try.func109 rfl rfl (by simp) fun a0 hN hd hA => ?_
 have s0 : a0.tmps.getD 0 undef = (ptr p 0) := hA 0 (by simp)
 have s1 : a0.tmps.getD 1 undef = (Value.string (bs x)) := hA 1 (by simp)
 have s2 : a0.tmps.getD 2 undef = lv := hA 2 (by simp)
 clear hA
 refine seq_any fun K27 hK27 => ?_
 refine one_reg ?_
 refine op_box (cs := [(Value.string (bs x))]) (ev_base hN rfl s1) rfl ?_
 intro w28 b29 lo_b29 hi_b29 hB31 E30
 have ne_b29_wv : wv.ownBlock ≠ some b29 := fun hh => by have := (hW.lt _ hh).2; omega
 have z_w28 := E30.size
 have hl := hl.keep0 E30
 have hx := hx.keep0 E30
 have hLa := hLa.keep0 E30
 have hR := hR.keep0 E30
 have hD : ∀ x9 ∈ (D.map rdL), Own w28 base 46 1 x9.1 x9.2.length (x9.2.map u16v) := fun x9 hx9 => (hD x9 hx9).keep0 E30
 have hW := hW.keep0 E30
 have hb := below_step0 hb E30 hb.size
 refine op_box (cs := [lv]) (ev_base hN rfl s2) (RdC.cells hl) ?_
 intro w32 b33 lo_b33 hi_b33 hB35 E34
 have z_w32 := E34.size
 have hl := hl.keep0 E34
 have hx := hx.keep0 E34
 have hLa := hLa.keep0 E34
 have hR := hR.keep0 E34
 have hD : ∀ x9 ∈ (D.map rdL), Own w32 base 46 1 x9.1 x9.2.length (x9.2.map u16v) := fun x9 hx9 => (hD x9 hx9).keep0 E34
 have hW := hW.keep0 E34
 have hB31 := hB31.keep0 E34
 have hb := below_step0 hb E34 hb.size
 refine op_assign rfl ?_
 refine reg_nil ?_
 refine hK27 _ _ ?_
 refine seq_any fun K36 hK36 => ?_
 refine one_reg ?_
 refine op_move (ev_base hN rfl s0) ?_
 refine op_nil (ev_hit hN rfl) ?_
 refine op_field fld164_2 (ev_hit hN rfl) ?_
 refine op_mkfn (cv := [(ptr b29 0), (ptr b33 0)]) ⟨(ev_hit hN rfl), ⟨(ev_hit hN rfl), trivial⟩⟩ ?_
 refine op_fn (vs := [(ptr p 2), (Value.func (.func 131) #[] #[(ptr b29 0), (ptr b33 0)])]) ok130 ⟨(ev_hit hN rfl), ⟨(ev_hit hN rfl), trivial⟩⟩ (hasR (by omega) hx hLa hR hD hW h8 (p9 := (fun r => decide (r.tab = x) && flowsL l r.lab)) (g := 131) (fs := []) (cs := [(ptr b29 0), (ptr b33 0)]) ok131 (fun i hi w1 E => covers1 (r := D.getD i default) (hB31.keep0 (grown_of_below E)) (hB35.keep0 (grown_of_below E)) ((hl.keep0 (grown_of_below E)).mono (Nat.zero_le _) (by have := E.size; omega)) (((hD _ (List.mem_map.2 ⟨_, getD_mem hi, rfl⟩)).keep0 (grown_of_below E)).rdw.mono (Nat.zero_le _) (Nat.le_refl _)) (by omega) (h8.2 _ (getD_mem hi)))) ?_
 rintro _ w37 ⟨E38, rfl⟩
 have E38 := grown_of_below E38
 have z_w37 := E38.size
 have hl := hl.keep0 E38
 have hx := hx.keep0 E38
 have hLa := hLa.keep0 E38
 have hR := hR.keep0 E38
 have hD : ∀ x9 ∈ (D.map rdL), Own w37 base 46 1 x9.1 x9.2.length (x9.2.map u16v) := fun x9 hx9 => (hD x9 hx9).keep0 E38
 have hW := hW.keep0 E38
 have hB31 := hB31.keep0 E38
 have hB35 := hB35.keep0 E38
 have hb := below_step0 hb E38 hb.size
 refine op_assign (ev_hit hN rfl) ?_
 refine reg_nil ?_
 refine hK36 _ _ ?_
 refine wp_ret ?_
 refine ret1 rfl hd (ev_hit hN rfl) ⟨_, rfl, ?_⟩
 -- path
 exact ⟨hb, congrArg Value.bool covB_map⟩

end Go.Proofs.Ytmhdbphpmgjpcaa

/- Walks, written by a program: what each function of the translation hands back. -/
namespace Go.Proofs.Ytmhdbphpmgjpcaa
open Go.Gx Go.RowKit
attribute [local irreducible] wpList wpStill Code.wp Calls

theorem standsT {base p : Nat} {la rv wv : Value} {lab : List UInt16} {stp : Int} {D : List RD} {Wr : List (List UInt8)} {dm : Bool} {Rs : List (List UInt8)} {rsv : Value} {x : List UInt8} {l : List UInt16} {lv : Value} {w : World} (hbase : base ≤ w.heap.size) (hx : Bx w p 164 [la, .int .u64 stp, rv, wv, .bool dm]) (hLa : Own w base 46 1 la lab.length (lab.map u16v)) (hR : Own w base 169 2 rv D.length (D.flatMap cellsRd)) (hD : ∀ x9 ∈ D.map rdL, Own w base 46 1 x9.1 x9.2.length (x9.2.map u16v)) (hW : Own w base 9 1 wv Wr.length (Wr.map sv)) (h8 : lab.length ≤ 8 ∧ ∀ r ∈ D, r.lab.length ≤ 8) (hRs : RdC w 0 w.heap.size 1 rsv Rs.length (Rs.map sv)) (hl : RdC w 0 w.heap.size 1 lv l.length (l.map u16v)) (hl8 : l.length ≤ 8) : Ret Try.prog 99 #[(ptr p 0), rsv, (Value.string (bs x)), lv] w (fun v' w' => Below w.heap.size w w' ∧ v' = .bool (standB ⟨lab, stp, D.map rOf, Wr, dm⟩ Rs x l)) := by
 have hb := Below.refl w.heap.size w
 refine enter (N := 28) Try.func99 rfl rfl (by simp) fun a0 hN hd hA => ?_
 have s0 : a0.tmps.getD 0 undef = (ptr p 0) := hA 0 (by simp)
 have s1 : a0.tmps.getD 1 undef = rsv := hA 1 (by simp)
 have s2 : a0.tmps.getD 2 undef = (Value.string (bs x)) := hA 2 (by simp)
 have s3 : a0.tmps.getD 3 undef = lv := hA 3 (by simp)
 clear hA
 refine seq_any fun K1 hK1 => ?_
 refine one_reg ?_
 refine op_assign rfl ?_
 refine reg_nil ?_
 refine hK1 _ _ ?_
 refine seq_any fun K2 hK2 => ?_
 refine one_reg ?_
 refine op_move (ev_base hN rfl s1) ?_
 refine op_move (ev_base hN rfl s0) ?_
 refine op_mkfn1 (fv := [(ptr p 0)]) (cv := []) ⟨(ev_hit hN rfl), trivial⟩ trivial ?_
 refine op_fn (vs := [rsv, (Value.func (.func 125) #[(ptr p 0)] #[])]) ok124 ⟨(ev_hit hN rfl), ⟨(ev_hit hN rfl), trivial⟩⟩ (ContF_s (g := 125) (fs := [(ptr p 0)]) (cs := []) (p := (writB Wr)) (hRs.mono (Nat.zero_le _) (by omega)) ok125 (fun i hi w1 E => writT (by have := E.size; omega) (hx.keep0 (grown_of_below E)) (hLa.keep0 (grown_of_below E)) (hR.keep0 (grown_of_below E)) (fun x9 hx9 => (hD x9 hx9).keep0 (grown_of_below E)) (hW.keep0 (grown_of_below E)) h8)) ?_
 rintro _ w3 ⟨E4, rfl⟩
 have E4 := grown_of_below E4
 have z_w3 := E4.size
 have hRs := hRs.keep0 E4
 have hl := hl.keep0 E4
 have hx := hx.keep0 E4
 have hLa := hLa.keep0 E4
 have hR := hR.keep0 E4
 have hD : ∀ x9 ∈ (D.map rdL), Own w3 base 46 1 x9.1 x9.2.length (x9.2.map u16v) := fun x9 hx9 => (hD x9 hx9).keep0 E4
 have hW := hW.keep0 E4
 have hb := below_step0 hb E4 hb.size
 rcases Bool.eq_false_or_eq_true ((Rs.any (writB Wr))) with c12 | c12
 · -- 12T
  rw [c12]
  refine op_move (ev_hit hN rfl) ?_
  refine g_false (j := 4) (dj := 13) (b := false) rfl rfl rfl (ev_hit hN rfl) rfl rfl ?_
  refine g_false (j := 4) (dj := 13) (b := false) rfl rfl rfl (ev_hit hN rfl) rfl rfl ?_
  refine g_false (j := 4) (dj := 13) (b := false) rfl rfl rfl (ev_hit hN rfl) rfl rfl ?_
  refine g_undef (j := 7) (dj := 16) (b := true) rfl rfl rfl (ev_hit hN rfl) rfl ?_
  refine g_undef (j := 7) (dj := 16) (b := true) rfl rfl rfl (ev_hit hN rfl) rfl ?_
  refine g_undef (j := 7) (dj := 16) (b := true) rfl rfl rfl (ev_hit hN rfl) rfl ?_
  refine g_undef (j := 7) (dj := 16) (b := true) rfl rfl rfl (ev_hit hN rfl) rfl ?_
  refine g_undef (j := 11) (dj := 20) (b := false) rfl rfl rfl (ev_hit hN rfl) rfl ?_
  refine g_undef (j := 11) (dj := 20) (b := false) rfl rfl rfl (ev_hit hN rfl) rfl ?_
  refine g_undef (j := 11) (dj := 20) (b := false) rfl rfl rfl (ev_hit hN rfl) rfl ?_
  refine g_undef (j := 11) (dj := 20) (b := false) rfl rfl rfl (ev_hit hN rfl) rfl ?_
  refine g_undef (j := 7) (dj := 16) (b := true) rfl rfl rfl (ev_hit hN rfl) rfl ?_
  refine g_false (j := 4) (dj := 13) (b := false) rfl rfl rfl (ev_hit hN rfl) rfl rfl ?_
  refine op_pick_t (ev_hit hN rfl) rfl ?_
  refine op_assign (ev_hit hN rfl) ?_
  refine reg_nil ?_
  refine hK2 _ _ ?_
  refine wp_ret ?_
  refine ret1 rfl hd (ev_hit hN rfl) ⟨_, rfl, ?_⟩
  -- path 12T
  exact ⟨hb, congrArg Value.bool (by unfold standB; rw [c12]; rfl)⟩
 · -- 12F
  rw [c12]
  refine op_move (ev_hit hN rfl) ?_
  refine g_true (j := 4) (dj := 13) (b := false) rfl rfl rfl (ev_hit hN rfl) ?_
  refine op_move (ev_base hN rfl s2) ?_
  refine g_true (j := 4) (dj := 13) (b := false) rfl rfl rfl (ev_hit hN rfl) ?_
  refine op_sneq (ev_hit hN rfl) rfl (fun c15 => ?_) (fun c15 => ?_)
  · -- 15T
   refine g_true (j := 4) (dj := 13) (b := false) rfl rfl rfl (ev_hit hN rfl) ?_
   refine op_move (ev_hit hN rfl) ?_
   refine g_true (j := 7) (dj := 16) (b := true) rfl rfl rfl (ev_hit hN rfl) ?_
   refine op_move (ev_base hN rfl s0) ?_
   refine g_true (j := 7) (dj := 16) (b := true) rfl rfl rfl (ev_hit hN rfl) ?_
   refine op_move (ev_base hN rfl s2) ?_
   refine g_true (j := 7) (dj := 16) (b := true) rfl rfl rfl (ev_hit hN rfl) ?_
   refine op_fn (vs := [(ptr p 0), (Value.string (bs x))]) ok125 ⟨(ev_hit hN rfl), ⟨(ev_hit hN rfl), trivial⟩⟩ (writT (by omega) hx hLa hR hD hW h8) ?_
   rintro _ w5 ⟨E6, rfl⟩
   have E6 := grown_of_below E6
   have z_w5 := E6.size
   have hRs := hRs.keep0 E6
   have hl := hl.keep0 E6
   have hx := hx.keep0 E6
   have hLa := hLa.keep0 E6
   have hR := hR.keep0 E6
   have hD : ∀ x9 ∈ (D.map rdL), Own w5 base 46 1 x9.1 x9.2.length (x9.2.map u16v) := fun x9 hx9 => (hD x9 hx9).keep0 E6
   have hW := hW.keep0 E6
   have hb := below_step0 hb E6 hb.size
   rcases Bool.eq_false_or_eq_true ((writB Wr x)) with c19 | c19
   · -- 19T
    rw [c19]
    refine g_true (j := 7) (dj := 16) (b := true) rfl rfl rfl (ev_hit hN rfl) ?_
    refine op_move (ev_hit hN rfl) ?_
    refine g_false (j := 11) (dj := 20) (b := false) rfl rfl rfl (ev_hit hN rfl) rfl rfl ?_
    refine g_false (j := 11) (dj := 20) (b := false) rfl rfl rfl (ev_hit hN rfl) rfl rfl ?_
    refine g_false (j := 11) (dj := 20) (b := false) rfl rfl rfl (ev_hit hN rfl) rfl rfl ?_
    refine g_false (j := 11) (dj := 20) (b := false) rfl rfl rfl (ev_hit hN rfl) rfl rfl ?_
    refine g_true (j := 7) (dj := 16) (b := true) rfl rfl rfl (ev_hit hN rfl) ?_
    refine op_pick_t (ev_hit hN rfl) rfl ?_
    refine g_true (j := 4) (dj := 13) (b := false) rfl rfl rfl (ev_hit hN rfl) ?_
    refine op_pick_t (ev_hit hN rfl) (ev_hit hN rfl) ?_
    refine op_pick_f (ev_hit hN rfl) (ev_hit hN rfl) ?_
    refine op_assign (ev_hit hN rfl) ?_
    refine reg_nil ?_
    refine hK2 _ _ ?_
    refine wp_ret ?_
    refine ret1 rfl hd (ev_hit hN rfl) ⟨_, rfl, ?_⟩
    -- path 12F 15T 19T
    exact ⟨hb, congrArg Value.bool (by unfold standB; rw [c12, decide_eq_true c15, c19]; rfl)⟩
   · -- 19F
    rw [c19]
    refine g_true (j := 7) (dj := 16) (b := true) rfl rfl rfl (ev_hit hN rfl) ?_
    refine op_move (ev_hit hN rfl) ?_
    refine g_true (j := 11) (dj := 20) (b := false) rfl rfl rfl (ev_hit hN rfl) ?_
    refine op_move (ev_base hN rfl s0) ?_
    refine g_true (j := 11) (dj := 20) (b := false) rfl rfl rfl (ev_hit hN rfl) ?_
    refine op_move (ev_base hN rfl s2) ?_
    refine g_true (j := 11) (dj := 20) (b := false) rfl rfl rfl (ev_hit hN rfl) ?_
    refine op_move (ev_base hN rfl s3) ?_
    refine g_true (j := 11) (dj := 20) (b := false) rfl rfl rfl (ev_hit hN rfl) ?_
    refine op_fn (vs := [(ptr p 0), (Value.string (bs x)), lv]) ok109 ⟨(ev_hit hN rfl), ⟨(ev_hit hN rfl), ⟨(ev_hit hN rfl), trivial⟩⟩⟩ (coversT (by omega) hx hLa hR hD hW h8 (hl.mono (Nat.zero_le _) (by omega)) (by omega)) ?_
    rintro _ w7 ⟨E8, rfl⟩
    have E8 := grown_of_below E8
    have z_w7 := E8.size
    have hRs := hRs.keep0 E8
    have hl := hl.keep0 E8
    have hx := hx.keep0 E8
    have hLa := hLa.keep0 E8
    have hR := hR.keep0 E8
    have hD : ∀ x9 ∈ (D.map rdL), Own w7 base 46 1 x9.1 x9.2.length (x9.2.map u16v) := fun x9 hx9 => (hD x9 hx9).keep0 E8
    have hW := hW.keep0 E8
    have hb := below_step0 hb E8 hb.size
    refine g_true (j := 7) (dj := 16) (b := true) rfl rfl rfl (ev_hit hN rfl) ?_
    refine op_pick_f (ev_hit hN rfl) (ev_hit hN rfl) ?_
    refine g_true (j := 4) (dj := 13) (b := false) rfl rfl rfl (ev_hit hN rfl) ?_
    refine op_pick_t (ev_hit hN rfl) (ev_hit hN rfl) ?_
    refine op_pick_f (ev_hit hN rfl) (ev_hit hN rfl) ?_
    refine op_assign (ev_hit hN rfl) ?_
    refine reg_nil ?_
    refine hK2 _ _ ?_
    refine wp_ret ?_
    refine ret1 rfl hd (ev_hit hN rfl) ⟨_, rfl, ?_⟩
    -- path 12F 15T 19F
    exact ⟨hb, congrArg Value.bool (by unfold standB; rw [c12, decide_eq_true c15, c19]; rfl)⟩
  · -- 15F
   refine g_true (j := 4) (dj := 13) (b := false) rfl rfl rfl (ev_hit hN rfl) ?_
   refine op_move (ev_hit hN rfl) ?_
   refine g_false (j := 7) (dj := 16) (b := true) rfl rfl rfl (ev_hit hN rfl) rfl rfl ?_
   refine g_false (j := 7) (dj := 16) (b := true) rfl rfl rfl (ev_hit hN rfl) rfl rfl ?_
   refine g_false (j := 7) (dj := 16) (b := true) rfl rfl rfl (ev_hit hN rfl) rfl rfl ?_
   refine g_false (j := 7) (dj := 16) (b := true) rfl rfl rfl (ev_hit hN rfl) rfl rfl ?_
   refine g_undef (j := 11) (dj := 20) (b := false) rfl rfl rfl (ev_hit hN rfl) rfl ?_
   refine g_undef (j := 11) (dj := 20) (b := false) rfl rfl rfl (ev_hit hN rfl) rfl ?_
   refine g_undef (j := 11) (dj := 20) (b := false) rfl rfl rfl (ev_hit hN rfl) rfl ?_
   refine g_undef (j := 11) (dj := 20) (b := false) rfl rfl rfl (ev_hit hN rfl) rfl ?_
   refine g_false (j := 7) (dj := 16) (b := true) rfl rfl rfl (ev_hit hN rfl) rfl rfl ?_
   refine g_true (j := 4) (dj := 13) (b := false) rfl rfl rfl (ev_hit hN rfl) ?_
   refine op_pick_f (ev_hit hN rfl) rfl ?_
   refine op_pick_f (ev_hit hN rfl) (ev_hit hN rfl) ?_
   refine op_assign (ev_hit hN rfl) ?_
   refine reg_nil ?_
   refine hK2 _ _ ?_
   refine wp_ret ?_
   refine ret1 rfl hd (ev_hit hN rfl) ⟨_, rfl, ?_⟩
   -- path 12F 15F
   exact ⟨hb, congrArg Value.bool (by unfold standB; rw [c12, decide_eq_false (fun h => h c15)]; rfl)⟩

end Go.Proofs.Ytmhdbphpmgjpcaa

/- Walks, written by a program: what each function of the translation hands back. -/
namespace Go.Proofs.Ytmhdbphpmgjpcaa
open Go.Gx Go.RowKit
attribute [local irreducible] wpList wpStill Code.wp Calls

theorem equalL {l m : List UInt16} {v u : Value} {w : World} (hl : RdC w 0 w.heap.size 1 v l.length (l.map u16v)) (hm : RdC w 0 w.heap.size 1 u m.length (m.map u16v)) : Ret Try.prog 102 #[v, u] w (fun v' w' => Below w.heap.size w w' ∧ v' = .bool (decide (l = m))) := by
 have hlm := rd_len hl
 have hmm := rd_len hm
 have hb := Below.refl w.heap.size w
 refine enter (N := 26) Try.func102 rfl rfl (by simp) fun a0 hN hd hA => ?_
 have s0 : a0.tmps.getD 0 undef = v := hA 0 (by simp)
 have s1 : a0.tmps.getD 1 undef = u := hA 1 (by simp)
 clear hA
 refine seq_any fun K1 hK1 => ?_
 refine one_reg ?_
 refine op_assign rfl ?_
 refine reg_nil ?_
 refine hK1 _ _ ?_
 refine seq_any fun K2 hK2 => ?_
 refine seq_any fun K3 hK3 => ?_
 refine one_reg ?_
 refine op_move (ev_base hN rfl s0) ?_
 refine op_len_rd Try.underlying54 (ev_hit hN rfl) hl ?_
 refine op_move (ev_base hN rfl s1) ?_
 refine op_len_rd Try.underlying54 (ev_hit hN rfl) hm ?_
 refine op_neq (ev_hit hN rfl) (ev_hit hN rfl) (fun c10 => ?_) (fun c10 => ?_)
 · -- 10T
  refine reg_nil ?_
  refine hK3 _ _ ?_
  refine wp_cond_true (ev_hit hN rfl) ?_
  refine seq_any fun K4 hK4 => ?_
  refine one_reg ?_
  refine op_assign rfl ?_
  refine reg_nil ?_
  refine hK4 _ _ ?_
  refine wp_ret (then_ret ( ?_))
  refine ret1 rfl hd (ev_hit hN rfl) ⟨_, rfl, ?_⟩
  -- path 10T
  exact ⟨hb, congrArg Value.bool (decide_eq_false (fun h => by rw [h] at c10; exact c10 rfl)).symm⟩
 · -- 10F
  refine reg_nil ?_
  refine hK3 _ _ ?_
  refine wp_cond_false (ev_hit hN rfl) ?_
  refine wp_skip ?_
  refine hK2 _ _ ?_
  refine seq_any fun K5 hK5 => ?_
  refine seq_any fun K6 hK6 => ?_
  refine one_reg ?_
  refine op_move (ev_base hN rfl s0) ?_
  refine op_len_rd Try.underlying54 (ev_hit hN rfl) hl ?_
  refine op_move rfl ?_
  refine reg_nil ?_
  refine hK6 _ _ ?_
  refine wp_block ?_
  refine loop_m (fun mz_ az_ w' => ∃ (i : Nat), mz_ = l.length - i ∧ (az_.tmps.getD 0 undef = v) ∧ (az_.tmps.getD 1 undef = u) ∧ (az_.tmps.getD 12 undef = (Value.int .i64 ((l.length : Nat) : Int))) ∧ (az_.tmps.getD 13 undef = (Value.int .i64 ((i : Nat) : Int))) ∧ (i ≤ l.length) ∧ (l.length = m.length) ∧ (l.take i = m.take i) ∧ (Below w.heap.size w w') ∧ (w.heap.size ≤ w'.heap.size) ∧ (RdC w' 0 w.heap.size 1 v l.length (l.map u16v)) ∧ (RdC w' 0 w.heap.size 1 u m.length (m.map u16v))) _ hN hd ⟨0, rfl, (sl_base hN rfl s0), (sl_base hN rfl s1), (sl_hit hN rfl), (sl_hit hN rfl), (Nat.zero_le _), (by omega), rfl, hb, (Nat.le_refl _), hl, hm⟩ ?_
  rintro _ a7 w7 hN7 hd7 ⟨i, rfl, s7_0, s7_1, s7_12, s7_13, hi, hlen, heq, hb, zl_w7, hl, hm⟩
  have z_w7 := hb.size
  refine seq_any fun K8 hK8 => ?_
  refine one_reg ?_
  refine op_lss (ev_base hN7 rfl s7_13) (ev_base hN7 rfl s7_12) (fun c14 => ?_) (fun c14 => ?_)
  · -- 14T
   refine reg_nil ?_
   refine hK8 _ _ ?_
   refine seq_any fun K9 hK9 => ?_
   refine wp_cond_true (ev_hit hN7 rfl) ?_
   refine wp_skip ?_
   refine hK9 _ _ ?_
   refine seq_any fun K10 hK10 => ?_
   refine wp_block ?_
   refine seq_any fun K11 hK11 => ?_
   refine one_reg ?_
   refine op_move (ev_base hN7 rfl s7_13) ?_
   refine op_assign (ev_hit hN7 rfl) ?_
   refine reg_nil ?_
   refine hK11 _ _ ?_
   refine seq_any fun K12 hK12 => ?_
   refine reg_still mixed (by kernel_rfl) ?_
   intro w14 E13
   have z_w14 := E13.size
   have hl := hl.keep0 E13
   have hm := hm.keep0 E13
   have hb := below_step0 hb E13 hb.size
   refine st_step rfl (fun _ h9 => op_move (ev_base hN7 rfl s7_0) h9) ?_
   refine st_step rfl (fun _ h9 => op_move (ev_hit hN7 rfl) h9) ?_
   refine st_index_rd slt54 (ev_hit hN7 rfl) hl (ev_hit hN7 rfl) (by omega) (by omega) ?_
   intro b15 o16 h0b15 h1b15 hc17
   refine st_step rfl (fun _ h9 => op_load1 (v := (Value.int .u16 ((l.getD i 0).toNat : Int))) one46 (ev_hit hN7 rfl) (by have := hc17 0 (Value.int .u16 ((l.getD i 0).toNat : Int)) (by decide) (el_u16 (i := i) (by omega) (by omega)); simpa using this) h9) ?_
   refine st_step rfl (fun _ h9 => op_move (ev_base hN7 rfl s7_1) h9) ?_
   refine st_step rfl (fun _ h9 => op_move (ev_hit hN7 rfl) h9) ?_
   refine st_index_rd slt54 (ev_hit hN7 rfl) hm (ev_hit hN7 rfl) (by omega) (by omega) ?_
   intro b18 o19 h0b18 h1b18 hc20
   refine st_step rfl (fun _ h9 => op_load1 (v := (Value.int .u16 ((m.getD i 0).toNat : Int))) one46 (ev_hit hN7 rfl) (by have := hc20 0 (Value.int .u16 ((m.getD i 0).toNat : Int)) (by decide) (el_u16 (i := i) (by omega) (by omega)); simpa using this) h9) ?_
   refine st_step rfl (fun _ h9 => op_cmp (b := (decide (((l.getD i 0).toNat : Int) ≠ ((m.getD i 0).toNat : Int)))) (ev_hit hN7 rfl) (ev_hit hN7 rfl) (b_neq rfl) h9) ?_
   refine st_nil ?_
   refine hK12 _ _ ?_
   refine wp_cond_split (ev_hit hN7 rfl) (fun c24 => ?_) (fun c24 => ?_)
   · -- 24T
    have c24 := of_decide_eq_true c24
    refine seq_any fun K21 hK21 => ?_
    refine one_reg ?_
    refine op_assign rfl ?_
    refine reg_nil ?_
    refine hK21 _ _ ?_
    refine wp_ret (blk_ret (then_ret (then_ret (blk_ret (then_ret ( ?_))))))
    refine ret1 rfl hd7 (ev_hit hN7 rfl) ⟨_, rfl, ?_⟩
    -- path 10F 14T 24T
    exact ⟨hb, congrArg Value.bool (decide_eq_false (fun h => by rw [h] at c24; exact c24 rfl)).symm⟩
   · -- 24F
    have c24 := of_decide_eq_false c24
    refine wp_skip ?_
    refine hK10 _ _ ?_
    refine one_reg ?_
    refine op_add (ev_base hN7 rfl s7_13) rfl (add64 (by omega)) ?_
    refine op_move (ev_hit hN7 rfl) ?_
    refine reg_nil ?_
    -- round 10F 14T 24F
    exact loop_next _ hN7 hd7 ⟨(i + 1), rfl, (sl_base hN7 rfl s7_0), (sl_base hN7 rfl s7_1), (sl_base hN7 rfl s7_12), (sl_hit hN7 rfl).trans (congrArg (Value.int .i64) (by omega)), (by omega), hlen, (by rw [takeT (d := 0) (by omega), takeT (d := 0) (by omega), heq, eq_u16 (Decidable.not_not.1 c24)]), hb, (by omega), hl, hm⟩ (by omega)
  · -- 14F
   refine reg_nil ?_
   refine hK8 _ _ ?_
   refine seq_any fun K22 hK22 => ?_
   refine wp_cond_false (ev_hit hN7 rfl) ?_
   refine wp_exit (then_exit (then_exit (blk_hit ?_)))
   refine hK5 _ _ ?_
   refine seq_any fun K23 hK23 => ?_
   refine one_reg ?_
   refine op_assign rfl ?_
   refine reg_nil ?_
   refine hK23 _ _ ?_
   refine wp_ret ?_
   refine ret1 rfl hd7 (ev_hit hN7 rfl) ⟨_, rfl, ?_⟩
   -- path 10F 14F
   exact ⟨hb, congrArg Value.bool (decide_eq_true (by rw [List.take_of_length_le (by omega), List.take_of_length_le (by omega)] at heq; exact heq)).symm⟩

theorem ask2 {x y : List UInt8} {l m : List UInt16} {v u : Value} {w : World} (hl : RdC w 0 w.heap.size 1 v l.length (l.map u16v)) (hm : RdC w 0 w.heap.size 1 u m.length (m.map u16v)) : Ret Try.prog 101 #[(Value.agg #[(Value.string (bs x)), v]), (Value.agg #[(Value.string (bs y)), u])] w (fun v' w' => Below w.heap.size w w' ∧ v' = .bool (decide (x = y) && decide (l = m))) := by
 have hb := Below.refl w.heap.size w
 refine enter (N := 17) Try.func101 rfl rfl (by simp) fun a0 hN hd hA => ?_
 have s0 : a0.tmps.getD 0 undef = (Value.agg #[(Value.string (bs x)), v]) := hA 0 (by simp)
 have s1 : a0.tmps.getD 1 undef = (Value.agg #[(Value.string (bs y)), u]) := hA 1 (by simp)
 clear hA
 refine seq_any fun K24 hK24 => ?_
 refine one_reg ?_
 refine op_box (cs := [(Value.string (bs x)), v]) (ev_base hN rfl s0) rfl ?_
 intro w25 b26 lo_b26 hi_b26 hB28 E27
 have z_w25 := E27.size
 have hl := hl.keep0 E27
 have hm := hm.keep0 E27
 have hb := below_step0 hb E27 hb.size
 refine op_box (cs := [(Value.string (bs y)), u]) (ev_base hN rfl s1) rfl ?_
 intro w29 b30 lo_b30 hi_b30 hB32 E31
 have z_w29 := E31.size
 have hl := hl.keep0 E31
 have hm := hm.keep0 E31
 have hB28 := hB28.keep0 E31
 have hb := below_step0 hb E31 hb.size
 refine op_assign rfl ?_
 refine reg_nil ?_
 refine hK24 _ _ ?_
 refine seq_any fun K33 hK33 => ?_
 refine one_reg ?_
 refine op_field fld169_0 (ev_hit hN rfl) ?_
 refine op_load1 (v := (Value.string (bs x))) one9 (ev_hit hN rfl) (hB28.cell rfl) ?_
 refine op_field fld169_0 (ev_hit hN rfl) ?_
 refine op_load1 (v := (Value.string (bs y))) one9 (ev_hit hN rfl) (hB32.cell rfl) ?_
 refine op_seql (ev_hit hN rfl) (ev_hit hN rfl) (fun c9 => ?_) (fun c9 => ?_)
 · -- 9T
  refine op_move (ev_hit hN rfl) ?_
  refine g_true (j := 5) (dj := 10) (b := true) rfl rfl rfl (ev_hit hN rfl) ?_
  refine op_field fld169_1 (ev_hit hN rfl) ?_
  refine g_true (j := 5) (dj := 10) (b := true) rfl rfl rfl (ev_hit hN rfl) ?_
  refine op_load1 (v := v) one54 (ev_hit hN rfl) (hB28.cell rfl) ?_
  refine g_true (j := 5) (dj := 10) (b := true) rfl rfl rfl (ev_hit hN rfl) ?_
  refine op_field fld169_1 (ev_hit hN rfl) ?_
  refine g_true (j := 5) (dj := 10) (b := true) rfl rfl rfl (ev_hit hN rfl) ?_
  refine op_load1 (v := u) one54 (ev_hit hN rfl) (hB32.cell rfl) ?_
  refine g_true (j := 5) (dj := 10) (b := true) rfl rfl rfl (ev_hit hN rfl) ?_
  refine op_fn (vs := [v, u]) ok102 ⟨(ev_hit hN rfl), ⟨(ev_hit hN rfl), trivial⟩⟩ (equalL (hl.mono (Nat.zero_le _) (by omega)) (hm.mono (Nat.zero_le _) (by omega))) ?_
  rintro _ w34 ⟨E35, rfl⟩
  have E35 := grown_of_below E35
  have z_w34 := E35.size
  have hl := hl.keep0 E35
  have hm := hm.keep0 E35
  have hB28 := hB28.keep0 E35
  have hB32 := hB32.keep0 E35
  have hb := below_step0 hb E35 hb.size
  refine op_pick_t (ev_hit hN rfl) (ev_hit hN rfl) ?_
  refine op_assign (ev_hit hN rfl) ?_
  refine reg_nil ?_
  refine hK33 _ _ ?_
  refine wp_ret ?_
  refine ret1 rfl hd (ev_hit hN rfl) ⟨_, rfl, ?_⟩
  -- path 9T
  exact ⟨hb, congrArg Value.bool (by rw [decide_eq_true c9, Bool.true_and])⟩
 · -- 9F
  refine op_move (ev_hit hN rfl) ?_
  refine g_false (j := 5) (dj := 10) (b := true) rfl rfl rfl (ev_hit hN rfl) rfl rfl ?_
  refine g_false (j := 5) (dj := 10) (b := true) rfl rfl rfl (ev_hit hN rfl) rfl rfl ?_
  refine g_false (j := 5) (dj := 10) (b := true) rfl rfl rfl (ev_hit hN rfl) rfl rfl ?_
  refine g_false (j := 5) (dj := 10) (b := true) rfl rfl rfl (ev_hit hN rfl) rfl rfl ?_
  refine g_false (j := 5) (dj := 10) (b := true) rfl rfl rfl (ev_hit hN rfl) rfl rfl ?_
  refine op_pick_f (ev_hit hN rfl) rfl ?_
  refine op_assign (ev_hit hN rfl) ?_
  refine reg_nil ?_
  refine hK33 _ _ ?_
  refine wp_ret ?_
  refine ret1 rfl hd (ev_hit hN rfl) ⟨_, rfl, ?_⟩
  -- path 9F
  exact ⟨hb, congrArg Value.bool (by rw [decide_eq_false c9, Bool.false_and])⟩

theorem ask3 {x y : List UInt8} {w : World} : Ret Try.prog 104 #[(Value.string (bs x)), (Value.string (bs y))] w (fun v' w' => Below w.heap.size w w' ∧ v' = .bool (decide (x = y))) := by
 have hb := Below.refl w.heap.size w
 refine enter (N := 8) Try.func104 rfl rfl (by simp) fun a0 hN hd hA => ?_
 have s0 : a0.tmps.getD 0 undef = (Value.string (bs x)) := hA 0 (by simp)
 have s1 : a0.tmps.getD 1 undef = (Value.string (bs y)) := hA 1 (by simp)
 clear hA
 refine seq_any fun K36 hK36 => ?_
 refine one_reg ?_
 refine op_assign rfl ?_
 refine reg_nil ?_
 refine hK36 _ _ ?_
 refine seq_any fun K37 hK37 => ?_
 refine one_reg ?_
 refine op_move (ev_base hN rfl s0) ?_
 refine op_move (ev_base hN rfl s1) ?_
 refine op_seql (ev_hit hN rfl) (ev_hit hN rfl) (fun c7 => ?_) (fun c7 => ?_)
 · -- 7T
  refine op_assign (ev_hit hN rfl) ?_
  refine reg_nil ?_
  refine hK37 _ _ ?_
  refine wp_ret ?_
  refine ret1 rfl hd (ev_hit hN rfl) ⟨_, rfl, ?_⟩
  -- path 7T
  exact ⟨hb, congrArg Value.bool (decide_eq_true c7).symm⟩
 · -- 7F
  refine op_assign (ev_hit hN rfl) ?_
  refine reg_nil ?_
  refine hK37 _ _ ?_
  refine wp_ret ?_
  refine ret1 rfl hd (ev_hit hN rfl) ⟨_, rfl, ?_⟩
  -- path 7F
  exact ⟨hb, congrArg Value.bool (decide_eq_false c7).symm⟩

theorem addS1 {x y : List UInt8} {fb xb : Nat} {w : World} (hf9 : Bx w fb 172 [(Value.func (.func 104) #[] #[])]) (hb9 : Bx w xb 9 [.string (bs x)]) : Ret Try.prog 128 #[(Value.string (bs y)), (ptr fb 0), (ptr xb 0)] w (fun v' w' => Below w.heap.size w w' ∧ v' = .bool (decide (x = y))) := by
 have hb := Below.refl w.heap.size w
 refine enter (N := 9) Try.func128 rfl rfl (by simp) fun a0 hN hd hA => ?_
 have s0 : a0.tmps.getD 0 undef = (Value.string (bs y)) := hA 0 (by simp)
 have s1 : a0.tmps.getD 1 undef = (ptr fb 0) := hA 1 (by simp)
 have s2 : a0.tmps.getD 2 undef = (ptr xb 0) := hA 2 (by simp)
 clear hA
 refine seq_any fun K38 hK38 => ?_
 refine one_reg ?_
 refine op_assign rfl ?_
 refine reg_nil ?_
 refine hK38 _ _ ?_
 refine seq_any fun K39 hK39 => ?_
 refine one_reg ?_
 refine op_load1 (v := (Value.func (.func 104) #[] #[])) one172 (ev_base hN rfl s1) (hf9.cell rfl) ?_
 refine op_load1 (v := (Value.string (bs x))) one9 (ev_base hN rfl s2) (hb9.cell rfl) ?_
 refine op_move (ev_base hN rfl s0) ?_
 refine op_fnv (fs := []) (vs := [(Value.string (bs x)), (Value.string (bs y))]) (cs := []) (ev_hit hN rfl) ok104 ⟨(ev_hit hN rfl), ⟨(ev_hit hN rfl), trivial⟩⟩ (ask3) ?_
 rintro _ w40 ⟨E41, rfl⟩
 have E41 := grown_of_below E41
 have z_w40 := E41.size
 have hf9 := hf9.keep0 E41
 have hb9 := hb9.keep0 E41
 have hb := below_step0 hb E41 hb.size
 refine op_assign (ev_hit hN rfl) ?_
 refine reg_nil ?_
 refine hK39 _ _ ?_
 refine wp_ret ?_
 refine ret1 rfl hd (ev_hit hN rfl) ⟨_, rfl, ?_⟩
 -- path
 exact ⟨hb, rfl⟩

theorem addR1 {x : List UInt8} {l : List UInt16} {lv : Value} {r : RD} {fb xb : Nat} {w : World} (hf9 : Bx w fb 170 [(Value.func (.func 101) #[] #[])]) (hb9 : Bx w xb 169 [.string (bs x), lv]) (hl : RdC w 0 w.heap.size 1 lv l.length (l.map u16v)) (hr : RdC w 0 w.heap.size 1 r.la r.lab.length (r.lab.map u16v)) : Ret Try.prog 127 #[(Value.agg #[(Value.string (bs r.tab)), r.la]), (ptr fb 0), (ptr xb 0)] w (fun v' w' => Below w.heap.size w w' ∧ v' = .bool (decide (x = r.tab) && decide (l = r.lab))) := by
 have hb := Below.refl w.heap.size w
 refine enter (N := 9) Try.func127 rfl rfl (by simp) fun a0 hN hd hA => ?_
 have s0 : a0.tmps.getD 0 undef = (Value.agg #[(Value.string (bs r.tab)), r.la]) := hA 0 (by simp)
 have s1 : a0.tmps.getD 1 undef = (ptr fb 0) := hA 1 (by simp)
 have s2 : a0.tmps.getD 2 undef = (ptr xb 0) := hA 2 (by simp)
 clear hA
 refine seq_any fun K42 hK42 => ?_
 refine one_reg ?_
 refine op_box (cs := [(Value.string (bs r.tab)), r.la]) (ev_base hN rfl s0) rfl ?_
 intro w43 b44 lo_b44 hi_b44 hB46 E45
 have z_w43 := E45.size
 have hf9 := hf9.keep0 E45
 have hb9 := hb9.keep0 E45
 have hl := hl.keep0 E45
 have hr := hr.keep0 E45
 have hb := below_step0 hb E45 hb.size
 refine op_assign rfl ?_
 refine reg_nil ?_
 refine hK42 _ _ ?_
 refine seq_any fun K47 hK47 => ?_
 refine one_reg ?_
 refine op_load1 (v := (Value.func (.func 101) #[] #[])) one170 (ev_base hN rfl s1) (hf9.cell rfl) ?_
 refine op_loadA (cs := [(Value.string (bs x)), lv]) agg169 rfl (ev_base hN rfl s2) (fun j u hu => by rw [Nat.zero_add]; exact hb9.cell hu) ?_
 refine op_loadA (cs := [(Value.string (bs r.tab)), r.la]) agg169 rfl (ev_hit hN rfl) (fun j u hu => by rw [Nat.zero_add]; exact hB46.cell hu) ?_
 refine op_fnv (fs := []) (vs := [(Value.agg #[(Value.string (bs x)), lv]), (Value.agg #[(Value.string (bs r.tab)), r.la])]) (cs := []) (ev_hit hN rfl) ok101 ⟨(ev_hit hN rfl), ⟨(ev_hit hN rfl), trivial⟩⟩ (ask2 (hl.mono (Nat.zero_le _) (by omega)) (hr.mono (Nat.zero_le _) (by omega))) ?_
 rintro _ w48 ⟨E49, rfl⟩
 have E49 := grown_of_below E49
 have z_w48 := E49.size
 have hf9 := hf9.keep0 E49
 have hb9 := hb9.keep0 E49
 have hl := hl.keep0 E49
 have hr := hr.keep0 E49
 have hB46 := hB46.keep0 E49
 have hb := below_step0 hb E49 hb.size
 refine op_assign (ev_hit hN rfl) ?_
 refine reg_nil ?_
 refine hK47 _ _ ?_
 refine wp_ret ?_
 refine ret1 rfl hd (ev_hit hN rfl) ⟨_, rfl, ?_⟩
 -- path
 exact ⟨hb, rfl⟩

end Go.Proofs.Ytmhdbphpmgjpcaa

/- Small laws for walks, the twenty-ninth part: the first part of a region of open order that has calls which change the world, one after the other. -/
namespace Go.Gx
open Go.RowKit
section
variable {P : Program} {ol : List Oper} {Q : Exit → Act → World → Prop} {Φ : Nat → Value → World → Prop} {C : Nat → Value → World → Prop} {ch : Chain} {R : World → World → Prop} {a0 : Act} {N : Nat}
end
section
variable {P : Program} {ol : List Oper} {Q : Exit → Act → World → Prop} {Φ : Nat → Value → Prop} {G : World → Prop} {a0 : Act} {N : Nat}
end
end Go.Gx

/- Small laws for walks, the thirtieth part: a region of open order with operations one behind the other that change the world and hand back what nobody knows ahead, and light ones beside them. -/
namespace Go.Gx
open Go.RowKit
section
variable {P : Program} {ol : List Oper} {Q : Exit → Act → World → Prop} {E : Type} {Φ : E → Nat → Value → Prop} {C : E → Nat → World → Prop} {ch : Chain} {a0 : Act} {N : Nat}
/-- What a light operation must show, whatever the others handed back. -/
def ObNE (P : Program) (ol : List Oper) (Φ : E → Nat → Value → Prop) (C : E → Nat → World → Prop) (a0 : Act) (N : Nat) (i : Nat) (o : Oper) : Prop :=
  ∀ (e : E) (a : Act) (w : World) (c : Nat), a.tmps.size = N → C e c w → (∀ t, safeB ol i t = true → a.tmps.getD t undef = a0.tmps.getD t undef) → (∀ j oj d, depB ol i j = true → ol[j]? = some oj → oj.dst = some d → Φ e j (a.tmps.getD d undef)) →
    wpList P ol.toArray (fun ex a' w' => ex = .normal ∧ (∃ d v, o.dst = some d ∧ a' = putsL a [(d, v)] ∧ Φ e i v) ∧ w.grownBy w' none) [o] (putsL a []) w
/-- What a great one must show. -/
def ObCE (P : Program) (ol : List Oper) (Φ : E → Nat → Value → Prop) (C : E → Nat → World → Prop) (a0 : Act) (N : Nat) (c i : Nat) (o : Oper) : Prop :=
  ∀ (e : E) (a : Act) (w : World), a.tmps.size = N → (∀ t, safeB ol i t = true → a.tmps.getD t undef = a0.tmps.getD t undef) → (∀ j oj d, depB ol i j = true → ol[j]? = some oj → oj.dst = some d → Φ e j (a.tmps.getD d undef)) → C e c w →
    wpList P ol.toArray (fun ex a' w' => ex = .normal ∧ ∃ e', (∀ j u, Φ e j u → Φ e' j u) ∧ ((o.dst = none ∧ a' = a) ∨ ∃ d v, o.dst = some d ∧ a' = putsL a [(d, v)] ∧ Φ e' i v) ∧ C e' (c + 1) w') [o] (putsL a []) w
theorem region_env_steps (hlex : lexB' ol = true) (hdn : dstNB ol N = true) (hdst : dstsB ol = true) (hch : ch.okB ol = true) (w0 : World)
    (hC : ∀ e c w1 w2, w1.grownBy w2 none → C e c w1 → C e c w2)
    (obN : ∀ i o, ol[i]? = some o → ch.has i = false → ObNE P ol Φ C a0 N i o) (obC : ∀ c i o, ch.ops[c]? = some i → ol[i]? = some o → ObCE P ol Φ C a0 N c i o)
    (fin : ∀ a w e, RInv ol (fun j u _ => Φ e j u) (fun c _ w => C e c w) ch a0 N w0 (fun _ _ => True) (Array.replicate ol.length true) ch.ops.length a w → Q .normal a w) :
    ∀ (fuel : Nat) (listed : Array Bool) (c : Nat) (a : Act) (w : World) (e : E), RInv ol (fun j u _ => Φ e j u) (fun c _ w => C e c w) ch a0 N w0 (fun _ _ => True) listed c a w → (List.range ol.length).countP (fun i => !listed.getD i true) ≤ fuel → wpAny P .any ol.toArray Q fuel listed a w := by
  have hch' := hch
  simp only [Chain.okB, Bool.and_eq_true] at hch'
  obtain ⟨⟨⟨hc1, hc2⟩, hc3⟩, hc4⟩ := hch'
  have done : ∀ (listed : Array Bool) (c : Nat) (a : Act) (w : World) (e : E), RInv ol (fun j u _ => Φ e j u) (fun c _ w => C e c w) ch a0 N w0 (fun _ _ => True) listed c a w → Region.ready .any ol.toArray listed = [] → Q .normal a w := by
    intro listed c a w ee I hr
    have hall : ∀ i, i < ol.length → listed.getD i true = true := by
      intro i
      induction i using Nat.strongRecOn with
      | _ i ih =>
        intro hi
        by_cases hq : listed.getD i true = true
        · exact hq
        · exfalso
          have hm : i ∈ Region.ready .any ol.toArray listed := by
            rw [mem_ready]
            refine ⟨by simpa using hq, ol[i], by simp [hi], fun e he hb => ?_⟩
            have h1 := List.all_eq_true.1 hlex i (by simp [hi])
            simp only [List.getElem?_eq_getElem hi, Array.all_eq_true_iff_forall_mem, Bool.or_eq_true, Bool.not_eq_true', Nat.blt_eq] at h1
            have h2 := (h1 e he).resolve_left (by simp [hb])
            exact getD_true_lt (ih e.on h2 (by omega)) (by rw [I.lsize]; omega)
          rw [hr] at hm
          cases hm
    have hl : listed = Array.replicate ol.length true := by
      apply Array.ext
      · simp [I.lsize]
      · intro i h1 h2
        have := hall i (by simpa using h2)
        simp [Array.getD_eq_getD_getElem?, h1] at this
        simp [this]
    have hcc : c = ch.ops.length := by
      rcases Nat.lt_or_ge c ch.ops.length with h | h
      · exfalso
        have h1 := (I.chain c ch.ops[c] (by simp [h])).1 (hall _ (by
          have := List.all_eq_true.1 hc3 ch.ops[c] (List.getElem_mem h)
          simpa [Nat.blt_eq] using this))
        omega
      · exact Nat.le_antisymm I.cle h
    subst hl; subst hcc
    exact fin a w ee I
  intro fuel
  induction fuel with
  | zero =>
    intro listed c a w ee I hcnt
    have hr : Region.ready .any ol.toArray listed = [] := by
      rw [List.eq_nil_iff_forall_not_mem]
      intro i hi
      obtain ⟨h1, o, ho, _⟩ := mem_ready.1 hi
      have hlt : i < ol.length := by simpa using (Array.getElem?_eq_some_iff.1 ho).1
      have hz : (List.range ol.length).countP (fun i => !listed.getD i true) = 0 := by omega
      rw [List.countP_eq_zero] at hz
      exact hz i (by simp [hlt]) (by simp [h1])
    exact ⟨hr, done listed c a w ee I hr⟩
  | succ fuel ih =>
    intro listed c a w ee I hcnt
    refine ⟨fun hr => done listed c a w ee I hr, fun i hi => ?_⟩
    obtain ⟨hun, o, ho, hwait⟩ := mem_ready.1 hi
    have ho' : ol[i]? = some o := by simpa using ho
    have hlt : i < ol.length := (List.getElem?_eq_some_iff.1 ho').1
    have hls : i < listed.size := by rw [I.lsize]; exact hlt
    have hcnt' : (List.range ol.length).countP (fun j => !(listed.setIfInBounds i true).getD j true) ≤ fuel := by
      have : (List.range ol.length).countP (fun j => !(listed.setIfInBounds i true).getD j true) < (List.range ol.length).countP (fun j => !listed.getD j true) := by
        refine countP_lt _ _ (fun y hy => ?_) _ i (by simp [hlt]) (by simp [hun]) (by simp [Array.getD_eq_getD_getElem?, hls])
        by_cases hiy : i = y
        · subst hiy; simp [Array.getD_eq_getD_getElem?, hls] at hy
        · rwa [getD_set_ne true hiy] at hy
      omega
    have hbase : ∀ t, safeB ol i t = true → a.tmps.getD t undef = a0.tmps.getD t undef := by
      intro t ht
      refine I.base t fun j oj hj hlj hd => ?_
      have h1 := List.all_eq_true.1 ht oj (List.mem_of_getElem? hj)
      simp only [Bool.or_eq_true, bne_iff_ne, ne_eq, Array.any_eq_true, Bool.and_eq_true, beq_iff_eq] at h1
      rcases h1 with h1 | ⟨q, hq, h1, h2⟩
      · exact h1 hd
      · have := getD_of_false (I.closed j oj hj hlj _ (Array.getElem_mem hq) h2)
        rw [h1, hun] at this
        cases this
    have hdep : ∀ j oj d, depB ol i j = true → ol[j]? = some oj → oj.dst = some d → Φ ee j (a.tmps.getD d undef) := by
      intro j oj d hj hoj hd
      obtain ⟨e, he, h1, h2⟩ := depB_spec ho' hj
      exact I.phi j oj d hoj (getD_of_false (by rw [← h1]; exact hwait e he h2)) hd
    have hset : ∀ j, j ≠ i → (listed.setIfInBounds i true).getD j true = listed.getD j true := fun j hj => getD_set_ne true (Ne.symm hj)
    have hseti : (listed.setIfInBounds i true).getD i true = true := by simp [Array.getD_eq_getD_getElem?, hls]
    have hclosed : ∀ j oj, ol[j]? = some oj → (listed.setIfInBounds i true).getD j true = true → ∀ e ∈ oj.after, Region.binds .any e = true → (listed.setIfInBounds i true).getD e.on false = true := by
      intro j oj hoj hlj e he hb
      refine getD_set_true ?_
      by_cases hji : j = i
      · subst hji
        rw [ho'] at hoj; cases hoj
        exact hwait e he hb
      · rw [hset j hji] at hlj
        exact I.closed j oj hoj hlj e he hb
    have hne : ∀ j oj d, ol[j]? = some oj → j ≠ i → o.dst = some d → oj.dst ≠ some d := by
      intro j oj d hoj hji hd hd'
      have hj : j < ol.length := (List.getElem?_eq_some_iff.1 hoj).1
      have h1 := List.all_eq_true.1 (List.all_eq_true.1 hdst i (by simp [hlt])) j (by simp [hj])
      simp only [ho', hoj, Bool.or_eq_true, beq_iff_eq, bne_iff_ne, ne_eq] at h1
      rcases h1 with h1 | h1 | h1
      · exact hji h1.symm
      · exact h1 (by rw [hd, hd'])
      · rw [hd] at h1; cases h1
    -- what is left of the frame, behind a value in slot d
    have hframe : ∀ d v (e' : E), o.dst = some d → (∀ j u, Φ ee j u → Φ e' j u) → Φ e' i v → 
        (∀ t, (∀ j oj, ol[j]? = some oj → (listed.setIfInBounds i true).getD j true = true → oj.dst ≠ some t) → (putsL a [(d, v)]).tmps.getD t undef = a0.tmps.getD t undef) ∧
        (∀ j oj d', ol[j]? = some oj → (listed.setIfInBounds i true).getD j true = true → oj.dst = some d' → Φ e' j ((putsL a [(d, v)]).tmps.getD d' undef)) := by
      intro d v e' hd hR hv
      have hdN : d < a.tmps.size := by
        have h1 := List.all_eq_true.1 hdn o (List.mem_of_getElem? ho')
        simp only [hd, Nat.blt_eq] at h1
        rw [I.size]; exact h1
      refine ⟨fun t ht => ?_, fun j oj d' hoj hlj hd' => ?_⟩
      · have hdt : d ≠ t := fun e => ht i o ho' hseti (by rw [hd, e])
        rw [get_put_ne hdt]
        refine I.base t fun j oj hoj hlj => ?_
        by_cases hji : j = i
        · subst hji; rw [hun] at hlj; cases hlj
        · exact ht j oj hoj (by rw [hset j hji]; exact hlj)
      · by_cases hji : j = i
        · subst hji
          rw [ho'] at hoj; cases hoj
          rw [hd] at hd'; cases hd'
          rw [get_put_eq hdN]
          exact hv
        · rw [hset j hji] at hlj
          have : d ≠ d' := fun e => hne j oj d hoj hji hd (by rw [hd', e])
          rw [get_put_ne this]
          exact hR j _ (I.phi j oj d' hoj hlj hd')
    by_cases hin : ch.has i = true
    · have hmem : i ∈ ch.ops := by simpa [Chain.has] using hin
      obtain ⟨c0, hc0, hci⟩ := List.getElem_of_mem hmem
      have hci' : ch.ops[c0]? = some i := by simp [hc0, hci]
      have hcc : c0 = c := by
        have h1 : ¬ c0 < c := fun h => by
          have := (I.chain c0 i hci').2 h
          rw [hun] at this; cases this
        rcases Nat.lt_or_ge c c0 with h2 | h2
        · exfalso
          have h3 := List.all_eq_true.1 hc1 c0 (by simp [hc0])
          have hz : (c0 == 0) = false := by simp; omega
          have hp : ch.ops.getD (c0 - 1) 0 = ch.ops[c0 - 1] := by simp [List.getD_eq_getElem?_getD, show c0 - 1 < ch.ops.length by omega]
          have hq : ch.ops.getD c0 0 = i := by simp [List.getD_eq_getElem?_getD, hc0, hci]
          rw [hz, hp, hq, Bool.false_or] at h3
          obtain ⟨e, he, h4, h5⟩ := depB_spec ho' h3
          have h6 := getD_of_false (hwait e he h5)
          rw [h4] at h6
          have := (I.chain (c0 - 1) ch.ops[c0 - 1] (by simp [show c0 - 1 < ch.ops.length by omega])).1 h6
          omega
        · omega
      subst hcc
      refine wp_one (by simpa using ho') (obC c0 i o hci' ho' ee a w I.size hbase hdep I.chainC) fun a' w' h => ?_
      obtain ⟨e', hm, h1, h2⟩ := h
      have hchain : ∀ m i', ch.ops[m]? = some i' → ((listed.setIfInBounds i true).getD i' true = true ↔ m < c0 + 1) := by
        intro m i' hm
        by_cases hii : i' = i
        · subst hii
          have : m = c0 := by
            have hnd : ch.ops.Nodup := of_decide_eq_true hc4
            have hmlt : m < ch.ops.length := (List.getElem?_eq_some_iff.1 hm).1
            exact (List.getElem?_inj hmlt hnd).1 (by rw [hm, hci'])
          exact ⟨fun _ => by omega, fun _ => hseti⟩
        · rw [hset i' hii, I.chain m i' hm]
          refine ⟨fun h => by omega, fun h => ?_⟩
          rcases Nat.lt_or_ge m c0 with h' | h'
          · exact h'
          · have : m = c0 := by omega
            subst this
            rw [hci'] at hm; exact absurd (Option.some.inj hm).symm hii
      refine ih _ (c0 + 1) a' w' e' ?_ hcnt'
      rcases h1 with ⟨hd, rfl⟩ | ⟨d, v, hd, rfl, hv⟩
      · refine ⟨I.size, I.defers, fun t ht => ?_, fun j oj d' hoj hlj hd' => ?_, hclosed, by simp [I.lsize], by omega, hchain, h2, trivial⟩
        · refine I.base t fun j oj hoj hlj => ?_
          by_cases hji : j = i
          · subst hji; rw [hun] at hlj; cases hlj
          · exact ht j oj hoj (by rw [hset j hji]; exact hlj)
        · by_cases hji : j = i
          · subst hji
            rw [ho'] at hoj; cases hoj
            rw [hd] at hd'; cases hd'
          · rw [hset j hji] at hlj
            exact hm j _ (I.phi j oj d' hoj hlj hd')
      · obtain ⟨f1, f2⟩ := hframe d v e' hd hm hv
        exact ⟨by rw [putsL_size, I.size], by rw [putsL_defers, I.defers], f1, f2, hclosed, by simp [I.lsize], by omega, hchain, h2, trivial⟩
    · have hin' : ch.has i = false := by simpa using hin
      refine wp_one (by simpa using ho') (obN i o ho' hin' ee a w c I.size I.chainC hbase hdep) fun a' w' h => ?_
      obtain ⟨⟨d, v, hd, rfl, hv⟩, hg⟩ := h
      obtain ⟨f1, f2⟩ := hframe d v ee hd (fun _ _ h => h) hv
      refine ih _ c _ w' ee ⟨by rw [putsL_size, I.size], by rw [putsL_defers, I.defers], f1, f2, hclosed, by simp [I.lsize], I.cle, ?_, hC _ _ w w' hg I.chainC, trivial⟩ hcnt'
      · intro m i' hm
        have hii : i' ≠ i := by
          rintro rfl
          have : ch.has i' = true := by simpa [Chain.has] using List.mem_of_getElem? hm
          rw [hin'] at this; cases this
        rw [hset i' hii]
        exact I.chain m i' hm
end

section
variable {P : Program} {ol : List Oper} {Q : Exit → Act → World → Prop} {ops : List Nat} {φ : Nat → Value → Prop} {G : World → Prop} {a0 : Act} {N : Nat}
/-- What is told of an operation's value: of a great one, which it is of those that were handed back; of a light one, what is told ahead. -/
def PhE (ops : List Nat) (φ : Nat → Value → Prop) (e : List Value) (j : Nat) (u : Value) : Prop := (∀ c : Nat, ops[c]? = some j → e[c]? = some u) ∧ (ops.contains j = false → φ j u)
theorem PhE.mono {e : List Value} {v : Value} {j : Nat} {u : Value} (h : PhE ops φ e j u) : PhE ops φ (e ++ [v]) j u :=
  ⟨fun c hc => by have h1 := h.1 c hc; have hl := (List.getElem?_eq_some_iff.1 h1).1; rw [List.getElem?_append_left hl]; exact h1, h.2⟩
theorem PhE.light {j : Nat} {e : List Value} {u : Value} (hh : ops.contains j = false) (h : φ j u) : PhE ops φ e j u :=
  ⟨fun c hc => by have : ops.contains j = true := by simpa using List.mem_of_getElem? hc
                  exact absurd (this.symm.trans hh) (by decide), fun _ => h⟩
/-- what is left to show, with these great ones still to come -/
def KE (P : Program) (ol : List Oper) (ops : List Nat) (φ : Nat → Value → Prop) (G : World → Prop) (a0 : Act) (N : Nat) (Q : Exit → Act → World → Prop) : List Nat → List Value → World → Prop
  | [], e, w => ∀ w1, w.grownBy w1 none → ∀ a', a'.tmps.size = N → a'.defers = a0.defers → (∀ t, (ol.all fun o => o.dst != some t) = true → a'.tmps.getD t undef = a0.tmps.getD t undef) →
      (∀ j oj d, ol[j]? = some oj → oj.dst = some d → PhE ops φ e j (a'.tmps.getD d undef)) → Q .normal (putsL a' []) w1
  | i :: r, e, w => ∀ w1, w.grownBy w1 none → G w1 → ∀ a, a.tmps.size = N → (∀ t, safeB ol i t = true → a.tmps.getD t undef = a0.tmps.getD t undef) → (∀ j oj d, depB ol i j = true → ol[j]? = some oj → oj.dst = some d → PhE ops φ e j (a.tmps.getD d undef)) →
      ∀ o, ol[i]? = some o → wpList P ol.toArray (fun ex a' w' => ex = .normal ∧ ∃ e', (∀ j u, PhE ops φ e j u → PhE ops φ e' j u) ∧ ((o.dst = none ∧ a' = a) ∨ ∃ d v, o.dst = some d ∧ a' = putsL a [(d, v)] ∧ PhE ops φ e' i v) ∧ (e'.length = e.length + 1 ∧ KE P ol ops φ G a0 N Q r e' w' ∧ G w')) [o] (putsL a []) w1
theorem KE.stable : ∀ {rs : List Nat} {e : List Value} {w w2 : World}, KE P ol ops φ G a0 N Q rs e w → w.grownBy w2 none → KE P ol ops φ G a0 N Q rs e w2
  | [], _, _, _, h, E => fun w1 E1 => h w1 (grown_trans E E1)
  | _ :: _, _, _, _, h, E => fun w1 E1 => h w1 (grown_trans E E1)
/-- what a light operation must show -/
def ObE (P : Program) (ol : List Oper) (ops : List Nat) (φ : Nat → Value → Prop) (G : World → Prop) (a0 : Act) (N : Nat) (i : Nat) (o : Oper) : Prop :=
  ∀ (e : List Value) (a : Act) (w : World), a.tmps.size = N → G w → (∀ t, safeB ol i t = true → a.tmps.getD t undef = a0.tmps.getD t undef) → (∀ j oj d, depB ol i j = true → ol[j]? = some oj → oj.dst = some d → PhE ops φ e j (a.tmps.getD d undef)) →
    wpList P ol.toArray (fun ex a' w' => ex = .normal ∧ (∃ d v, o.dst = some d ∧ a' = putsL a [(d, v)] ∧ PhE ops φ e i v) ∧ w.grownBy w' none) [o] (putsL a []) w
def ObEs (P : Program) (ol : List Oper) (ops : List Nat) (φ : Nat → Value → Prop) (G : World → Prop) (a0 : Act) (N : Nat) : Nat → List Oper → Prop
  | _, [] => True
  | i, o :: r => (ops.contains i = false → ObE P ol ops φ G a0 N i o) ∧ ObEs P ol ops φ G a0 N (i + 1) r
theorem ObEs.nil {i : Nat} : ObEs P ol ops φ G a0 N i [] := trivial
theorem ObEs.cons {i : Nat} {o : Oper} {r : List Oper} (h : ObE P ol ops φ G a0 N i o) (h' : ObEs P ol ops φ G a0 N (i + 1) r) : ObEs P ol ops φ G a0 N i (o :: r) := ⟨fun _ => h, h'⟩
theorem ObEs.pass {i : Nat} {o : Oper} {r : List Oper} (hh : ops.contains i = true) (h' : ObEs P ol ops φ G a0 N (i + 1) r) : ObEs P ol ops φ G a0 N i (o :: r) := ⟨fun h => absurd (hh.symm.trans h) (by decide), h'⟩
theorem ObEs.getx : ∀ {l : List Oper} {i : Nat}, ObEs P ol ops φ G a0 N i l → ∀ j o, l[j]? = some o → ops.contains (i + j) = false → ObE P ol ops φ G a0 N (i + j) o
  | [], _, _, j, o, h, _ => by simp at h
  | o' :: r, i, h, 0, o, hj, hs => by simp at hj; subst hj; exact h.1 hs
  | o' :: r, i, h, j + 1, o, hj, hs => by
    have := ObEs.getx h.2 j o (by simpa using hj) (by rwa [show i + 1 + j = i + (j + 1) by omega])
    rwa [show i + 1 + j = i + (j + 1) by omega] at this
theorem any_env (ops : List Nat) (hlex : lexB' ol = true) (hdn : dstNB ol N = true) (hdst : dstsB ol = true) (hch : (⟨ops, fun _ => N⟩ : Chain).okB ol = true)
    {l : List (Nat × Value)} {w : World} (hN : a0.tmps.size = N) (hG : ∀ w1 w2, w1.grownBy w2 none → G w1 → G w2) (g0 : G w) (obL : ObEs P ol ops φ G (putsL a0 l) N 0 ol) (hdf : (putsL a0 l).defers = a0.defers)
    (main : KE P ol ops φ G (putsL a0 l) N Q ops [] w) : RegAny P ol Q (putsL a0 l) w := by
  have hnd : ops.Nodup := by
    have h := hch; simp only [Chain.okB, Bool.and_eq_true] at h; exact of_decide_eq_true h.2
  have hd : w.grownBy { w with drawn := w.drawn + 1 } none := ⟨rfl, rfl, rfl, Nat.le_refl _, fun _ _ _ => rfl⟩
  have I : RInv ol (fun j u _ => PhE ops φ [] j u) (fun c _ w => ([] : List Value).length = c ∧ KE P ol ops φ G (putsL a0 l) N Q (ops.drop c) [] w ∧ G w) ⟨ops, fun _ => N⟩ (putsL a0 l) N w (fun _ _ => True) (Array.replicate ol.length false) 0 (putsL a0 l) { w with drawn := w.drawn + 1 } := by
    refine ⟨slN hN, rfl, fun _ _ => rfl, fun j o d hj hl => ?_, fun j o hj hl => ?_, by simp, Nat.zero_le _, fun m i hm => ?_, ⟨rfl, main.stable hd, hG _ _ hd g0⟩, trivial⟩
    · have : j < ol.length := (List.getElem?_eq_some_iff.1 hj).1
      simp [Array.getD_eq_getD_getElem?, this] at hl
    · have : j < ol.length := (List.getElem?_eq_some_iff.1 hj).1
      simp [Array.getD_eq_getD_getElem?, this] at hl
    · have h3 : i < ol.length := by
        have hch' := hch
        simp only [Chain.okB, Bool.and_eq_true] at hch'
        have := List.all_eq_true.1 hch'.1.2 i (List.mem_of_getElem? hm)
        simpa [Nat.blt_eq] using this
      simp [Array.getD_eq_getD_getElem?, h3]
  have := region_env_steps (P := P) (Q := Q) (E := List Value) (Φ := fun e j u => PhE ops φ e j u) (C := fun e c w => e.length = c ∧ KE P ol ops φ G (putsL a0 l) N Q (ops.drop c) e w ∧ G w) (ch := ⟨ops, fun _ => N⟩) hlex hdn hdst hch w
    (fun e c w1 w2 E1 h => ⟨h.1, h.2.1.stable E1, hG _ _ E1 h.2.2⟩)
    (fun i o hi hh e a w1 c h1 h2 h3 h4 => by
      have hh' : ops.contains i = false := hh
      have h5 := ObEs.getx obL i o hi (by rw [Nat.zero_add]; exact hh') e a w1 h1 h2.2.2 (by rw [Nat.zero_add]; exact h3) (by rw [Nat.zero_add]; exact h4)
      rw [Nat.zero_add] at h5; exact h5)
    (fun c i o hc hi e a w1 h1 h2 h3 h4 => by
      obtain ⟨hl, hk, hg⟩ := h4
      have hdr : ops.drop c = i :: ops.drop (c + 1) := by
        have hlt : c < ops.length := (List.getElem?_eq_some_iff.1 hc).1
        rw [List.drop_eq_getElem_cons hlt, (List.getElem?_eq_some_iff.1 hc).2]
      rw [hdr] at hk
      subst hl
      exact hk w1 (grown_refl _ _) hg a h1 h2 h3 o hi)
    (fun a' w' e J => by
      have hk := J.chainC.2.1
      rw [List.drop_of_length_le (Nat.le_refl _)] at hk
      exact hk w' (grown_refl _ _) a' J.size (J.defers) (fun t ht => J.base t fun j o hj _ hd' => by
        have := List.all_eq_true.1 ht o (List.mem_of_getElem? hj)
        simp [hd'] at this) (fun j oj d hj hd' => J.phi j oj d hj (by
        have : j < ol.length := (List.getElem?_eq_some_iff.1 hj).1
        simp [Array.getD_eq_getD_getElem?, this]) hd'))
    ol.length (Array.replicate ol.length false) 0 (putsL a0 l) _ [] I (Nat.le_trans (List.countP_le_length) (by simp))
  exact this
theorem ke_end {o : Oper} {i d : Nat} {v : Value} {a : Act} {w : World} {e : List Value} {r : List Nat} (hi : ops[e.length]? = some i) (hnd : ops.Nodup) (hd : o.dst = some d) (g : G w) (h : KE P ol ops φ G a0 N Q r (e ++ [v]) w) :
    wpList P ol.toArray (fun ex a' w' => ex = .normal ∧ ∃ e', (∀ j u, PhE ops φ e j u → PhE ops φ e' j u) ∧ ((o.dst = none ∧ a' = a) ∨ ∃ d v, o.dst = some d ∧ a' = putsL a [(d, v)] ∧ PhE ops φ e' i v) ∧ (e'.length = e.length + 1 ∧ KE P ol ops φ G a0 N Q r e' w' ∧ G w')) [] (putsL a [(d, v)]) w :=
  ⟨rfl, e ++ [v], fun _ _ h => h.mono, .inr ⟨d, v, hd, rfl, fun c' hc' => by
    have : c' = e.length := (List.getElem?_inj (List.getElem?_eq_some_iff.1 hc').1 hnd).1 (by rw [hc', hi])
    subst this; simp, fun hh => by
    have : ops.contains i = true := by simpa using List.mem_of_getElem? hi
    exact absurd (this.symm.trans hh) (by decide)⟩, by simp, h, g⟩
theorem obE_end {o : Oper} {i d : Nat} {v : Value} {a : Act} {w : World} {e : List Value} (hh : ops.contains i = false) (hd : o.dst = some d) (hv : φ i v) :
    wpList P ol.toArray (fun ex a' w' => ex = .normal ∧ (∃ d v, o.dst = some d ∧ a' = putsL a [(d, v)] ∧ PhE ops φ e i v) ∧ w.grownBy w' none) [] (putsL a [(d, v)]) w := ⟨rfl, ⟨d, v, hd, rfl, PhE.light hh hv⟩, grown_refl _ _⟩
end
end Go.Gx

/- Walks, written by a program: what each function of the translation hands back. -/
namespace Go.Proofs.Ytmhdbphpmgjpcaa
open Go.Gx Go.RowKit
attribute [local irreducible] wpList wpStill Code.wp Calls

theorem addS {base p : Nat} {la rv wv : Value} {lab : List UInt16} {stp : Int} {D : List RD} {Wr : List (List UInt8)} {dm : Bool} {x : List UInt8} {w : World} (hbase : base ≤ w.heap.size) (hx : Bx w p 164 [la, .int .u64 stp, rv, wv, .bool dm]) (hLa : Own w base 46 1 la lab.length (lab.map u16v)) (hR : Own w base 169 2 rv D.length (D.flatMap cellsRd)) (hD : ∀ x9 ∈ D.map rdL, Own w base 46 1 x9.1 x9.2.length (x9.2.map u16v)) (hW : Own w base 9 1 wv Wr.length (Wr.map sv)) (h8 : lab.length ≤ 8 ∧ ∀ r ∈ D, r.lab.length ≤ 8) (hn9 : Wr.length ≤ 100000) : Ret Try.prog 103 #[(ptr p 3), (Value.string (bs x)), (Value.func (.func 104) #[] #[])] w (fun v' w' => Gr w w' (fun y => y = p ∨ Bl wv y) ∧ ∃ wv', Bx w' p 164 [la, .int .u64 stp, rv, wv', .bool dm] ∧ Own w' base 9 1 wv' (addW Wr x).length ((addW Wr x).map sv) ∧ (∀ y, Bl wv' y → Bl wv y ∨ w.heap.size ≤ y)) := by
 have hi_p := hx.lt
 have hb := Gr.refl w (fun y => y = p ∨ Bl wv y)
 refine enter (N := 23) Try.func103 rfl rfl (by simp) fun a0 hN hd hA => ?_
 have s0 : a0.tmps.getD 0 undef = (ptr p 3) := hA 0 (by simp)
 have s1 : a0.tmps.getD 1 undef = (Value.string (bs x)) := hA 1 (by simp)
 have s2 : a0.tmps.getD 2 undef = (Value.func (.func 104) #[] #[]) := hA 2 (by simp)
 clear hA
 refine seq_any fun K1 hK1 => ?_
 refine one_reg ?_
 refine op_box (cs := [(Value.string (bs x))]) (ev_base hN rfl s1) rfl ?_
 intro w2 b3 lo_b3 hi_b3 hB5 E4
 have ne_b3_wv : wv.ownBlock ≠ some b3 := fun hh => by have := (hW.lt _ hh).2; omega
 have z_w2 := E4.size
 have hx := hx.keep0 E4
 have hLa := hLa.keep0 E4
 have hR := hR.keep0 E4
 have hD : ∀ x9 ∈ (D.map rdL), Own w2 base 46 1 x9.1 x9.2.length (x9.2.map u16v) := fun x9 hx9 => (hD x9 hx9).keep0 E4
 have hW := hW.keep0 E4
 have hb := hb.step0 E4
 refine op_box (cs := [(Value.func (.func 104) #[] #[])]) (ev_base hN rfl s2) rfl ?_
 intro w6 b7 lo_b7 hi_b7 hB9 E8
 have z_w6 := E8.size
 have hx := hx.keep0 E8
 have hLa := hLa.keep0 E8
 have hR := hR.keep0 E8
 have hD : ∀ x9 ∈ (D.map rdL), Own w6 base 46 1 x9.1 x9.2.length (x9.2.map u16v) := fun x9 hx9 => (hD x9 hx9).keep0 E8
 have hW := hW.keep0 E8
 have hB5 := hB5.keep0 E8
 have hb := hb.step0 E8
 refine reg_nil ?_
 refine hK1 _ _ ?_
 refine seq_any fun K10 hK10 => ?_
 refine one_reg ?_
 refine op_move (ev_base hN rfl s0) ?_
 refine op_nil (ev_hit hN rfl) ?_
 refine op_field fld162_0 (ev_hit hN rfl) ?_
 refine op_load1 (v := wv) one26 (ev_hit hN rfl) (hx.cell rfl) ?_
 refine op_mkfn (cv := [(ptr b7 0), (ptr b3 0)]) ⟨(ev_hit hN rfl), ⟨(ev_hit hN rfl), trivial⟩⟩ ?_
 refine op_fn (vs := [wv, (Value.func (.func 128) #[] #[(ptr b7 0), (ptr b3 0)])]) ok124 ⟨(ev_hit hN rfl), ⟨(ev_hit hN rfl), trivial⟩⟩ (ContF_s (g := 128) (fs := []) (cs := [(ptr b7 0), (ptr b3 0)]) (p := (fun y => decide (x = y))) (hW.rdw.mono (Nat.zero_le _) (by omega)) ok128 (fun i hi w1 E => addS1 (hB9.keep0 (grown_of_below E)) (hB5.keep0 (grown_of_below E)))) ?_
 rintro _ w11 ⟨E12, rfl⟩
 have E12 := grown_of_below E12
 have z_w11 := E12.size
 have hx := hx.keep0 E12
 have hLa := hLa.keep0 E12
 have hR := hR.keep0 E12
 have hD : ∀ x9 ∈ (D.map rdL), Own w11 base 46 1 x9.1 x9.2.length (x9.2.map u16v) := fun x9 hx9 => (hD x9 hx9).keep0 E12
 have hW := hW.keep0 E12
 have hB5 := hB5.keep0 E12
 have hB9 := hB9.keep0 E12
 have hb := hb.step0 E12
 rcases Bool.eq_false_or_eq_true ((Wr.any (fun y => decide (x = y)))) with c11 | c11
 · -- 11T
  rw [c11]
  refine op_not (ev_hit hN rfl) ?_
  refine reg_nil ?_
  refine hK10 _ _ ?_
  refine wp_cond_false (ev_hit hN rfl) ?_
  refine wp_skip ?_
  refine end_ret ?_
  refine ret0 rfl hd  ⟨_, rfl, ?_⟩
  -- path 11T
  have ha : addW Wr x = Wr := if_pos c11
  exact ⟨hb, wv, hx, hW.cast (by rw [ha]) (by rw [ha]), fun y hy => .inl hy⟩
 · -- 11F
  rw [c11]
  refine op_not (ev_hit hN rfl) ?_
  refine reg_nil ?_
  refine hK10 _ _ ?_
  refine wp_cond_true (ev_hit hN rfl) ?_
  refine reg_split (hd := [_, _, _, _, _, _, _, _]) (tl := _) 8 mixed (by kernel_rfl) rfl rfl ?_
  refine any_env (φ := phiV [(fun uz => uz = (ptr p 3)), (fun uz => uz = (ptr p 3)), (fun uz => uz = (ptr p 3)), (fun uz => uz = (ptr p 3)), (fun uz => uz = wv), (fun uz => uz = (Value.string (bs x))), (fun _ => True), (fun _ => True)]) (G := fun w' => Bx w' p 164 [la, (Value.int .u64 stp), rv, wv, (Value.bool dm)] ∧ Bx w' b3 9 [(Value.string (bs x))]) [6, 7] (by kernel_rfl) (by kernel_rfl) (by kernel_rfl) (by kernel_rfl) hN (fun w1 w2 E h => by obtain ⟨h0, h1⟩ := h; exact ⟨h0.keep0 E, h1.keep0 E⟩) ⟨hx, hB5⟩ (ObEs.cons ?_ (ObEs.cons ?_ (ObEs.cons ?_ (ObEs.cons ?_ (ObEs.cons ?_ (ObEs.cons ?_ (ObEs.pass rfl (ObEs.pass rfl (ObEs.nil))))))))) (by simp only [putsL_defers]) ?_
  ·
   intro eA aA wA hNA hGA hbsA hdpA
   have qA_0 := (hbsA 0 rfl).trans (sl_base hN rfl s0)
   refine op_move (ev_base hNA rfl qA_0) ?_
   exact obE_end rfl rfl rfl
  ·
   intro eA aA wA hNA hGA hbsA hdpA
   have qA_0 := (hbsA 0 rfl).trans (sl_base hN rfl s0)
   refine op_move (ev_base hNA rfl qA_0) ?_
   exact obE_end rfl rfl rfl
  ·
   intro eA aA wA hNA hGA hbsA hdpA
   have qA_14 : Sl aA 14 (ptr p 3) := (hdpA 1 _ 14 (by kernel_rfl) rfl rfl).2 rfl
   refine op_nil (ev_base hNA rfl qA_14) ?_
   exact obE_end rfl rfl rfl
  ·
   intro eA aA wA hNA hGA hbsA hdpA
   have qA_15 : Sl aA 15 (ptr p 3) := (hdpA 2 _ 15 (by kernel_rfl) rfl rfl).2 rfl
   refine op_field fld162_0 (ev_base hNA rfl qA_15) ?_
   exact obE_end rfl rfl rfl
  ·
   intro eA aA wA hNA hGA hbsA hdpA
   have qA_16 : Sl aA 16 (ptr p 3) := (hdpA 3 _ 16 (by kernel_rfl) rfl rfl).2 rfl
   obtain ⟨hx, hB5⟩ := hGA
   refine op_load1 (v := wv) one26 (ev_base hNA rfl qA_16) (hx.cell rfl) ?_
   exact obE_end rfl rfl rfl
  ·
   intro eA aA wA hNA hGA hbsA hdpA
   have qA_4 := (hbsA 4 rfl).trans (sl_hit hN rfl)
   obtain ⟨hx, hB5⟩ := hGA
   refine op_load1 (v := (Value.string (bs x))) one9 (ev_base hNA rfl qA_4) (hB5.cell rfl) ?_
   exact obE_end rfl rfl rfl
  ·
   intro w13 E13 _ a13 hN13 hbs13 hdp13 o_ ho_; obtain rfl := Option.some.inj ho_
   have z_w13 := E13.size
   have hx := hx.keep0 E13
   have hLa := hLa.keep0 E13
   have hR := hR.keep0 E13
   have hD : ∀ x9 ∈ (D.map rdL), Own w13 base 46 1 x9.1 x9.2.length (x9.2.map u16v) := fun x9 hx9 => (hD x9 hx9).keep0 E13
   have hW := hW.keep0 E13
   have hB5 := hB5.keep0 E13
   have hB9 := hB9.keep0 E13
   have hb := hb.step0 E13
   have q13_18 : Sl a13 18 (Value.string (bs x)) := (hdp13 5 _ 18 (by kernel_rfl) rfl rfl).2 rfl
   refine op_bslice (e := 9) (pv := [(0, (Value.string (bs x)))]) (cs := [(Value.string (bs x))]) ⟨rfl, (ev_base hN13 rfl q13_18), trivial⟩ (by kernel_rfl) ?_
   intro w14 b15 lo_b15 hi_b15 hB17 E16
   have ne_b15_wv : wv.ownBlock ≠ some b15 := fun hh => by have := (hW.lt _ hh).2; omega
   have z_w14 := E16.size
   have hx := hx.keep0 E16
   have hLa := hLa.keep0 E16
   have hR := hR.keep0 E16
   have hD : ∀ x9 ∈ (D.map rdL), Own w14 base 46 1 x9.1 x9.2.length (x9.2.map u16v) := fun x9 hx9 => (hD x9 hx9).keep0 E16
   have hW := hW.keep0 E16
   have hB5 := hB5.keep0 E16
   have hB9 := hB9.keep0 E16
   have hb := hb.step0 E16
   refine ke_end rfl (by decide) rfl ⟨hx, hB5⟩ ?_
   intro w18 E18 _ a18 hN18 hbs18 hdp18 o_ ho_; obtain rfl := Option.some.inj ho_
   have z_w18 := E18.size
   have hx := hx.keep0 E18
   have hLa := hLa.keep0 E18
   have hR := hR.keep0 E18
   have hD : ∀ x9 ∈ (D.map rdL), Own w18 base 46 1 x9.1 x9.2.length (x9.2.map u16v) := fun x9 hx9 => (hD x9 hx9).keep0 E18
   have hW := hW.keep0 E18
   have hB5 := hB5.keep0 E18
   have hB9 := hB9.keep0 E18
   have hB17 := hB17.keep0 E18
   have hb := hb.step0 E18
   have q18_17 : Sl a18 17 wv := (hdp18 4 _ 17 (by kernel_rfl) rfl rfl).2 rfl
   have q18_19 : Sl a18 19 (Value.slice (some ⟨b15, 0, none⟩) 1 1) := (Option.some.inj ((hdp18 6 _ 19 (by kernel_rfl) rfl rfl).1 0 rfl)).symm
   have hP24 := hW
   refine op_append slt26 (ev_base hN18 rfl q18_17) hP24 (ev_base hN18 rfl q18_19) (Src.ofRd Try.underlying26 (by decide) (RdC.ofBx (sz := 1) (n := 1) hB17 rfl (by decide)) (by simp [Value.oneCell', u8v])) (by unfold maxLen; omega) (by omega) (Nat.le_trans (by assumption) hb.size) ?_
   intro v19 w20 hO22 E21 hm23
   have z_w20 := E21.size
   have hx := hx.keepO hP24 E21 (by decide)
   have hLa := hLa.keepT hP24 E21 (by decide)
   have hR := hR.keepT hP24 E21 (by decide)
   have hD : ∀ x9 ∈ (D.map rdL), Own w20 base 46 1 x9.1 x9.2.length (x9.2.map u16v) := fun x9 hx9 => (hD x9 hx9).keepT hP24 E21 (by decide)
   have hB5 := hB5.keep E21 (fun hh => ne_b3_wv hh.symm)
   have hB9 := hB9.keepO hP24 E21 (by decide)
   have hB17 := hB17.keep E21 (fun hh => ne_b15_wv hh.symm)
   have hb := hb.stepL E21 (fun _ _ h => .inr h)
   have hO22 : Own w20 base 9 1 v19 (Wr.length + 1) (((Wr ++ [x])).map sv) := by simpa [u8v, u16v, sv] using hO22
   have ne_b3_v19 : v19.ownBlock ≠ some b3 := ne_step (w1 := w18) ⟨E21, hm23⟩ (by omega) ne_b3_wv
   have ne_b15_v19 : v19.ownBlock ≠ some b15 := ne_step (w1 := w18) ⟨E21, hm23⟩ (by omega) ne_b15_wv
   refine ke_end rfl (by decide) rfl ⟨hx, hB5⟩ ?_
   intro w25 E25 a25 hN25 hd25 hbs25 hph25
   have hd25 := hd25.trans ((by simp only [putsL_defers] : _ = _).trans hd)
   have z_w25 := E25.size
   have hx := hx.keep0 E25
   have hLa := hLa.keep0 E25
   have hR := hR.keep0 E25
   have hD : ∀ x9 ∈ (D.map rdL), Own w25 base 46 1 x9.1 x9.2.length (x9.2.map u16v) := fun x9 hx9 => (hD x9 hx9).keep0 E25
   have hB5 := hB5.keep0 E25
   have hB9 := hB9.keep0 E25
   have hB17 := hB17.keep0 E25
   have hO22 := hO22.keep0 E25
   have hb := hb.step0 E25
   have s25_13 : Sl a25 13 (ptr p 3) := (hph25 0 _ 13 rfl rfl).2 rfl
   have s25_20 : Sl a25 20 v19 := (Option.some.inj ((hph25 7 _ 20 rfl rfl).1 1 rfl)).symm
   refine split_end ?_
   refine from_seq (tl := [_, _, _]) (by decide) (by kernel_rfl) rfl ?_
   refine op_nil (ev_base hN25 rfl s25_13) ?_
   refine op_field fld162_0 (ev_hit hN25 rfl) ?_
   have hx_old := hx
   refine op_store (vs := [v19]) (cs' := [la, (Value.int .u64 stp), rv, v19, (Value.bool dm)]) size26 (ev_hit hN25 rfl) (ev_base hN25 rfl s25_20) hO22.cl rfl (by simp only [List.all_cons, List.all_nil, Bool.true_and, Bool.and_true, hO22.one]; try rfl) hx (Nat.le_of_ble_eq_true rfl) rfl ?_
   intro w28 hx E29
   have z_w28 := E29.size
   have hLa := hLa.keepX hx_old E29 (by decide)
   have hR := hR.keepX hx_old E29 (by decide)
   have hD : ∀ x9 ∈ (D.map rdL), Own w28 base 46 1 x9.1 x9.2.length (x9.2.map u16v) := fun x9 hx9 => (hD x9 hx9).keepX hx_old E29 (by decide)
   have hB5 := hB5.keep E29 (fun hh => hB5.ne hx_old (by decide) (Option.some.inj hh))
   have hB9 := hB9.keep E29 (fun hh => hB9.ne hx_old (by decide) (Option.some.inj hh))
   have hB17 := hB17.keep E29 (fun hh => hB17.ne hx_old (by decide) (Option.some.inj hh))
   have hO22 := hO22.keepX hx_old E29 (by decide)
   have hb := hb.stepB E29 (.inl rfl)
   refine reg_nil ?_
   refine end_ret ?_
   refine ret0 rfl hd25  ⟨_, rfl, ?_⟩
   -- path 11F
   have ha : addW Wr x = Wr ++ [x] := if_neg (by rw [c11]; decide)
   exact ⟨hb, v19, hx, hO22.cast (by rw [ha]; simp) (by rw [ha]), sub_of_hm hm23 (by omega)⟩

theorem addRd {base p : Nat} {la rv wv : Value} {lab : List UInt16} {stp : Int} {D : List RD} {Wr : List (List UInt8)} {dm : Bool} {x : List UInt8} {l : List UInt16} {lv : Value} {w : World} (hbase : base ≤ w.heap.size) (hx : Bx w p 164 [la, .int .u64 stp, rv, wv, .bool dm]) (hLa : Own w base 46 1 la lab.length (lab.map u16v)) (hR : Own w base 169 2 rv D.length (D.flatMap cellsRd)) (hD : ∀ x9 ∈ D.map rdL, Own w base 46 1 x9.1 x9.2.length (x9.2.map u16v)) (hW : Own w base 9 1 wv Wr.length (Wr.map sv)) (h8 : lab.length ≤ 8 ∧ ∀ r ∈ D, r.lab.length ≤ 8) (hlv : Own w base 46 1 lv l.length (l.map u16v)) (hn9 : D.length ≤ 100000) : Ret Try.prog 100 #[(ptr p 2), (Value.agg #[(Value.string (bs x)), lv]), (Value.func (.func 101) #[] #[])] w (fun v' w' => Gr w w' (fun y => y = p ∨ Bl rv y) ∧ ∃ rv' D', Bx w' p 164 [la, .int .u64 stp, rv', wv, .bool dm] ∧ Own w' base 169 2 rv' D'.length (D'.flatMap cellsRd) ∧ (D' = D ∨ D' = D ++ [⟨x, lv, l⟩]) ∧ D'.map rOf = addR (D.map rOf) (x, l) ∧ (∀ y, Bl rv' y → Bl rv y ∨ w.heap.size ≤ y)) := by
 have hi_p := hx.lt
 have hb := Gr.refl w (fun y => y = p ∨ Bl rv y)
 refine enter (N := 23) Try.func100 rfl rfl (by simp) fun a0 hN hd hA => ?_
 have s0 : a0.tmps.getD 0 undef = (ptr p 2) := hA 0 (by simp)
 have s1 : a0.tmps.getD 1 undef = (Value.agg #[(Value.string (bs x)), lv]) := hA 1 (by simp)
 have s2 : a0.tmps.getD 2 undef = (Value.func (.func 101) #[] #[]) := hA 2 (by simp)
 clear hA
 refine seq_any fun K30 hK30 => ?_
 refine one_reg ?_
 refine op_box (cs := [(Value.string (bs x)), lv]) (ev_base hN rfl s1) rfl ?_
 intro w31 b32 lo_b32 hi_b32 hB34 E33
 have ne_b32_rv : rv.ownBlock ≠ some b32 := fun hh => by have := (hR.lt _ hh).2; omega
 have z_w31 := E33.size
 have hlv := hlv.keep0 E33
 have hx := hx.keep0 E33
 have hLa := hLa.keep0 E33
 have hR := hR.keep0 E33
 have hD : ∀ x9 ∈ (D.map rdL), Own w31 base 46 1 x9.1 x9.2.length (x9.2.map u16v) := fun x9 hx9 => (hD x9 hx9).keep0 E33
 have hW := hW.keep0 E33
 have hb := hb.step0 E33
 refine op_box (cs := [(Value.func (.func 101) #[] #[])]) (ev_base hN rfl s2) rfl ?_
 intro w35 b36 lo_b36 hi_b36 hB38 E37
 have z_w35 := E37.size
 have hlv := hlv.keep0 E37
 have hx := hx.keep0 E37
 have hLa := hLa.keep0 E37
 have hR := hR.keep0 E37
 have hD : ∀ x9 ∈ (D.map rdL), Own w35 base 46 1 x9.1 x9.2.length (x9.2.map u16v) := fun x9 hx9 => (hD x9 hx9).keep0 E37
 have hW := hW.keep0 E37
 have hB34 := hB34.keep0 E37
 have hb := hb.step0 E37
 refine reg_nil ?_
 refine hK30 _ _ ?_
 refine seq_any fun K39 hK39 => ?_
 refine one_reg ?_
 refine op_move (ev_base hN rfl s0) ?_
 refine op_nil (ev_hit hN rfl) ?_
 refine op_field fld160_0 (ev_hit hN rfl) ?_
 refine op_load1 (v := rv) one158 (ev_hit hN rfl) (hx.cell rfl) ?_
 refine op_mkfn (cv := [(ptr b36 0), (ptr b32 0)]) ⟨(ev_hit hN rfl), ⟨(ev_hit hN rfl), trivial⟩⟩ ?_
 refine op_fn (vs := [rv, (Value.func (.func 127) #[] #[(ptr b36 0), (ptr b32 0)])]) ok126 ⟨(ev_hit hN rfl), ⟨(ev_hit hN rfl), trivial⟩⟩ (ContF_r (g := 127) (fs := []) (cs := [(ptr b36 0), (ptr b32 0)]) (p := (fun r => decide (x = r.tab) && decide (l = r.lab))) (hR.rdw.mono (Nat.zero_le _) (by omega)) ok127 (fun i hi w1 E => addR1 (r := D.getD i default) (hB38.keep0 (grown_of_below E)) (hB34.keep0 (grown_of_below E)) ((hlv.rdw.keep0 (grown_of_below E)).mono (Nat.zero_le _) (by have := E.size; omega)) (((hD _ (List.mem_map.2 ⟨_, getD_mem hi, rfl⟩)).keep0 (grown_of_below E)).rdw.mono (Nat.zero_le _) (Nat.le_refl _)))) ?_
 rintro _ w40 ⟨E41, rfl⟩
 have E41 := grown_of_below E41
 have z_w40 := E41.size
 have hlv := hlv.keep0 E41
 have hx := hx.keep0 E41
 have hLa := hLa.keep0 E41
 have hR := hR.keep0 E41
 have hD : ∀ x9 ∈ (D.map rdL), Own w40 base 46 1 x9.1 x9.2.length (x9.2.map u16v) := fun x9 hx9 => (hD x9 hx9).keep0 E41
 have hW := hW.keep0 E41
 have hB34 := hB34.keep0 E41
 have hB38 := hB38.keep0 E41
 have hb := hb.step0 E41
 rcases Bool.eq_false_or_eq_true ((D.any (fun r => decide (x = r.tab) && decide (l = r.lab)))) with c11 | c11
 · -- 11T
  rw [c11]
  refine op_not (ev_hit hN rfl) ?_
  refine reg_nil ?_
  refine hK39 _ _ ?_
  refine wp_cond_false (ev_hit hN rfl) ?_
  refine wp_skip ?_
  refine end_ret ?_
  refine ret0 rfl hd  ⟨_, rfl, ?_⟩
  -- path 11T
  have ha : addR (D.map rOf) (x, l) = D.map rOf := if_pos (by rw [List.any_map]; exact c11)
  exact ⟨hb, rv, D, hx, hR, .inl rfl, ha.symm, fun y hy => .inl hy⟩
 · -- 11F
  rw [c11]
  refine op_not (ev_hit hN rfl) ?_
  refine reg_nil ?_
  refine hK39 _ _ ?_
  refine wp_cond_true (ev_hit hN rfl) ?_
  refine reg_split (hd := [_, _, _, _, _, _, _, _]) (tl := _) 8 mixed (by kernel_rfl) rfl rfl ?_
  refine any_env (φ := phiV [(fun uz => uz = (ptr p 2)), (fun uz => uz = (ptr p 2)), (fun uz => uz = (ptr p 2)), (fun uz => uz = (ptr p 2)), (fun uz => uz = rv), (fun uz => uz = (Value.agg #[(Value.string (bs x)), lv])), (fun _ => True), (fun _ => True)]) (G := fun w' => Bx w' p 164 [la, (Value.int .u64 stp), rv, wv, (Value.bool dm)] ∧ Bx w' b32 169 [(Value.string (bs x)), lv]) [6, 7] (by kernel_rfl) (by kernel_rfl) (by kernel_rfl) (by kernel_rfl) hN (fun w1 w2 E h => by obtain ⟨h0, h1⟩ := h; exact ⟨h0.keep0 E, h1.keep0 E⟩) ⟨hx, hB34⟩ (ObEs.cons ?_ (ObEs.cons ?_ (ObEs.cons ?_ (ObEs.cons ?_ (ObEs.cons ?_ (ObEs.cons ?_ (ObEs.pass rfl (ObEs.pass rfl (ObEs.nil))))))))) (by simp only [putsL_defers]) ?_
  ·
   intro eA aA wA hNA hGA hbsA hdpA
   have qA_0 := (hbsA 0 rfl).trans (sl_base hN rfl s0)
   refine op_move (ev_base hNA rfl qA_0) ?_
   exact obE_end rfl rfl rfl
  ·
   intro eA aA wA hNA hGA hbsA hdpA
   have qA_0 := (hbsA 0 rfl).trans (sl_base hN rfl s0)
   refine op_move (ev_base hNA rfl qA_0) ?_
   exact obE_end rfl rfl rfl
  ·
   intro eA aA wA hNA hGA hbsA hdpA
   have qA_14 : Sl aA 14 (ptr p 2) := (hdpA 1 _ 14 (by kernel_rfl) rfl rfl).2 rfl
   refine op_nil (ev_base hNA rfl qA_14) ?_
   exact obE_end rfl rfl rfl
  ·
   intro eA aA wA hNA hGA hbsA hdpA
   have qA_15 : Sl aA 15 (ptr p 2) := (hdpA 2 _ 15 (by kernel_rfl) rfl rfl).2 rfl
   refine op_field fld160_0 (ev_base hNA rfl qA_15) ?_
   exact obE_end rfl rfl rfl
  ·
   intro eA aA wA hNA hGA hbsA hdpA
   have qA_16 : Sl aA 16 (ptr p 2) := (hdpA 3 _ 16 (by kernel_rfl) rfl rfl).2 rfl
   obtain ⟨hx, hB34⟩ := hGA
   refine op_load1 (v := rv) one158 (ev_base hNA rfl qA_16) (hx.cell rfl) ?_
   exact obE_end rfl rfl rfl
  ·
   intro eA aA wA hNA hGA hbsA hdpA
   have qA_4 := (hbsA 4 rfl).trans (sl_hit hN rfl)
   obtain ⟨hx, hB34⟩ := hGA
   refine op_loadA (cs := [(Value.string (bs x)), lv]) agg169 rfl (ev_base hNA rfl qA_4) (fun j u hu => by rw [Nat.zero_add]; exact hB34.cell hu) ?_
   exact obE_end rfl rfl rfl
  ·
   intro w42 E42 _ a42 hN42 hbs42 hdp42 o_ ho_; obtain rfl := Option.some.inj ho_
   have z_w42 := E42.size
   have hlv := hlv.keep0 E42
   have hx := hx.keep0 E42
   have hLa := hLa.keep0 E42
   have hR := hR.keep0 E42
   have hD : ∀ x9 ∈ (D.map rdL), Own w42 base 46 1 x9.1 x9.2.length (x9.2.map u16v) := fun x9 hx9 => (hD x9 hx9).keep0 E42
   have hW := hW.keep0 E42
   have hB34 := hB34.keep0 E42
   have hB38 := hB38.keep0 E42
   have hb := hb.step0 E42
   have q42_18 : Sl a42 18 (Value.agg #[(Value.string (bs x)), lv]) := (hdp42 5 _ 18 (by kernel_rfl) rfl rfl).2 rfl
   refine op_bslice (e := 169) (pv := [(0, (Value.agg #[(Value.string (bs x)), lv]))]) (cs := [(Value.string (bs x)), lv]) ⟨rfl, (ev_base hN42 rfl q42_18), trivial⟩ (by obtain ⟨_, _, _, rfl⟩ := hlv.sl; kernel_rfl) ?_
   intro w43 b44 lo_b44 hi_b44 hB46 E45
   have ne_b44_rv : rv.ownBlock ≠ some b44 := fun hh => by have := (hR.lt _ hh).2; omega
   have z_w43 := E45.size
   have hlv := hlv.keep0 E45
   have hx := hx.keep0 E45
   have hLa := hLa.keep0 E45
   have hR := hR.keep0 E45
   have hD : ∀ x9 ∈ (D.map rdL), Own w43 base 46 1 x9.1 x9.2.length (x9.2.map u16v) := fun x9 hx9 => (hD x9 hx9).keep0 E45
   have hW := hW.keep0 E45
   have hB34 := hB34.keep0 E45
   have hB38 := hB38.keep0 E45
   have hb := hb.step0 E45
   refine ke_end rfl (by decide) rfl ⟨hx, hB34⟩ ?_
   intro w47 E47 _ a47 hN47 hbs47 hdp47 o_ ho_; obtain rfl := Option.some.inj ho_
   have z_w47 := E47.size
   have hlv := hlv.keep0 E47
   have hx := hx.keep0 E47
   have hLa := hLa.keep0 E47
   have hR := hR.keep0 E47
   have hD : ∀ x9 ∈ (D.map rdL), Own w47 base 46 1 x9.1 x9.2.length (x9.2.map u16v) := fun x9 hx9 => (hD x9 hx9).keep0 E47
   have hW := hW.keep0 E47
   have hB34 := hB34.keep0 E47
   have hB38 := hB38.keep0 E47
   have hB46 := hB46.keep0 E47
   have hb := hb.step0 E47
   have q47_17 : Sl a47 17 rv := (hdp47 4 _ 17 (by kernel_rfl) rfl rfl).2 rfl
   have q47_19 : Sl a47 19 (Value.slice (some ⟨b44, 0, none⟩) 1 1) := (Option.some.inj ((hdp47 6 _ 19 (by kernel_rfl) rfl rfl).1 0 rfl)).symm
   have hP53 := hR
   refine op_append slt158 (ev_base hN47 rfl q47_17) hP53 (ev_base hN47 rfl q47_19) (Src.ofRd Try.underlying158 (by decide) (RdC.ofBx (sz := 2) (n := 1) hB46 rfl (by decide)) (by simp only [List.all_cons, List.all_nil, Bool.true_and, Bool.and_true, hlv.one]; try rfl)) (by unfold maxLen; omega) (by omega) (Nat.le_trans (by assumption) hb.size) ?_
   intro v48 w49 hO51 E50 hm52
   have z_w49 := E50.size
   have hlv := hlv.keepT hP53 E50 (by decide)
   have hx := hx.keepO hP53 E50 (by decide)
   have hLa := hLa.keepT hP53 E50 (by decide)
   have hD : ∀ x9 ∈ (D.map rdL), Own w49 base 46 1 x9.1 x9.2.length (x9.2.map u16v) := fun x9 hx9 => (hD x9 hx9).keepT hP53 E50 (by decide)
   have hW := hW.keepT hP53 E50 (by decide)
   have hB34 := hB34.keep E50 (fun hh => ne_b32_rv hh.symm)
   have hB38 := hB38.keepO hP53 E50 (by decide)
   have hB46 := hB46.keep E50 (fun hh => ne_b44_rv hh.symm)
   have hb := hb.stepL E50 (fun _ _ h => .inr h)
   have hO51 : Own w49 base 169 2 v48 (D.length + 1) ((D.flatMap cellsRd ++ [(Value.string (bs x)), lv])) := by simpa [u8v, u16v, sv] using hO51
   have ne_b32_v48 : v48.ownBlock ≠ some b32 := ne_step (w1 := w47) ⟨E50, hm52⟩ (by omega) ne_b32_rv
   have ne_b44_v48 : v48.ownBlock ≠ some b44 := ne_step (w1 := w47) ⟨E50, hm52⟩ (by omega) ne_b44_rv
   refine ke_end rfl (by decide) rfl ⟨hx, hB34⟩ ?_
   intro w54 E54 a54 hN54 hd54 hbs54 hph54
   have hd54 := hd54.trans ((by simp only [putsL_defers] : _ = _).trans hd)
   have z_w54 := E54.size
   have hlv := hlv.keep0 E54
   have hx := hx.keep0 E54
   have hLa := hLa.keep0 E54
   have hD : ∀ x9 ∈ (D.map rdL), Own w54 base 46 1 x9.1 x9.2.length (x9.2.map u16v) := fun x9 hx9 => (hD x9 hx9).keep0 E54
   have hW := hW.keep0 E54
   have hB34 := hB34.keep0 E54
   have hB38 := hB38.keep0 E54
   have hB46 := hB46.keep0 E54
   have hO51 := hO51.keep0 E54
   have hb := hb.step0 E54
   have s54_13 : Sl a54 13 (ptr p 2) := (hph54 0 _ 13 rfl rfl).2 rfl
   have s54_20 : Sl a54 20 v48 := (Option.some.inj ((hph54 7 _ 20 rfl rfl).1 1 rfl)).symm
   refine split_end ?_
   refine from_seq (tl := [_, _, _]) (by decide) (by kernel_rfl) rfl ?_
   refine op_nil (ev_base hN54 rfl s54_13) ?_
   refine op_field fld160_0 (ev_hit hN54 rfl) ?_
   have hx_old := hx
   refine op_store (vs := [v48]) (cs' := [la, (Value.int .u64 stp), v48, wv, (Value.bool dm)]) size158 (ev_hit hN54 rfl) (ev_base hN54 rfl s54_20) hO51.cl rfl (by simp only [List.all_cons, List.all_nil, Bool.true_and, Bool.and_true, hO51.one]; try rfl) hx (Nat.le_of_ble_eq_true rfl) rfl ?_
   intro w57 hx E58
   have z_w57 := E58.size
   have hlv := hlv.keepX hx_old E58 (by decide)
   have hLa := hLa.keepX hx_old E58 (by decide)
   have hD : ∀ x9 ∈ (D.map rdL), Own w57 base 46 1 x9.1 x9.2.length (x9.2.map u16v) := fun x9 hx9 => (hD x9 hx9).keepX hx_old E58 (by decide)
   have hW := hW.keepX hx_old E58 (by decide)
   have hB34 := hB34.keep E58 (fun hh => hB34.ne hx_old (by decide) (Option.some.inj hh))
   have hB38 := hB38.keep E58 (fun hh => hB38.ne hx_old (by decide) (Option.some.inj hh))
   have hB46 := hB46.keep E58 (fun hh => hB46.ne hx_old (by decide) (Option.some.inj hh))
   have hO51 := hO51.keepX hx_old E58 (by decide)
   have hb := hb.stepB E58 (.inl rfl)
   refine reg_nil ?_
   refine end_ret ?_
   refine ret0 rfl hd54  ⟨_, rfl, ?_⟩
   -- path 11F
   have ha : addR (D.map rOf) (x, l) = D.map rOf ++ [(x, l)] := if_neg (by rw [List.any_map]; intro h9; exact absurd (h9.symm.trans c11) (by decide))
   exact ⟨hb, v48, _, hx, hO51.cast (by simp) (by simp [List.flatMap_append, cellsRd]), .inr rfl, by rw [ha]; simp [rOf], sub_of_hm hm52 (by omega)⟩

end Go.Proofs.Ytmhdbphpmgjpcaa

/- Locks as objects, the part L6. -/
namespace Go.Proofs.Ytmhdbphpmgjpcaa
open Go.Gx Go.RowKit

theorem apart_pw {w : World} {base p e sz n : Nat} {v u : Value} {cs cs2 tc : List Value} {e2 sz2 n2 : Nat} (O : Own w base e sz v n cs) (hx : Bx w p 164 tc) (O2 : Own w base e2 sz2 u n2 cs2) (h1 : e ≠ 164) (h2 : e ≠ e2) : Dj (Bl v) (fun y => y = p ∨ Bl u y) := fun y hy hf => by
  rcases hf with rfl | hf
  · exact O.neB hx (fun q => h1 q.symm) hy
  · exact O.notOwn O2 h2 y hy hf
theorem addS_T {w : World} {base p : Nat} {t : TX} {F : Nat → Prop} (x : List UInt8) (h : TxR w base p t F) (hbase : base ≤ w.heap.size) (ht : TOk t) (hn : t.writes.length ≤ 100000) :
    Ret Try.prog 103 #[ptr p 3, .string (bs x), (Value.func (.func 104) #[] #[])] w (fun v' w' => Gr w w' F ∧ ∃ F', TxR w' base p { t with writes := addW t.writes x } F' ∧ ∀ y, F' y → F y ∨ w.heap.size ≤ y) := by
  obtain ⟨la, rv, wv, D, h0, hx, hL, hR, hD, hW, hDe, hF⟩ := h.parts
  refine (addS (x := x) hbase hx hL hR hD hW ⟨ht.1, ht.rd hDe⟩ hn).mono fun v' w' q => ?_
  obtain ⟨E, wv', hx', hW', hsub⟩ := q
  refine ⟨E.mono fun y _ hy => (hF y).2 ?_, _, TxR.mk' (T := { t with writes := addW t.writes x }) h0 hx' (hL.keepG E (apart_pw hL hx hW (by decide) (by decide))) (hR.keepG E (apart_pw hR hx hW (by decide) (by decide))) (fun x9 hx9 => (hD x9 hx9).keepG E (apart_pw (hD x9 hx9) hx hW (by decide) (by decide))) hW' hDe, fun y hy => ?_⟩
  · rcases hy with hy | hy
    · exact .inl hy
    · exact .inr (.inr (.inr (.inl hy)))
  · rcases hy with hy | hy | hy | hy | hy
    · exact .inl ((hF y).2 (.inl hy))
    · exact .inl ((hF y).2 (.inr (.inl hy)))
    · exact .inl ((hF y).2 (.inr (.inr (.inl hy))))
    · exact (hsub y hy).imp (fun q => (hF y).2 (.inr (.inr (.inr (.inl q))))) id
    · exact .inl ((hF y).2 (.inr (.inr (.inr (.inr hy)))))
theorem addR_T {w : World} {base p : Nat} {t : TX} {F : Nat → Prop} (x : List UInt8) {l : List UInt16} {lv : Value} (h : TxR w base p t F) (hlv : Own w base 46 1 lv l.length (l.map u16v)) (hbase : base ≤ w.heap.size) (ht : TOk t) (hn : t.reads.length ≤ 100000) :
    Ret Try.prog 100 #[ptr p 2, .agg #[.string (bs x), lv], (Value.func (.func 101) #[] #[])] w (fun v' w' => Gr w w' F ∧ ∃ F', TxR w' base p { t with reads := addR t.reads (x, l) } F' ∧ ∀ y, F' y → F y ∨ Bl lv y ∨ w.heap.size ≤ y) := by
  obtain ⟨la, rv, wv, D, h0, hx, hL, hR, hD, hW, hDe, hF⟩ := h.parts
  have hn2 : D.length ≤ 100000 := by rw [← hDe] at hn; simpa using hn
  refine (addRd (x := x) hbase hx hL hR hD hW ⟨ht.1, ht.rd hDe⟩ hlv hn2).mono fun v' w' q => ?_
  obtain ⟨E, rv', D', hx', hR', hD', hDe', hsub⟩ := q
  have hD2 : ∀ x9 ∈ D'.map rdL, Own w' base 46 1 x9.1 x9.2.length (x9.2.map u16v) := by
    intro x9 hx9
    have hold : ∀ x9 ∈ D.map rdL, Own w' base 46 1 x9.1 x9.2.length (x9.2.map u16v) := fun x9 hx9 => (hD x9 hx9).keepG E (apart_pw (hD x9 hx9) hx hR (by decide) (by decide))
    rcases hD' with rfl | rfl
    · exact hold x9 hx9
    · rw [List.map_append] at hx9
      rcases List.mem_append.1 hx9 with q | q
      · exact hold x9 q
      · obtain rfl : x9 = (lv, l) := by simpa [rdL] using q
        exact hlv.keepG E (apart_pw hlv hx hR (by decide) (by decide))
  refine ⟨E.mono fun y _ hy => (hF y).2 ?_, _, TxR.mk' (T := { t with reads := addR t.reads (x, l) }) h0 hx' (hL.keepG E (apart_pw hL hx hR (by decide) (by decide))) hR' hD2 (hW.keepG E (apart_pw hW hx hR (by decide) (by decide))) (by rw [hDe', hDe]), fun y hy => ?_⟩
  · rcases hy with hy | hy
    · exact .inl hy
    · exact .inr (.inr (.inl hy))
  · rcases hy with hy | hy | hy | hy | ⟨r, hr, hy⟩
    · exact .inl ((hF y).2 (.inl hy))
    · exact .inl ((hF y).2 (.inr (.inl hy)))
    · exact (hsub y hy).imp (fun q => (hF y).2 (.inr (.inr (.inl q)))) .inr
    · exact .inl ((hF y).2 (.inr (.inr (.inr (.inl hy)))))
    · rcases hD' with rfl | rfl
      · exact .inl ((hF y).2 (.inr (.inr (.inr (.inr ⟨r, hr, hy⟩)))))
      · rcases List.mem_append.1 hr with q | q
        · exact .inl ((hF y).2 (.inr (.inr (.inr (.inr ⟨r, q, hy⟩)))))
        · obtain rfl : r = ⟨x, lv, l⟩ := by simpa using q
          exact .inr (.inl hy)
end Go.Proofs.Ytmhdbphpmgjpcaa

/- Walks, written by a program: what each function of the translation hands back. -/
namespace Go.Proofs.Ytmhdbphpmgjpcaa
open Go.Gx Go.RowKit
attribute [local irreducible] wpList wpStill Code.wp Calls

theorem at_hit {k m p : Nat} {es : List (Int × Nat)} (n : Int) {w : World} (hk : Bx w k 121 [.map (some m)]) (hM : MapC (Value.int .i64) pv w m es) (hg : mget es n = some p) : Ret Try.prog 95 #[(ptr k 0), (Value.int .i64 n)] w (fun v' w' => v' = .tuple #[ptr p 0, .int .i64 0] ∧ w' = w) := by
 have hb := Below.refl w.heap.size w
 refine enter (N := 22) Try.func95 rfl rfl (by simp) fun a0 hN hd hA => ?_
 have s0 : a0.tmps.getD 0 undef = (ptr k 0) := hA 0 (by simp)
 have s1 : a0.tmps.getD 1 undef = (Value.int .i64 n) := hA 1 (by simp)
 clear hA
 refine seq_any fun K1 hK1 => ?_
 refine one_reg ?_
 refine op_assign rfl ?_
 refine op_assign rfl ?_
 refine reg_nil ?_
 refine hK1 _ _ ?_
 refine seq_any fun K2 hK2 => ?_
 refine seq_any fun K3 hK3 => ?_
 refine one_reg ?_
 refine op_move (ev_base hN rfl s0) ?_
 refine op_peq_some ptrt93 (ev_hit hN rfl) rfl ?_
 refine reg_nil ?_
 refine hK3 _ _ ?_
 refine wp_cond_false (ev_hit hN rfl) ?_
 refine wp_skip ?_
 refine hK2 _ _ ?_
 refine seq_any fun K4 hK4 => ?_
 refine one_reg ?_
 refine op_move (ev_base hN rfl s0) ?_
 refine op_nil (ev_hit hN rfl) ?_
 refine op_field fld121_0 (ev_hit hN rfl) ?_
 refine op_load1 (v := (Value.map (some m))) one119 (ev_hit hN rfl) (hk.cell rfl) ?_
 refine op_move (ev_base hN rfl s1) ?_
 refine op_look2_hit (k := n) (v := p) Try.underlying119 (Go.Gx.key_int Try.underlying3) zero155 (ev_hit hN rfl) (ev_hit hN rfl) hM hg ?_
 refine op_move (ev_hit hN rfl) ?_
 refine op_extract (ev_hit hN rfl) rfl ?_
 refine op_extract (ev_hit hN rfl) rfl ?_
 refine op_assign (ev_hit hN rfl) ?_
 refine op_assign (ev_hit hN rfl) ?_
 refine reg_nil ?_
 refine hK4 _ _ ?_
 refine seq_any fun K5 hK5 => ?_
 refine seq_any fun K6 hK6 => ?_
 refine one_reg ?_
 refine op_move (ev_hit hN rfl) ?_
 refine op_not (ev_hit hN rfl) ?_
 refine reg_nil ?_
 refine hK6 _ _ ?_
 refine wp_cond_false (ev_hit hN rfl) ?_
 refine wp_skip ?_
 refine hK5 _ _ ?_
 refine seq_any fun K7 hK7 => ?_
 refine one_reg ?_
 refine op_move (ev_hit hN rfl) ?_
 refine op_assign (ev_hit hN rfl) ?_
 refine op_assign rfl ?_
 refine reg_nil ?_
 refine hK7 _ _ ?_
 refine wp_ret ?_
 refine ret2 rfl hd (ev_hit hN rfl) (ev_hit hN rfl) ⟨_, rfl, ?_⟩
 -- path
 exact ⟨rfl, rfl⟩

theorem at_miss {k m : Nat} {es : List (Int × Nat)} (n : Int) {w : World} (hk : Bx w k 121 [.map (some m)]) (hM : MapC (Value.int .i64) pv w m es) (hg : mget es n = none) : Ret Try.prog 95 #[(ptr k 0), (Value.int .i64 n)] w (fun v' w' => v' = .tuple #[.pointer none, .int .i64 18] ∧ w' = w) := by
 have hb := Below.refl w.heap.size w
 refine enter (N := 22) Try.func95 rfl rfl (by simp) fun a0 hN hd hA => ?_
 have s0 : a0.tmps.getD 0 undef = (ptr k 0) := hA 0 (by simp)
 have s1 : a0.tmps.getD 1 undef = (Value.int .i64 n) := hA 1 (by simp)
 clear hA
 refine seq_any fun K8 hK8 => ?_
 refine one_reg ?_
 refine op_assign rfl ?_
 refine op_assign rfl ?_
 refine reg_nil ?_
 refine hK8 _ _ ?_
 refine seq_any fun K9 hK9 => ?_
 refine seq_any fun K10 hK10 => ?_
 refine one_reg ?_
 refine op_move (ev_base hN rfl s0) ?_
 refine op_peq_some ptrt93 (ev_hit hN rfl) rfl ?_
 refine reg_nil ?_
 refine hK10 _ _ ?_
 refine wp_cond_false (ev_hit hN rfl) ?_
 refine wp_skip ?_
 refine hK9 _ _ ?_
 refine seq_any fun K11 hK11 => ?_
 refine one_reg ?_
 refine op_move (ev_base hN rfl s0) ?_
 refine op_nil (ev_hit hN rfl) ?_
 refine op_field fld121_0 (ev_hit hN rfl) ?_
 refine op_load1 (v := (Value.map (some m))) one119 (ev_hit hN rfl) (hk.cell rfl) ?_
 refine op_move (ev_base hN rfl s1) ?_
 refine op_look2_miss (k := n) Try.underlying119 (Go.Gx.key_int Try.underlying3) zero155 (ev_hit hN rfl) (ev_hit hN rfl) hM hg ?_
 refine op_move (ev_hit hN rfl) ?_
 refine op_extract (ev_hit hN rfl) rfl ?_
 refine op_extract (ev_hit hN rfl) rfl ?_
 refine op_assign (ev_hit hN rfl) ?_
 refine op_assign (ev_hit hN rfl) ?_
 refine reg_nil ?_
 refine hK11 _ _ ?_
 refine seq_any fun K12 hK12 => ?_
 refine seq_any fun K13 hK13 => ?_
 refine one_reg ?_
 refine op_move (ev_hit hN rfl) ?_
 refine op_not (ev_hit hN rfl) ?_
 refine reg_nil ?_
 refine hK13 _ _ ?_
 refine wp_cond_true (ev_hit hN rfl) ?_
 refine seq_any fun K14 hK14 => ?_
 refine one_reg ?_
 refine op_assign rfl ?_
 refine op_assign rfl ?_
 refine reg_nil ?_
 refine hK14 _ _ ?_
 refine wp_ret (then_ret ( ?_))
 refine ret2 rfl hd (ev_hit hN rfl) (ev_hit hN rfl) ⟨_, rfl, ?_⟩
 -- path
 exact ⟨rfl, rfl⟩

theorem at_nomap {k : Nat} (n : Int) {w : World} (hk : Bx w k 121 [.map none]) : Ret Try.prog 95 #[(ptr k 0), (Value.int .i64 n)] w (fun v' w' => v' = .tuple #[.pointer none, .int .i64 18] ∧ w' = w) := by
 have hb := Below.refl w.heap.size w
 refine enter (N := 22) Try.func95 rfl rfl (by simp) fun a0 hN hd hA => ?_
 have s0 : a0.tmps.getD 0 undef = (ptr k 0) := hA 0 (by simp)
 have s1 : a0.tmps.getD 1 undef = (Value.int .i64 n) := hA 1 (by simp)
 clear hA
 refine seq_any fun K15 hK15 => ?_
 refine one_reg ?_
 refine op_assign rfl ?_
 refine op_assign rfl ?_
 refine reg_nil ?_
 refine hK15 _ _ ?_
 refine seq_any fun K16 hK16 => ?_
 refine seq_any fun K17 hK17 => ?_
 refine one_reg ?_
 refine op_move (ev_base hN rfl s0) ?_
 refine op_peq_some ptrt93 (ev_hit hN rfl) rfl ?_
 refine reg_nil ?_
 refine hK17 _ _ ?_
 refine wp_cond_false (ev_hit hN rfl) ?_
 refine wp_skip ?_
 refine hK16 _ _ ?_
 refine seq_any fun K18 hK18 => ?_
 refine one_reg ?_
 refine op_move (ev_base hN rfl s0) ?_
 refine op_nil (ev_hit hN rfl) ?_
 refine op_field fld121_0 (ev_hit hN rfl) ?_
 refine op_load1 (v := (Value.map none)) one119 (ev_hit hN rfl) (hk.cell rfl) ?_
 refine op_move (ev_base hN rfl s1) ?_
 refine op_look2_nil (k := n) Try.underlying119 (Go.Gx.key_int Try.underlying3) zero155 (ev_hit hN rfl) (ev_hit hN rfl) ?_
 refine op_move (ev_hit hN rfl) ?_
 refine op_extract (ev_hit hN rfl) rfl ?_
 refine op_extract (ev_hit hN rfl) rfl ?_
 refine op_assign (ev_hit hN rfl) ?_
 refine op_assign (ev_hit hN rfl) ?_
 refine reg_nil ?_
 refine hK18 _ _ ?_
 refine seq_any fun K19 hK19 => ?_
 refine seq_any fun K20 hK20 => ?_
 refine one_reg ?_
 refine op_move (ev_hit hN rfl) ?_
 refine op_not (ev_hit hN rfl) ?_
 refine reg_nil ?_
 refine hK20 _ _ ?_
 refine wp_cond_true (ev_hit hN rfl) ?_
 refine seq_any fun K21 hK21 => ?_
 refine one_reg ?_
 refine op_assign rfl ?_
 refine op_assign rfl ?_
 refine reg_nil ?_
 refine hK21 _ _ ?_
 refine wp_ret (then_ret ( ?_))
 refine ret2 rfl hd (ev_hit hN rfl) (ev_hit hN rfl) ⟨_, rfl, ?_⟩
 -- path
 exact ⟨rfl, rfl⟩

theorem Leave_miss {n : Int} {k m : Nat} {es : List (Int × Nat)} {w : World} (hk : Bx w k 121 [.map (some m)]) (hM : MapC (Value.int .i64) pv w m es) (hg : mget es n = none)  : Ret Try.prog 57 #[(ptr k 0), (Value.int .i64 n)] w (fun v' w' => Below w.heap.size w w' ∧ v' = .int .i64 18) := by
 have hb := Below.refl w.heap.size w
 refine enter (N := 21) Try.func57 rfl rfl (by simp) fun a0 hN hd hA => ?_
 have s0 : a0.tmps.getD 0 undef = (ptr k 0) := hA 0 (by simp)
 have s1 : a0.tmps.getD 1 undef = (Value.int .i64 n) := hA 1 (by simp)
 clear hA
 refine seq_any fun K26 hK26 => ?_
 refine one_reg ?_
 refine op_assign rfl ?_
 refine reg_nil ?_
 refine hK26 _ _ ?_
 refine seq_any fun K27 hK27 => ?_
 refine one_reg ?_
 refine op_move (ev_base hN rfl s0) ?_
 refine op_move (ev_base hN rfl s1) ?_
 refine op_fn (vs := [(ptr k 0), (Value.int .i64 n)]) ok95 ⟨(ev_hit hN rfl), ⟨(ev_hit hN rfl), trivial⟩⟩ (Ret.flip (at_miss n hk hM hg)) ?_
 rintro _ _ ⟨rfl, rfl⟩
 refine op_move (ev_hit hN rfl) ?_
 refine op_extract (ev_hit hN rfl) rfl ?_
 refine op_extract (ev_hit hN rfl) rfl ?_
 refine op_assign (ev_hit hN rfl) ?_
 refine op_assign (ev_hit hN rfl) ?_
 refine reg_nil ?_
 refine hK27 _ _ ?_
 refine seq_any fun K28 hK28 => ?_
 refine seq_any fun K29 hK29 => ?_
 refine one_reg ?_
 refine op_move (ev_hit hN rfl) ?_
 refine op_bin (v := .bool false) (ev_hit hN rfl) rfl (by rw [binOp_eql]; rfl) ?_
 refine reg_nil ?_
 refine hK29 _ _ ?_
 refine wp_cond_false (ev_hit hN rfl) ?_
 refine wp_skip ?_
 refine hK28 _ _ ?_
 refine seq_any fun K30 hK30 => ?_
 refine one_reg ?_
 refine op_move (ev_hit hN rfl) ?_
 refine op_assign (ev_hit hN rfl) ?_
 refine reg_nil ?_
 refine hK30 _ _ ?_
 refine wp_ret ?_
 refine ret1 rfl hd (ev_hit hN rfl) ⟨_, rfl, ?_⟩
 -- path
 exact ⟨hb, rfl⟩

theorem Doomed_miss {n : Int} {k m : Nat} {es : List (Int × Nat)} {w : World} (hk : Bx w k 121 [.map (some m)]) (hM : MapC (Value.int .i64) pv w m es) (hg : mget es n = none)  : Ret Try.prog 62 #[(ptr k 0), (Value.int .i64 n)] w (fun v' w' => Below w.heap.size w w' ∧ v' = .bool false) := by
 have hb := Below.refl w.heap.size w
 refine enter (N := 21) Try.func62 rfl rfl (by simp) fun a0 hN hd hA => ?_
 have s0 : a0.tmps.getD 0 undef = (ptr k 0) := hA 0 (by simp)
 have s1 : a0.tmps.getD 1 undef = (Value.int .i64 n) := hA 1 (by simp)
 clear hA
 refine seq_any fun K31 hK31 => ?_
 refine one_reg ?_
 refine op_assign rfl ?_
 refine reg_nil ?_
 refine hK31 _ _ ?_
 refine seq_any fun K32 hK32 => ?_
 refine one_reg ?_
 refine op_move (ev_base hN rfl s0) ?_
 refine op_move (ev_base hN rfl s1) ?_
 refine op_fn (vs := [(ptr k 0), (Value.int .i64 n)]) ok95 ⟨(ev_hit hN rfl), ⟨(ev_hit hN rfl), trivial⟩⟩ (Ret.flip (at_miss n hk hM hg)) ?_
 rintro _ _ ⟨rfl, rfl⟩
 refine op_move (ev_hit hN rfl) ?_
 refine op_extract (ev_hit hN rfl) rfl ?_
 refine op_extract (ev_hit hN rfl) rfl ?_
 refine op_assign (ev_hit hN rfl) ?_
 refine op_assign (ev_hit hN rfl) ?_
 refine reg_nil ?_
 refine hK32 _ _ ?_
 refine seq_any fun K33 hK33 => ?_
 refine one_reg ?_
 refine op_move (ev_hit hN rfl) ?_
 refine op_bin (v := .bool false) (ev_hit hN rfl) rfl (by rw [binOp_eql]; rfl) ?_
 refine op_move (ev_hit hN rfl) ?_
 refine g_false (j := 2) (dj := 15) (b := true) rfl rfl rfl (ev_hit hN rfl) rfl rfl ?_
 refine g_false (j := 2) (dj := 15) (b := true) rfl rfl rfl (ev_hit hN rfl) rfl rfl ?_
 refine g_false (j := 2) (dj := 15) (b := true) rfl rfl rfl (ev_hit hN rfl) rfl rfl ?_
 refine g_false (j := 2) (dj := 15) (b := true) rfl rfl rfl (ev_hit hN rfl) rfl rfl ?_
 refine op_pick_f (ev_hit hN rfl) rfl ?_
 refine op_assign (ev_hit hN rfl) ?_
 refine reg_nil ?_
 refine hK33 _ _ ?_
 refine wp_ret ?_
 refine ret1 rfl hd (ev_hit hN rfl) ⟨_, rfl, ?_⟩
 -- path
 exact ⟨hb, rfl⟩

theorem Wrote_miss {n : Int} {k m : Nat} {es : List (Int × Nat)} {w : World} (hk : Bx w k 121 [.map (some m)]) (hM : MapC (Value.int .i64) pv w m es) (hg : mget es n = none)  : Ret Try.prog 70 #[(ptr k 0), (Value.int .i64 n)] w (fun v' w' => Below w.heap.size w w' ∧ v' = .slice none 0 0) := by
 have hb := Below.refl w.heap.size w
 refine enter (N := 21) Try.func70 rfl rfl (by simp) fun a0 hN hd hA => ?_
 have s0 : a0.tmps.getD 0 undef = (ptr k 0) := hA 0 (by simp)
 have s1 : a0.tmps.getD 1 undef = (Value.int .i64 n) := hA 1 (by simp)
 clear hA
 refine seq_any fun K34 hK34 => ?_
 refine one_reg ?_
 refine op_assign rfl ?_
 refine reg_nil ?_
 refine hK34 _ _ ?_
 refine seq_any fun K35 hK35 => ?_
 refine one_reg ?_
 refine op_move (ev_base hN rfl s0) ?_
 refine op_move (ev_base hN rfl s1) ?_
 refine op_fn (vs := [(ptr k 0), (Value.int .i64 n)]) ok95 ⟨(ev_hit hN rfl), ⟨(ev_hit hN rfl), trivial⟩⟩ (Ret.flip (at_miss n hk hM hg)) ?_
 rintro _ _ ⟨rfl, rfl⟩
 refine op_move (ev_hit hN rfl) ?_
 refine op_extract (ev_hit hN rfl) rfl ?_
 refine op_extract (ev_hit hN rfl) rfl ?_
 refine op_assign (ev_hit hN rfl) ?_
 refine op_assign (ev_hit hN rfl) ?_
 refine reg_nil ?_
 refine hK35 _ _ ?_
 refine seq_any fun K36 hK36 => ?_
 refine seq_any fun K37 hK37 => ?_
 refine one_reg ?_
 refine op_move (ev_hit hN rfl) ?_
 refine op_bin (v := .bool true) (ev_hit hN rfl) rfl (by rw [binOp_neq]; rfl) ?_
 refine reg_nil ?_
 refine hK37 _ _ ?_
 refine wp_cond_true (ev_hit hN rfl) ?_
 refine seq_any fun K38 hK38 => ?_
 refine one_reg ?_
 refine op_assign rfl ?_
 refine reg_nil ?_
 refine hK38 _ _ ?_
 refine wp_ret (then_ret ( ?_))
 refine ret1 rfl hd (ev_hit hN rfl) ⟨_, rfl, ?_⟩
 -- path
 exact ⟨hb, rfl⟩

theorem Move_miss {lv : Value} {s : Int} {n : Int} {k m : Nat} {es : List (Int × Nat)} {w : World} (hk : Bx w k 121 [.map (some m)]) (hM : MapC (Value.int .i64) pv w m es) (hg : mget es n = none)  : Ret Try.prog 59 #[(ptr k 0), (Value.int .i64 n), lv, (Value.int .u64 s)] w (fun v' w' => Below w.heap.size w w' ∧ v' = .int .i64 18) := by
 have hb := Below.refl w.heap.size w
 refine enter (N := 38) Try.func59 rfl rfl (by simp) fun a0 hN hd hA => ?_
 have s0 : a0.tmps.getD 0 undef = (ptr k 0) := hA 0 (by simp)
 have s1 : a0.tmps.getD 1 undef = (Value.int .i64 n) := hA 1 (by simp)
 have s2 : a0.tmps.getD 2 undef = lv := hA 2 (by simp)
 have s3 : a0.tmps.getD 3 undef = (Value.int .u64 s) := hA 3 (by simp)
 clear hA
 refine seq_any fun K39 hK39 => ?_
 refine one_reg ?_
 refine op_assign rfl ?_
 refine reg_nil ?_
 refine hK39 _ _ ?_
 refine seq_any fun K40 hK40 => ?_
 refine one_reg ?_
 refine op_move (ev_base hN rfl s0) ?_
 refine op_move (ev_base hN rfl s1) ?_
 refine op_fn (vs := [(ptr k 0), (Value.int .i64 n)]) ok95 ⟨(ev_hit hN rfl), ⟨(ev_hit hN rfl), trivial⟩⟩ (Ret.flip (at_miss n hk hM hg)) ?_
 rintro _ _ ⟨rfl, rfl⟩
 refine op_move (ev_hit hN rfl) ?_
 refine op_extract (ev_hit hN rfl) rfl ?_
 refine op_extract (ev_hit hN rfl) rfl ?_
 refine op_assign (ev_hit hN rfl) ?_
 refine op_assign (ev_hit hN rfl) ?_
 refine reg_nil ?_
 refine hK40 _ _ ?_
 refine seq_any fun K41 hK41 => ?_
 refine wp_block ?_
 refine seq_any fun K42 hK42 => ?_
 refine one_reg ?_
 refine op_move (ev_hit hN rfl) ?_
 refine op_bin (v := .bool true) (ev_hit hN rfl) rfl (by rw [binOp_neq]; rfl) ?_
 refine op_assign (ev_hit hN rfl) ?_
 refine reg_nil ?_
 refine hK42 _ _ ?_
 refine wp_cond_true (ev_hit hN rfl) ?_
 refine seq_any fun K43 hK43 => ?_
 refine one_reg ?_
 refine op_move (ev_hit hN rfl) ?_
 refine op_assign (ev_hit hN rfl) ?_
 refine reg_nil ?_
 refine hK43 _ _ ?_
 refine wp_ret (blk_ret (then_ret ( ?_)))
 refine ret1 rfl hd (ev_hit hN rfl) ⟨_, rfl, ?_⟩
 -- path
 exact ⟨hb, rfl⟩

theorem Leave_nomap {n : Int} {k : Nat} {w : World} (hk : Bx w k 121 [.map none])  : Ret Try.prog 57 #[(ptr k 0), (Value.int .i64 n)] w (fun v' w' => Below w.heap.size w w' ∧ v' = .int .i64 18) := by
 have hb := Below.refl w.heap.size w
 refine enter (N := 21) Try.func57 rfl rfl (by simp) fun a0 hN hd hA => ?_
 have s0 : a0.tmps.getD 0 undef = (ptr k 0) := hA 0 (by simp)
 have s1 : a0.tmps.getD 1 undef = (Value.int .i64 n) := hA 1 (by simp)
 clear hA
 refine seq_any fun K44 hK44 => ?_
 refine one_reg ?_
 refine op_assign rfl ?_
 refine reg_nil ?_
 refine hK44 _ _ ?_
 refine seq_any fun K45 hK45 => ?_
 refine one_reg ?_
 refine op_move (ev_base hN rfl s0) ?_
 refine op_move (ev_base hN rfl s1) ?_
 refine op_fn (vs := [(ptr k 0), (Value.int .i64 n)]) ok95 ⟨(ev_hit hN rfl), ⟨(ev_hit hN rfl), trivial⟩⟩ (Ret.flip (at_nomap n hk)) ?_
 rintro _ _ ⟨rfl, rfl⟩
 refine op_move (ev_hit hN rfl) ?_
 refine op_extract (ev_hit hN rfl) rfl ?_
 refine op_extract (ev_hit hN rfl) rfl ?_
 refine op_assign (ev_hit hN rfl) ?_
 refine op_assign (ev_hit hN rfl) ?_
 refine reg_nil ?_
 refine hK45 _ _ ?_
 refine seq_any fun K46 hK46 => ?_
 refine seq_any fun K47 hK47 => ?_
 refine one_reg ?_
 refine op_move (ev_hit hN rfl) ?_
 refine op_bin (v := .bool false) (ev_hit hN rfl) rfl (by rw [binOp_eql]; rfl) ?_
 refine reg_nil ?_
 refine hK47 _ _ ?_
 refine wp_cond_false (ev_hit hN rfl) ?_
 refine wp_skip ?_
 refine hK46 _ _ ?_
 refine seq_any fun K48 hK48 => ?_
 refine one_reg ?_
 refine op_move (ev_hit hN rfl) ?_
 refine op_assign (ev_hit hN rfl) ?_
 refine reg_nil ?_
 refine hK48 _ _ ?_
 refine wp_ret ?_
 refine ret1 rfl hd (ev_hit hN rfl) ⟨_, rfl, ?_⟩
 -- path
 exact ⟨hb, rfl⟩

theorem Doomed_nomap {n : Int} {k : Nat} {w : World} (hk : Bx w k 121 [.map none])  : Ret Try.prog 62 #[(ptr k 0), (Value.int .i64 n)] w (fun v' w' => Below w.heap.size w w' ∧ v' = .bool false) := by
 have hb := Below.refl w.heap.size w
 refine enter (N := 21) Try.func62 rfl rfl (by simp) fun a0 hN hd hA => ?_
 have s0 : a0.tmps.getD 0 undef = (ptr k 0) := hA 0 (by simp)
 have s1 : a0.tmps.getD 1 undef = (Value.int .i64 n) := hA 1 (by simp)
 clear hA
 refine seq_any fun K49 hK49 => ?_
 refine one_reg ?_
 refine op_assign rfl ?_
 refine reg_nil ?_
 refine hK49 _ _ ?_
 refine seq_any fun K50 hK50 => ?_
 refine one_reg ?_
 refine op_move (ev_base hN rfl s0) ?_
 refine op_move (ev_base hN rfl s1) ?_
 refine op_fn (vs := [(ptr k 0), (Value.int .i64 n)]) ok95 ⟨(ev_hit hN rfl), ⟨(ev_hit hN rfl), trivial⟩⟩ (Ret.flip (at_nomap n hk)) ?_
 rintro _ _ ⟨rfl, rfl⟩
 refine op_move (ev_hit hN rfl) ?_
 refine op_extract (ev_hit hN rfl) rfl ?_
 refine op_extract (ev_hit hN rfl) rfl ?_
 refine op_assign (ev_hit hN rfl) ?_
 refine op_assign (ev_hit hN rfl) ?_
 refine reg_nil ?_
 refine hK50 _ _ ?_
 refine seq_any fun K51 hK51 => ?_
 refine one_reg ?_
 refine op_move (ev_hit hN rfl) ?_
 refine op_bin (v := .bool false) (ev_hit hN rfl) rfl (by rw [binOp_eql]; rfl) ?_
 refine op_move (ev_hit hN rfl) ?_
 refine g_false (j := 2) (dj := 15) (b := true) rfl rfl rfl (ev_hit hN rfl) rfl rfl ?_
 refine g_false (j := 2) (dj := 15) (b := true) rfl rfl rfl (ev_hit hN rfl) rfl rfl ?_
 refine g_false (j := 2) (dj := 15) (b := true) rfl rfl rfl (ev_hit hN rfl) rfl rfl ?_
 refine g_false (j := 2) (dj := 15) (b := true) rfl rfl rfl (ev_hit hN rfl) rfl rfl ?_
 refine op_pick_f (ev_hit hN rfl) rfl ?_
 refine op_assign (ev_hit hN rfl) ?_
 refine reg_nil ?_
 refine hK51 _ _ ?_
 refine wp_ret ?_
 refine ret1 rfl hd (ev_hit hN rfl) ⟨_, rfl, ?_⟩
 -- path
 exact ⟨hb, rfl⟩

theorem Wrote_nomap {n : Int} {k : Nat} {w : World} (hk : Bx w k 121 [.map none])  : Ret Try.prog 70 #[(ptr k 0), (Value.int .i64 n)] w (fun v' w' => Below w.heap.size w w' ∧ v' = .slice none 0 0) := by
 have hb := Below.refl w.heap.size w
 refine enter (N := 21) Try.func70 rfl rfl (by simp) fun a0 hN hd hA => ?_
 have s0 : a0.tmps.getD 0 undef = (ptr k 0) := hA 0 (by simp)
 have s1 : a0.tmps.getD 1 undef = (Value.int .i64 n) := hA 1 (by simp)
 clear hA
 refine seq_any fun K52 hK52 => ?_
 refine one_reg ?_
 refine op_assign rfl ?_
 refine reg_nil ?_
 refine hK52 _ _ ?_
 refine seq_any fun K53 hK53 => ?_
 refine one_reg ?_
 refine op_move (ev_base hN rfl s0) ?_
 refine op_move (ev_base hN rfl s1) ?_
 refine op_fn (vs := [(ptr k 0), (Value.int .i64 n)]) ok95 ⟨(ev_hit hN rfl), ⟨(ev_hit hN rfl), trivial⟩⟩ (Ret.flip (at_nomap n hk)) ?_
 rintro _ _ ⟨rfl, rfl⟩
 refine op_move (ev_hit hN rfl) ?_
 refine op_extract (ev_hit hN rfl) rfl ?_
 refine op_extract (ev_hit hN rfl) rfl ?_
 refine op_assign (ev_hit hN rfl) ?_
 refine op_assign (ev_hit hN rfl) ?_
 refine reg_nil ?_
 refine hK53 _ _ ?_
 refine seq_any fun K54 hK54 => ?_
 refine seq_any fun K55 hK55 => ?_
 refine one_reg ?_
 refine op_move (ev_hit hN rfl) ?_
 refine op_bin (v := .bool true) (ev_hit hN rfl) rfl (by rw [binOp_neq]; rfl) ?_
 refine reg_nil ?_
 refine hK55 _ _ ?_
 refine wp_cond_true (ev_hit hN rfl) ?_
 refine seq_any fun K56 hK56 => ?_
 refine one_reg ?_
 refine op_assign rfl ?_
 refine reg_nil ?_
 refine hK56 _ _ ?_
 refine wp_ret (then_ret ( ?_))
 refine ret1 rfl hd (ev_hit hN rfl) ⟨_, rfl, ?_⟩
 -- path
 exact ⟨hb, rfl⟩

theorem Move_nomap {lv : Value} {s : Int} {n : Int} {k : Nat} {w : World} (hk : Bx w k 121 [.map none])  : Ret Try.prog 59 #[(ptr k 0), (Value.int .i64 n), lv, (Value.int .u64 s)] w (fun v' w' => Below w.heap.size w w' ∧ v' = .int .i64 18) := by
 have hb := Below.refl w.heap.size w
 refine enter (N := 38) Try.func59 rfl rfl (by simp) fun a0 hN hd hA => ?_
 have s0 : a0.tmps.getD 0 undef = (ptr k 0) := hA 0 (by simp)
 have s1 : a0.tmps.getD 1 undef = (Value.int .i64 n) := hA 1 (by simp)
 have s2 : a0.tmps.getD 2 undef = lv := hA 2 (by simp)
 have s3 : a0.tmps.getD 3 undef = (Value.int .u64 s) := hA 3 (by simp)
 clear hA
 refine seq_any fun K57 hK57 => ?_
 refine one_reg ?_
 refine op_assign rfl ?_
 refine reg_nil ?_
 refine hK57 _ _ ?_
 refine seq_any fun K58 hK58 => ?_
 refine one_reg ?_
 refine op_move (ev_base hN rfl s0) ?_
 refine op_move (ev_base hN rfl s1) ?_
 refine op_fn (vs := [(ptr k 0), (Value.int .i64 n)]) ok95 ⟨(ev_hit hN rfl), ⟨(ev_hit hN rfl), trivial⟩⟩ (Ret.flip (at_nomap n hk)) ?_
 rintro _ _ ⟨rfl, rfl⟩
 refine op_move (ev_hit hN rfl) ?_
 refine op_extract (ev_hit hN rfl) rfl ?_
 refine op_extract (ev_hit hN rfl) rfl ?_
 refine op_assign (ev_hit hN rfl) ?_
 refine op_assign (ev_hit hN rfl) ?_
 refine reg_nil ?_
 refine hK58 _ _ ?_
 refine seq_any fun K59 hK59 => ?_
 refine wp_block ?_
 refine seq_any fun K60 hK60 => ?_
 refine one_reg ?_
 refine op_move (ev_hit hN rfl) ?_
 refine op_bin (v := .bool true) (ev_hit hN rfl) rfl (by rw [binOp_neq]; rfl) ?_
 refine op_assign (ev_hit hN rfl) ?_
 refine reg_nil ?_
 refine hK60 _ _ ?_
 refine wp_cond_true (ev_hit hN rfl) ?_
 refine seq_any fun K61 hK61 => ?_
 refine one_reg ?_
 refine op_move (ev_hit hN rfl) ?_
 refine op_assign (ev_hit hN rfl) ?_
 refine reg_nil ?_
 refine hK61 _ _ ?_
 refine wp_ret (blk_ret (then_ret ( ?_)))
 refine ret1 rfl hd (ev_hit hN rfl) ⟨_, rfl, ?_⟩
 -- path
 exact ⟨hb, rfl⟩

end Go.Proofs.Ytmhdbphpmgjpcaa

/- Walks, written by a program: what each function of the translation hands back. -/
namespace Go.Proofs.Ytmhdbphpmgjpcaa
open Go.Gx Go.RowKit
attribute [local irreducible] wpList wpStill Code.wp Calls

theorem Leave_hit {n : Int} {k m p : Nat} {es : List (Int × Nat)} {w : World} (hk : Bx w k 121 [.map (some m)]) (hM : MapC (Value.int .i64) pv w m es) (hg : mget es n = some p)  : Ret Try.prog 57 #[(ptr k 0), (Value.int .i64 n)] w (fun v' w' => w.grownBy w' (some m) ∧ v' = .int .i64 0 ∧ MapC (Value.int .i64) pv w' m (mdel es n)) := by
 have hi_m := hM.lt
 have hb := grown_refl w (some m)
 refine enter (N := 21) Try.func57 rfl rfl (by simp) fun a0 hN hd hA => ?_
 have s0 : a0.tmps.getD 0 undef = (ptr k 0) := hA 0 (by simp)
 have s1 : a0.tmps.getD 1 undef = (Value.int .i64 n) := hA 1 (by simp)
 clear hA
 refine seq_any fun K1 hK1 => ?_
 refine one_reg ?_
 refine op_assign rfl ?_
 refine reg_nil ?_
 refine hK1 _ _ ?_
 refine seq_any fun K2 hK2 => ?_
 refine one_reg ?_
 refine op_move (ev_base hN rfl s0) ?_
 refine op_move (ev_base hN rfl s1) ?_
 refine op_fn (vs := [(ptr k 0), (Value.int .i64 n)]) ok95 ⟨(ev_hit hN rfl), ⟨(ev_hit hN rfl), trivial⟩⟩ (Ret.flip (at_hit n hk hM hg)) ?_
 rintro _ _ ⟨rfl, rfl⟩
 refine op_move (ev_hit hN rfl) ?_
 refine op_extract (ev_hit hN rfl) rfl ?_
 refine op_extract (ev_hit hN rfl) rfl ?_
 refine op_assign (ev_hit hN rfl) ?_
 refine op_assign (ev_hit hN rfl) ?_
 refine reg_nil ?_
 refine hK2 _ _ ?_
 refine seq_any fun K3 hK3 => ?_
 refine seq_any fun K4 hK4 => ?_
 refine one_reg ?_
 refine op_move (ev_hit hN rfl) ?_
 refine op_bin (v := .bool true) (ev_hit hN rfl) rfl (by rw [binOp_eql]; rfl) ?_
 refine reg_nil ?_
 refine hK4 _ _ ?_
 refine wp_cond_true (ev_hit hN rfl) ?_
 refine one_reg ?_
 refine op_move (ev_base hN rfl s0) ?_
 refine op_nil (ev_hit hN rfl) ?_
 refine op_field fld121_0 (ev_hit hN rfl) ?_
 refine op_load1 (v := (Value.map (some m))) one119 (ev_hit hN rfl) (hk.cell rfl) ?_
 refine op_move (ev_base hN rfl s1) ?_
 have hM_old := hM
 refine op_mapdel0 (k := n) Try.underlying119 (Go.Gx.key_int Try.underlying3) (ev_hit hN rfl) (ev_hit hN rfl) hM ?_
 intro w5 hM7 E6
 have z_w5 := E6.size
 have hk := hk.keepM hM_old E6
 have hb := grown_trans hb E6
 refine reg_nil ?_
 refine hK3 _ _ ?_
 refine seq_any fun K8 hK8 => ?_
 refine one_reg ?_
 refine op_move (ev_hit hN rfl) ?_
 refine op_assign (ev_hit hN rfl) ?_
 refine reg_nil ?_
 refine hK8 _ _ ?_
 refine wp_ret ?_
 refine ret1 rfl hd (ev_hit hN rfl) ⟨_, rfl, ?_⟩
 -- path
 exact ⟨hb, rfl, hM7⟩

theorem Doomed_hit {base : Nat} {la rv wv : Value} {lab : List UInt16} {stp : Int} {D : List RD} {Wr : List (List UInt8)} {dm : Bool} {n : Int} {k m p : Nat} {es : List (Int × Nat)} {w : World} (hk : Bx w k 121 [.map (some m)]) (hM : MapC (Value.int .i64) pv w m es) (hg : mget es n = some p) (hx : Bx w p 164 [la, .int .u64 stp, rv, wv, .bool dm]) : Ret Try.prog 62 #[(ptr k 0), (Value.int .i64 n)] w (fun v' w' => Below w.heap.size w w' ∧ v' = .bool dm) := by
 have hb := Below.refl w.heap.size w
 refine enter (N := 21) Try.func62 rfl rfl (by simp) fun a0 hN hd hA => ?_
 have s0 : a0.tmps.getD 0 undef = (ptr k 0) := hA 0 (by simp)
 have s1 : a0.tmps.getD 1 undef = (Value.int .i64 n) := hA 1 (by simp)
 clear hA
 refine seq_any fun K9 hK9 => ?_
 refine one_reg ?_
 refine op_assign rfl ?_
 refine reg_nil ?_
 refine hK9 _ _ ?_
 refine seq_any fun K10 hK10 => ?_
 refine one_reg ?_
 refine op_move (ev_base hN rfl s0) ?_
 refine op_move (ev_base hN rfl s1) ?_
 refine op_fn (vs := [(ptr k 0), (Value.int .i64 n)]) ok95 ⟨(ev_hit hN rfl), ⟨(ev_hit hN rfl), trivial⟩⟩ (Ret.flip (at_hit n hk hM hg)) ?_
 rintro _ _ ⟨rfl, rfl⟩
 refine op_move (ev_hit hN rfl) ?_
 refine op_extract (ev_hit hN rfl) rfl ?_
 refine op_extract (ev_hit hN rfl) rfl ?_
 refine op_assign (ev_hit hN rfl) ?_
 refine op_assign (ev_hit hN rfl) ?_
 refine reg_nil ?_
 refine hK10 _ _ ?_
 refine seq_any fun K11 hK11 => ?_
 refine one_reg ?_
 refine op_move (ev_hit hN rfl) ?_
 refine op_bin (v := .bool true) (ev_hit hN rfl) rfl (by rw [binOp_eql]; rfl) ?_
 refine op_move (ev_hit hN rfl) ?_
 refine g_true (j := 2) (dj := 15) (b := true) rfl rfl rfl (ev_hit hN rfl) ?_
 refine op_move (ev_hit hN rfl) ?_
 refine g_true (j := 2) (dj := 15) (b := true) rfl rfl rfl (ev_hit hN rfl) ?_
 refine op_nil (ev_hit hN rfl) ?_
 refine g_true (j := 2) (dj := 15) (b := true) rfl rfl rfl (ev_hit hN rfl) ?_
 refine op_field fld164_4 (ev_hit hN rfl) ?_
 refine g_true (j := 2) (dj := 15) (b := true) rfl rfl rfl (ev_hit hN rfl) ?_
 refine op_load1 (v := (Value.bool dm)) one4 (ev_hit hN rfl) (hx.cell rfl) ?_
 refine op_pick_t (ev_hit hN rfl) (ev_hit hN rfl) ?_
 refine op_assign (ev_hit hN rfl) ?_
 refine reg_nil ?_
 refine hK11 _ _ ?_
 refine wp_ret ?_
 refine ret1 rfl hd (ev_hit hN rfl) ⟨_, rfl, ?_⟩
 -- path
 exact ⟨hb, rfl⟩

theorem Wrote_hit {base : Nat} {la rv wv : Value} {lab : List UInt16} {stp : Int} {D : List RD} {Wr : List (List UInt8)} {dm : Bool} {n : Int} {k m p : Nat} {es : List (Int × Nat)} {w : World} (hk : Bx w k 121 [.map (some m)]) (hM : MapC (Value.int .i64) pv w m es) (hg : mget es n = some p) (hbase : base ≤ w.heap.size) (hx : Bx w p 164 [la, .int .u64 stp, rv, wv, .bool dm]) (hW : Own w base 9 1 wv Wr.length (Wr.map sv)) (hn9 : Wr.length ≤ 100000) : Ret Try.prog 70 #[(ptr k 0), (Value.int .i64 n)] w (fun v' w' => Below w.heap.size w w' ∧ Own w' w.heap.size 9 1 v' Wr.length (Wr.map sv)) := by
 have hb := Below.refl w.heap.size w
 refine enter (N := 21) Try.func70 rfl rfl (by simp) fun a0 hN hd hA => ?_
 have s0 : a0.tmps.getD 0 undef = (ptr k 0) := hA 0 (by simp)
 have s1 : a0.tmps.getD 1 undef = (Value.int .i64 n) := hA 1 (by simp)
 clear hA
 refine seq_any fun K12 hK12 => ?_
 refine one_reg ?_
 refine op_assign rfl ?_
 refine reg_nil ?_
 refine hK12 _ _ ?_
 refine seq_any fun K13 hK13 => ?_
 refine one_reg ?_
 refine op_move (ev_base hN rfl s0) ?_
 refine op_move (ev_base hN rfl s1) ?_
 refine op_fn (vs := [(ptr k 0), (Value.int .i64 n)]) ok95 ⟨(ev_hit hN rfl), ⟨(ev_hit hN rfl), trivial⟩⟩ (Ret.flip (at_hit n hk hM hg)) ?_
 rintro _ _ ⟨rfl, rfl⟩
 refine op_move (ev_hit hN rfl) ?_
 refine op_extract (ev_hit hN rfl) rfl ?_
 refine op_extract (ev_hit hN rfl) rfl ?_
 refine op_assign (ev_hit hN rfl) ?_
 refine op_assign (ev_hit hN rfl) ?_
 refine reg_nil ?_
 refine hK13 _ _ ?_
 refine seq_any fun K14 hK14 => ?_
 refine seq_any fun K15 hK15 => ?_
 refine one_reg ?_
 refine op_move (ev_hit hN rfl) ?_
 refine op_bin (v := .bool false) (ev_hit hN rfl) rfl (by rw [binOp_neq]; rfl) ?_
 refine reg_nil ?_
 refine hK15 _ _ ?_
 refine wp_cond_false (ev_hit hN rfl) ?_
 refine wp_skip ?_
 refine hK14 _ _ ?_
 refine seq_any fun K16 hK16 => ?_
 refine one_reg ?_
 refine op_move (ev_hit hN rfl) ?_
 refine op_nil (ev_hit hN rfl) ?_
 refine op_field fld164_3 (ev_hit hN rfl) ?_
 refine op_field fld162_0 (ev_hit hN rfl) ?_
 refine op_load1 (v := wv) one26 (ev_hit hN rfl) (hx.cell rfl) ?_
 refine op_fn (vs := [wv]) ok72 ⟨(ev_hit hN rfl), trivial⟩ (Clone_s Wr _ _ (by omega) (hW.rdw.mono (Nat.zero_le _) (by omega))) ?_
 rintro v17 w18 ⟨E19, hO17⟩
 have dj20 : DJ v17 wv := fun k hk hg => by have q1 := (hO17.lt k hk).1; have q2 := (hW.lt k hg).2; omega
 have E19 := grown_of_below E19
 have z_w18 := E19.size
 have hk := hk.keep0 E19
 have hM := hM.keep0 E19
 have hx := hx.keep0 E19
 have hW := hW.keep0 E19
 have hb := below_step0 hb E19 hb.size
 have hO17 := hO17.mono (base' := w.heap.size) (by omega)
 refine op_assign (ev_hit hN rfl) ?_
 refine reg_nil ?_
 refine hK16 _ _ ?_
 refine wp_ret ?_
 refine ret1 rfl hd (ev_hit hN rfl) ⟨_, rfl, ?_⟩
 -- path
 exact ⟨hb, hO17⟩

theorem Move_hit {base : Nat} {la rv wv : Value} {lab : List UInt16} {stp : Int} {D : List RD} {Wr : List (List UInt8)} {dm : Bool} {lv : Value} {s : Int} {l : List UInt16} {n : Int} {k m p : Nat} {es : List (Int × Nat)} {w : World} (hk : Bx w k 121 [.map (some m)]) (hM : MapC (Value.int .i64) pv w m es) (hg : mget es n = some p) (hbase : base ≤ w.heap.size) (hx : Bx w p 164 [la, .int .u64 stp, rv, wv, .bool dm]) (hW : Own w base 9 1 wv Wr.length (Wr.map sv)) (hl : RdC w 0 w.heap.size 1 lv l.length (l.map u16v)) (hl8 : l.length ≤ 100) : Ret Try.prog 59 #[(ptr k 0), (Value.int .i64 n), lv, (Value.int .u64 s)] w (fun v' w' => w.grownBy w' (some p) ∧ ((0 < Wr.length ∧ v' = .int .i64 16 ∧ w' = w) ∨ (Wr.length = 0 ∧ v' = .int .i64 0 ∧ ∃ nv, Bx w' p 164 [nv, .int .u64 s, rv, wv, .bool dm] ∧ Own w' w.heap.size 46 1 nv l.length (l.map u16v)))) := by
 have hi_p := hx.lt
 have hb := grown_refl w (some p)
 refine enter (N := 38) Try.func59 rfl rfl (by simp) fun a0 hN hd hA => ?_
 have s0 : a0.tmps.getD 0 undef = (ptr k 0) := hA 0 (by simp)
 have s1 : a0.tmps.getD 1 undef = (Value.int .i64 n) := hA 1 (by simp)
 have s2 : a0.tmps.getD 2 undef = lv := hA 2 (by simp)
 have s3 : a0.tmps.getD 3 undef = (Value.int .u64 s) := hA 3 (by simp)
 clear hA
 refine seq_any fun K21 hK21 => ?_
 refine one_reg ?_
 refine op_assign rfl ?_
 refine reg_nil ?_
 refine hK21 _ _ ?_
 refine seq_any fun K22 hK22 => ?_
 refine one_reg ?_
 refine op_move (ev_base hN rfl s0) ?_
 refine op_move (ev_base hN rfl s1) ?_
 refine op_fn (vs := [(ptr k 0), (Value.int .i64 n)]) ok95 ⟨(ev_hit hN rfl), ⟨(ev_hit hN rfl), trivial⟩⟩ (Ret.flip (at_hit n hk hM hg)) ?_
 rintro _ _ ⟨rfl, rfl⟩
 refine op_move (ev_hit hN rfl) ?_
 refine op_extract (ev_hit hN rfl) rfl ?_
 refine op_extract (ev_hit hN rfl) rfl ?_
 refine op_assign (ev_hit hN rfl) ?_
 refine op_assign (ev_hit hN rfl) ?_
 refine reg_nil ?_
 refine hK22 _ _ ?_
 refine seq_any fun K23 hK23 => ?_
 refine wp_block ?_
 refine seq_any fun K24 hK24 => ?_
 refine one_reg ?_
 refine op_move (ev_hit hN rfl) ?_
 refine op_bin (v := .bool false) (ev_hit hN rfl) rfl (by rw [binOp_neq]; rfl) ?_
 refine op_assign (ev_hit hN rfl) ?_
 refine reg_nil ?_
 refine hK24 _ _ ?_
 refine wp_cond_false (ev_hit hN rfl) ?_
 refine seq_any fun K25 hK25 => ?_
 refine one_reg ?_
 refine op_move (ev_hit hN rfl) ?_
 refine op_nil (ev_hit hN rfl) ?_
 refine op_field fld164_3 (ev_hit hN rfl) ?_
 refine op_field fld162_0 (ev_hit hN rfl) ?_
 refine op_load1 (v := wv) one26 (ev_hit hN rfl) (hx.cell rfl) ?_
 refine op_len_rd Try.underlying26 (ev_hit hN rfl) hW.rdw ?_
 refine op_gtr (ev_hit hN rfl) rfl (fun c28 => ?_) (fun c28 => ?_)
 · -- 28T
  refine op_assign (ev_hit hN rfl) ?_
  refine reg_nil ?_
  refine hK25 _ _ ?_
  refine wp_cond_true (ev_hit hN rfl) ?_
  refine seq_any fun K26 hK26 => ?_
  refine one_reg ?_
  refine op_assign rfl ?_
  refine reg_nil ?_
  refine hK26 _ _ ?_
  refine wp_ret (blk_ret (then_ret ( ?_)))
  refine ret1 rfl hd (ev_hit hN rfl) ⟨_, rfl, ?_⟩
  -- path 28T
  exact ⟨hb, .inl ⟨by omega, rfl, rfl⟩⟩
 · -- 28F
  refine op_assign (ev_hit hN rfl) ?_
  refine reg_nil ?_
  refine hK25 _ _ ?_
  refine wp_cond_false (ev_hit hN rfl) ?_
  refine wp_skip ?_
  refine hK23 _ _ ?_
  refine seq_any fun K27 hK27 => ?_
  refine one_reg ?_
  refine op_move (ev_hit hN rfl) ?_
  refine op_move (ev_hit hN rfl) ?_
  refine op_move (ev_base hN rfl s2) ?_
  refine op_fn (vs := [lv]) ok77 ⟨(ev_hit hN rfl), trivial⟩ (CloneL l _ _ (by omega) (hl.mono (Nat.zero_le _) (by omega))) ?_
  rintro v28 w29 ⟨E30, hO28⟩
  have E30 := grown_of_below E30
  have z_w29 := E30.size
  have hk := hk.keep0 E30
  have hM := hM.keep0 E30
  have hx := hx.keep0 E30
  have hW := hW.keep0 E30
  have hl := hl.keep0 E30
  have hb := grow_step0 hb E30
  have hO28 := hO28.mono (base' := w.heap.size) (by omega)
  refine op_move (ev_base hN rfl s3) ?_
  skip
  refine op_nil (ev_hit hN rfl) ?_
  refine op_field fld164_0 (ev_hit hN rfl) ?_
  have hx_old := hx
  refine op_store (vs := [v28]) (cs' := [v28, (Value.int .u64 stp), rv, wv, (Value.bool dm)]) size54 (ev_hit hN rfl) (ev_hit hN rfl) hO28.cl rfl (by simp only [List.all_cons, List.all_nil, Bool.true_and, Bool.and_true, hO28.one]; try rfl) hx (Nat.le_of_ble_eq_true rfl) rfl ?_
  intro w33 hx E34
  have z_w33 := E34.size
  have hk := hk.keep E34 (fun hh => hk.ne hx_old (by decide) (Option.some.inj hh))
  have hM := hM.keepB hx_old E34
  have hW := hW.keepX hx_old E34 (by decide)
  have hO28 := hO28.keepX hx_old E34 (by decide)
  have hb := grown_trans hb E34
  refine op_nil (ev_hit hN rfl) ?_
  refine op_field fld164_1 (ev_hit hN rfl) ?_
  have hx_old := hx
  refine op_store (vs := [(Value.int .u64 s)]) (cs' := [v28, (Value.int .u64 s), rv, wv, (Value.bool dm)]) size61 (ev_hit hN rfl) (ev_hit hN rfl) rfl rfl rfl hx (Nat.le_of_ble_eq_true rfl) rfl ?_
  intro w37 hx E38
  have z_w37 := E38.size
  have hk := hk.keep E38 (fun hh => hk.ne hx_old (by decide) (Option.some.inj hh))
  have hM := hM.keepB hx_old E38
  have hW := hW.keepX hx_old E38 (by decide)
  have hO28 := hO28.keepX hx_old E38 (by decide)
  have hb := grown_trans hb E38
  refine reg_nil ?_
  refine hK27 _ _ ?_
  refine seq_any fun K39 hK39 => ?_
  refine one_reg ?_
  refine op_assign rfl ?_
  refine reg_nil ?_
  refine hK39 _ _ ?_
  refine wp_ret ?_
  refine ret1 rfl hd (ev_hit hN rfl) ⟨_, rfl, ?_⟩
  -- path 28F
  exact ⟨hb, .inr ⟨by omega, rfl, _, hx, hO28⟩⟩

theorem Enter_hit {lv : Value} {s : Int} {l : List UInt16} {n : Int} {k m p : Nat} {es : List (Int × Nat)} {w : World} (hk : Bx w k 121 [.map (some m)]) (hM : MapC (Value.int .i64) pv w m es) (hg : mget es n = some p)  : Ret Try.prog 54 #[(ptr k 0), (Value.int .i64 n), lv, (Value.int .u64 s)] w (fun v' w' => Below w.heap.size w w' ∧ v' = .int .i64 18) := by
 have hb := Below.refl w.heap.size w
 refine enter (N := 42) Try.func54 rfl rfl (by simp) fun a0 hN hd hA => ?_
 have s0 : a0.tmps.getD 0 undef = (ptr k 0) := hA 0 (by simp)
 have s1 : a0.tmps.getD 1 undef = (Value.int .i64 n) := hA 1 (by simp)
 have s2 : a0.tmps.getD 2 undef = lv := hA 2 (by simp)
 have s3 : a0.tmps.getD 3 undef = (Value.int .u64 s) := hA 3 (by simp)
 clear hA
 refine seq_any fun K46 hK46 => ?_
 refine one_reg ?_
 refine op_assign rfl ?_
 refine reg_nil ?_
 refine hK46 _ _ ?_
 refine seq_any fun K47 hK47 => ?_
 refine one_reg ?_
 refine op_move (ev_base hN rfl s0) ?_
 refine op_move (ev_base hN rfl s1) ?_
 refine op_fn (vs := [(ptr k 0), (Value.int .i64 n)]) ok95 ⟨(ev_hit hN rfl), ⟨(ev_hit hN rfl), trivial⟩⟩ (Ret.flip (at_hit n hk hM hg)) ?_
 rintro _ _ ⟨rfl, rfl⟩
 refine op_move (ev_hit hN rfl) ?_
 refine op_extract (ev_hit hN rfl) rfl ?_
 refine op_extract (ev_hit hN rfl) rfl ?_
 refine op_assign (ev_hit hN rfl) ?_
 refine op_assign (ev_hit hN rfl) ?_
 refine reg_nil ?_
 refine hK47 _ _ ?_
 refine seq_any fun K48 hK48 => ?_
 refine seq_any fun K49 hK49 => ?_
 refine one_reg ?_
 refine op_move (ev_hit hN rfl) ?_
 refine reg_nil ?_
 refine hK49 _ _ ?_
 refine wp_block ?_
 refine seq_any fun K50 hK50 => ?_
 refine one_reg ?_
 refine op_bin (v := .bool false) (ev_hit hN rfl) rfl (by rw [binOp_eql]; rfl) ?_
 refine op_assign (ev_hit hN rfl) ?_
 refine reg_nil ?_
 refine hK50 _ _ ?_
 refine wp_cond_false (ev_hit hN rfl) ?_
 refine seq_any fun K51 hK51 => ?_
 refine one_reg ?_
 refine op_bin (v := .bool true) (ev_hit hN rfl) rfl (by rw [binOp_eql]; rfl) ?_
 refine op_assign (ev_hit hN rfl) ?_
 refine reg_nil ?_
 refine hK51 _ _ ?_
 refine wp_cond_true (ev_hit hN rfl) ?_
 refine seq_any fun K52 hK52 => ?_
 refine one_reg ?_
 refine op_assign rfl ?_
 refine reg_nil ?_
 refine hK52 _ _ ?_
 refine wp_ret (blk_ret (then_ret ( ?_)))
 refine ret1 rfl hd (ev_hit hN rfl) ⟨_, rfl, ?_⟩
 -- path
 exact ⟨hb, rfl⟩

theorem Enter_miss {lv : Value} {s : Int} {l : List UInt16} {n : Int} {k m : Nat} {es : List (Int × Nat)} {w : World} (hk : Bx w k 121 [.map (some m)]) (hM : MapC (Value.int .i64) pv w m es) (hg : mget es n = none) (hl : RdC w 0 w.heap.size 1 lv l.length (l.map u16v)) (hl8 : l.length ≤ 100) : Ret Try.prog 54 #[(ptr k 0), (Value.int .i64 n), lv, (Value.int .u64 s)] w (fun v' w' => w.grownBy w' (some m) ∧ v' = .int .i64 0 ∧ ∃ q nv, w.heap.size ≤ q ∧ Bx w' q 164 [nv, .int .u64 s, .slice none 0 0, .slice none 0 0, .bool false] ∧ Own w' w.heap.size 46 1 nv l.length (l.map u16v) ∧ MapC (Value.int .i64) pv w' m (mput es n q)) := by
 have hi_m := hM.lt
 have hb := grown_refl w (some m)
 refine enter (N := 42) Try.func54 rfl rfl (by simp) fun a0 hN hd hA => ?_
 have s0 : a0.tmps.getD 0 undef = (ptr k 0) := hA 0 (by simp)
 have s1 : a0.tmps.getD 1 undef = (Value.int .i64 n) := hA 1 (by simp)
 have s2 : a0.tmps.getD 2 undef = lv := hA 2 (by simp)
 have s3 : a0.tmps.getD 3 undef = (Value.int .u64 s) := hA 3 (by simp)
 clear hA
 refine seq_any fun K53 hK53 => ?_
 refine one_reg ?_
 refine op_assign rfl ?_
 refine reg_nil ?_
 refine hK53 _ _ ?_
 refine seq_any fun K54 hK54 => ?_
 refine one_reg ?_
 refine op_move (ev_base hN rfl s0) ?_
 refine op_move (ev_base hN rfl s1) ?_
 refine op_fn (vs := [(ptr k 0), (Value.int .i64 n)]) ok95 ⟨(ev_hit hN rfl), ⟨(ev_hit hN rfl), trivial⟩⟩ (Ret.flip (at_miss n hk hM hg)) ?_
 rintro _ _ ⟨rfl, rfl⟩
 refine op_move (ev_hit hN rfl) ?_
 refine op_extract (ev_hit hN rfl) rfl ?_
 refine op_extract (ev_hit hN rfl) rfl ?_
 refine op_assign (ev_hit hN rfl) ?_
 refine op_assign (ev_hit hN rfl) ?_
 refine reg_nil ?_
 refine hK54 _ _ ?_
 refine seq_any fun K55 hK55 => ?_
 refine seq_any fun K56 hK56 => ?_
 refine one_reg ?_
 refine op_move (ev_hit hN rfl) ?_
 refine reg_nil ?_
 refine hK56 _ _ ?_
 refine wp_block ?_
 refine seq_any fun K57 hK57 => ?_
 refine one_reg ?_
 refine op_bin (v := .bool false) (ev_hit hN rfl) rfl (by rw [binOp_eql]; rfl) ?_
 refine op_assign (ev_hit hN rfl) ?_
 refine reg_nil ?_
 refine hK57 _ _ ?_
 refine wp_cond_false (ev_hit hN rfl) ?_
 refine seq_any fun K58 hK58 => ?_
 refine one_reg ?_
 refine op_bin (v := .bool false) (ev_hit hN rfl) rfl (by rw [binOp_eql]; rfl) ?_
 refine op_assign (ev_hit hN rfl) ?_
 refine reg_nil ?_
 refine hK58 _ _ ?_
 refine wp_cond_false (ev_hit hN rfl) ?_
 refine wp_skip ?_
 refine hK55 _ _ ?_
 refine seq_any fun K59 hK59 => ?_
 refine seq_any fun K60 hK60 => ?_
 refine one_reg ?_
 refine op_move (ev_base hN rfl s0) ?_
 refine op_nil (ev_hit hN rfl) ?_
 refine op_field fld121_0 (ev_hit hN rfl) ?_
 refine op_load1 (v := (Value.map (some m))) one119 (ev_hit hN rfl) (hk.cell rfl) ?_
 refine op_meq (r := some m) Try.underlying119 (ev_hit hN rfl) rfl ?_
 refine reg_nil ?_
 refine hK60 _ _ ?_
 refine wp_cond_false (ev_hit hN rfl) ?_
 refine wp_skip ?_
 refine hK59 _ _ ?_
 refine seq_any fun K61 hK61 => ?_
 refine reg_split (hd := [_, _, _, _, _, _, _, _, _, _]) (tl := _) 10 mixed (by kernel_rfl) rfl rfl ?_
 refine any_env (φ := phiV [(fun uz => uz = (ptr k 0)), (fun uz => uz = (ptr k 0)), (fun uz => uz = (ptr k 0)), (fun uz => uz = (Value.map (some m))), (fun uz => uz = (Value.int .i64 n)), (fun uz => uz = lv), (fun _ => True), (fun uz => uz = (Value.int .u64 s)), (fun _ => True), (fun _ => True)]) (G := fun w' => Bx w' k 121 [(Value.map (some m))]) [6, 8, 9] (by kernel_rfl) (by kernel_rfl) (by kernel_rfl) (by kernel_rfl) hN (fun w1 w2 E h => h.keep0 E) hk (ObEs.cons ?_ (ObEs.cons ?_ (ObEs.cons ?_ (ObEs.cons ?_ (ObEs.cons ?_ (ObEs.cons ?_ (ObEs.pass rfl (ObEs.cons ?_ (ObEs.pass rfl (ObEs.pass rfl (ObEs.nil))))))))))) (by simp only [putsL_defers]) ?_
 ·
  intro eA aA wA hNA hGA hbsA hdpA
  have qA_0 := (hbsA 0 rfl).trans (sl_base hN rfl s0)
  refine op_move (ev_base hNA rfl qA_0) ?_
  exact obE_end rfl rfl rfl
 ·
  intro eA aA wA hNA hGA hbsA hdpA
  have qA_32 : Sl aA 32 (ptr k 0) := (hdpA 0 _ 32 (by kernel_rfl) rfl rfl).2 rfl
  refine op_nil (ev_base hNA rfl qA_32) ?_
  exact obE_end rfl rfl rfl
 ·
  intro eA aA wA hNA hGA hbsA hdpA
  have qA_33 : Sl aA 33 (ptr k 0) := (hdpA 1 _ 33 (by kernel_rfl) rfl rfl).2 rfl
  refine op_field fld121_0 (ev_base hNA rfl qA_33) ?_
  exact obE_end rfl rfl rfl
 ·
  intro eA aA wA hNA hGA hbsA hdpA
  have qA_34 : Sl aA 34 (ptr k 0) := (hdpA 2 _ 34 (by kernel_rfl) rfl rfl).2 rfl
  refine op_load1 (v := (Value.map (some m))) one119 (ev_base hNA rfl qA_34) (hGA.cell rfl) ?_
  exact obE_end rfl rfl rfl
 ·
  intro eA aA wA hNA hGA hbsA hdpA
  have qA_1 := (hbsA 1 rfl).trans (sl_base hN rfl s1)
  refine op_move (ev_base hNA rfl qA_1) ?_
  exact obE_end rfl rfl rfl
 ·
  intro eA aA wA hNA hGA hbsA hdpA
  have qA_2 := (hbsA 2 rfl).trans (sl_base hN rfl s2)
  refine op_move (ev_base hNA rfl qA_2) ?_
  exact obE_end rfl rfl rfl
 ·
  intro eA aA wA hNA hGA hbsA hdpA
  have qA_3 := (hbsA 3 rfl).trans (sl_base hN rfl s3)
  refine op_move (ev_base hNA rfl qA_3) ?_
  exact obE_end rfl rfl rfl
 ·
  intro w62 E62 _ a62 hN62 hbs62 hdp62 o_ ho_; obtain rfl := Option.some.inj ho_
  have z_w62 := E62.size
  have hk := hk.keep0 E62
  have hM := hM.keep0 E62
  have hl := hl.keep0 E62
  have hb := grow_step0 hb E62
  have q62_37 : Sl a62 37 lv := (hdp62 5 _ 37 (by kernel_rfl) rfl rfl).2 rfl
  refine op_fn (vs := [lv]) ok77 ⟨(ev_base hN62 rfl q62_37), trivial⟩ (CloneL l _ _ (by omega) (hl.mono (Nat.zero_le _) (by omega))) ?_
  rintro v63 w64 ⟨E65, hO63⟩
  have E65 := grown_of_below E65
  have z_w64 := E65.size
  have hk := hk.keep0 E65
  have hM := hM.keep0 E65
  have hl := hl.keep0 E65
  have hb := grow_step0 hb E65
  have hO63 := hO63.mono (base' := w.heap.size) (by omega)
  refine ke_end rfl (by decide) rfl hk ?_
  intro w66 E66 _ a66 hN66 hbs66 hdp66 o_ ho_; obtain rfl := Option.some.inj ho_
  have z_w66 := E66.size
  have hk := hk.keep0 E66
  have hM := hM.keep0 E66
  have hl := hl.keep0 E66
  have hO63 := hO63.keep0 E66
  have hb := grow_step0 hb E66
  have q66_38 : Sl a66 38 v63 := (Option.some.inj ((hdp66 6 _ 38 (by kernel_rfl) rfl rfl).1 0 rfl)).symm
  have q66_39 : Sl a66 39 (Value.int .u64 s) := (hdp66 7 _ 39 (by kernel_rfl) rfl rfl).2 rfl
  refine op_build (pv := [(0, v63), (1, (Value.int .u64 s))]) (v := (Value.agg #[v63, (Value.int .u64 s), (Value.slice none 0 0), (Value.slice none 0 0), (Value.bool false)])) ⟨rfl, (ev_base hN66 rfl q66_38), ⟨rfl, (ev_base hN66 rfl q66_39), trivial⟩⟩ (by obtain ⟨_, _, _, rfl⟩ := hO63.sl; kernel_rfl) ?_
  refine ke_end rfl (by decide) rfl hk ?_
  intro w67 E67 _ a67 hN67 hbs67 hdp67 o_ ho_; obtain rfl := Option.some.inj ho_
  have z_w67 := E67.size
  have hk := hk.keep0 E67
  have hM := hM.keep0 E67
  have hl := hl.keep0 E67
  have hO63 := hO63.keep0 E67
  have hb := grow_step0 hb E67
  have q67_40 : Sl a67 40 (Value.agg #[v63, (Value.int .u64 s), (Value.slice none 0 0), (Value.slice none 0 0), (Value.bool false)]) := (Option.some.inj ((hdp67 8 _ 40 (by kernel_rfl) rfl rfl).1 1 rfl)).symm
  refine op_box (cs := [v63, (Value.int .u64 s), (Value.slice none 0 0), (Value.slice none 0 0), (Value.bool false)]) (ev_base hN67 rfl q67_40) rfl ?_
  intro w68 b69 lo_b69 hi_b69 hB71 E70
  have z_w68 := E70.size
  have hk := hk.keep0 E70
  have hM := hM.keep0 E70
  have hl := hl.keep0 E70
  have hO63 := hO63.keep0 E70
  have hb := grow_step0 hb E70
  refine ke_end rfl (by decide) rfl hk ?_
  intro w72 E72 a72 hN72 hd72 hbs72 hph72
  have hd72 := hd72.trans ((by simp only [putsL_defers] : _ = _).trans hd)
  have z_w72 := E72.size
  have hk := hk.keep0 E72
  have hM := hM.keep0 E72
  have hl := hl.keep0 E72
  have hO63 := hO63.keep0 E72
  have hB71 := hB71.keep0 E72
  have hb := grow_step0 hb E72
  have s72_8 := (hbs72 8 rfl).trans (sl_hit hN rfl)
  have s72_35 : Sl a72 35 (Value.map (some m)) := (hph72 3 _ 35 rfl rfl).2 rfl
  have s72_36 : Sl a72 36 (Value.int .i64 n) := (hph72 4 _ 36 rfl rfl).2 rfl
  have s72_41 : Sl a72 41 (ptr b69 0) := (Option.some.inj ((hph72 9 _ 41 rfl rfl).1 2 rfl)).symm
  refine split_end ?_
  refine from_seq (tl := [_]) (by decide) (by kernel_rfl) rfl ?_
  have hM_old := hM
  refine op_mapput (k := n) (v := b69) Try.underlying119 (Go.Gx.key_int Try.underlying3) (ev_base hN72 rfl s72_35) (ev_base hN72 rfl s72_36) (ev_base hN72 rfl s72_41) hM ?_
  intro w73 hM75 E74
  have z_w73 := E74.size
  have hk := hk.keepM hM_old E74
  have hl := hl.keepM hM_old E74
  have hO63 := hO63.keepM hM_old E74
  have hB71 := hB71.keepM hM_old E74
  have hb := grown_trans hb E74
  refine reg_nil ?_
  refine hK61 _ _ ?_
  refine seq_any fun K76 hK76 => ?_
  refine one_reg ?_
  refine op_assign rfl ?_
  refine reg_nil ?_
  refine hK76 _ _ ?_
  refine wp_ret ?_
  refine ret1 rfl hd72 (ev_hit hN72 rfl) ⟨_, rfl, ?_⟩
  -- path
  exact ⟨hb, rfl, b69, _, by omega, hB71, hO63, hM75⟩

theorem Enter_nomap {lv : Value} {s : Int} {l : List UInt16} {n : Int} {k : Nat} {w : World} (hk : Bx w k 121 [.map none]) {lo : Nat} (hl : RdC w 0 lo 1 lv l.length (l.map u16v)) (hlo : lo ≤ k) (hl8 : l.length ≤ 100) : Ret Try.prog 54 #[(ptr k 0), (Value.int .i64 n), lv, (Value.int .u64 s)] w (fun v' w' => w.grownBy w' (some k) ∧ v' = .int .i64 0 ∧ ∃ m q nv, w.heap.size ≤ m ∧ w.heap.size ≤ q ∧ Bx w' k 121 [.map (some m)] ∧ Bx w' q 164 [nv, .int .u64 s, .slice none 0 0, .slice none 0 0, .bool false] ∧ Own w' w.heap.size 46 1 nv l.length (l.map u16v) ∧ MapC (Value.int .i64) pv w' m [(n, q)]) := by
 have hi_k := hk.lt
 have hb := grown_refl w (some k)
 refine enter (N := 42) Try.func54 rfl rfl (by simp) fun a0 hN hd hA => ?_
 have s0 : a0.tmps.getD 0 undef = (ptr k 0) := hA 0 (by simp)
 have s1 : a0.tmps.getD 1 undef = (Value.int .i64 n) := hA 1 (by simp)
 have s2 : a0.tmps.getD 2 undef = lv := hA 2 (by simp)
 have s3 : a0.tmps.getD 3 undef = (Value.int .u64 s) := hA 3 (by simp)
 clear hA
 refine seq_any fun K77 hK77 => ?_
 refine one_reg ?_
 refine op_assign rfl ?_
 refine reg_nil ?_
 refine hK77 _ _ ?_
 refine seq_any fun K78 hK78 => ?_
 refine one_reg ?_
 refine op_move (ev_base hN rfl s0) ?_
 refine op_move (ev_base hN rfl s1) ?_
 refine op_fn (vs := [(ptr k 0), (Value.int .i64 n)]) ok95 ⟨(ev_hit hN rfl), ⟨(ev_hit hN rfl), trivial⟩⟩ (Ret.flip (at_nomap n hk)) ?_
 rintro _ _ ⟨rfl, rfl⟩
 refine op_move (ev_hit hN rfl) ?_
 refine op_extract (ev_hit hN rfl) rfl ?_
 refine op_extract (ev_hit hN rfl) rfl ?_
 refine op_assign (ev_hit hN rfl) ?_
 refine op_assign (ev_hit hN rfl) ?_
 refine reg_nil ?_
 refine hK78 _ _ ?_
 refine seq_any fun K79 hK79 => ?_
 refine seq_any fun K80 hK80 => ?_
 refine one_reg ?_
 refine op_move (ev_hit hN rfl) ?_
 refine reg_nil ?_
 refine hK80 _ _ ?_
 refine wp_block ?_
 refine seq_any fun K81 hK81 => ?_
 refine one_reg ?_
 refine op_bin (v := .bool false) (ev_hit hN rfl) rfl (by rw [binOp_eql]; rfl) ?_
 refine op_assign (ev_hit hN rfl) ?_
 refine reg_nil ?_
 refine hK81 _ _ ?_
 refine wp_cond_false (ev_hit hN rfl) ?_
 refine seq_any fun K82 hK82 => ?_
 refine one_reg ?_
 refine op_bin (v := .bool false) (ev_hit hN rfl) rfl (by rw [binOp_eql]; rfl) ?_
 refine op_assign (ev_hit hN rfl) ?_
 refine reg_nil ?_
 refine hK82 _ _ ?_
 refine wp_cond_false (ev_hit hN rfl) ?_
 refine wp_skip ?_
 refine hK79 _ _ ?_
 refine seq_any fun K83 hK83 => ?_
 refine seq_any fun K84 hK84 => ?_
 refine one_reg ?_
 refine op_move (ev_base hN rfl s0) ?_
 refine op_nil (ev_hit hN rfl) ?_
 refine op_field fld121_0 (ev_hit hN rfl) ?_
 refine op_load1 (v := (Value.map none)) one119 (ev_hit hN rfl) (hk.cell rfl) ?_
 refine op_meq (r := none) Try.underlying119 (ev_hit hN rfl) rfl ?_
 refine reg_nil ?_
 refine hK84 _ _ ?_
 refine wp_cond_true (ev_hit hN rfl) ?_
 refine one_reg ?_
 refine op_move (ev_base hN rfl s0) ?_
 refine op_mkmap (kv := (Value.int .i64)) (vv := pv) ?_
 intro w85 m87 lo_m87 hi_m87 hM88 E86
 have z_w85 := E86.size
 have hk := hk.keep0 E86
 have hl := hl.keep0 E86
 have hb := grow_step0 hb E86
 refine op_nil (ev_hit hN rfl) ?_
 refine op_field fld121_0 (ev_hit hN rfl) ?_
 have hk_old := hk
 refine op_store (vs := [(Value.map (some m87))]) (cs' := [(Value.map (some m87))]) size119 (ev_hit hN rfl) (ev_hit hN rfl) rfl rfl rfl hk (Nat.le_of_ble_eq_true rfl) rfl ?_
 intro w91 hk E92
 have z_w91 := E92.size
 have hl := hl.keep E92 (fun k hk => .inr (by simp at hk; omega))
 have hM88 := hM88.keepB hk_old E92
 have hb := grown_trans hb E92
 refine reg_nil ?_
 refine hK83 _ _ ?_
 refine seq_any fun K93 hK93 => ?_
 refine reg_split (hd := [_, _, _, _, _, _, _, _, _, _]) (tl := _) 10 mixed (by kernel_rfl) rfl rfl ?_
 refine any_env (φ := phiV [(fun uz => uz = (ptr k 0)), (fun uz => uz = (ptr k 0)), (fun uz => uz = (ptr k 0)), (fun uz => uz = (Value.map (some m87))), (fun uz => uz = (Value.int .i64 n)), (fun uz => uz = lv), (fun _ => True), (fun uz => uz = (Value.int .u64 s)), (fun _ => True), (fun _ => True)]) (G := fun w' => Bx w' k 121 [(Value.map (some m87))]) [6, 8, 9] (by kernel_rfl) (by kernel_rfl) (by kernel_rfl) (by kernel_rfl) hN (fun w1 w2 E h => h.keep0 E) hk (ObEs.cons ?_ (ObEs.cons ?_ (ObEs.cons ?_ (ObEs.cons ?_ (ObEs.cons ?_ (ObEs.cons ?_ (ObEs.pass rfl (ObEs.cons ?_ (ObEs.pass rfl (ObEs.pass rfl (ObEs.nil))))))))))) (by simp only [putsL_defers]) ?_
 ·
  intro eA aA wA hNA hGA hbsA hdpA
  have qA_0 := (hbsA 0 rfl).trans (sl_base hN rfl s0)
  refine op_move (ev_base hNA rfl qA_0) ?_
  exact obE_end rfl rfl rfl
 ·
  intro eA aA wA hNA hGA hbsA hdpA
  have qA_32 : Sl aA 32 (ptr k 0) := (hdpA 0 _ 32 (by kernel_rfl) rfl rfl).2 rfl
  refine op_nil (ev_base hNA rfl qA_32) ?_
  exact obE_end rfl rfl rfl
 ·
  intro eA aA wA hNA hGA hbsA hdpA
  have qA_33 : Sl aA 33 (ptr k 0) := (hdpA 1 _ 33 (by kernel_rfl) rfl rfl).2 rfl
  refine op_field fld121_0 (ev_base hNA rfl qA_33) ?_
  exact obE_end rfl rfl rfl
 ·
  intro eA aA wA hNA hGA hbsA hdpA
  have qA_34 : Sl aA 34 (ptr k 0) := (hdpA 2 _ 34 (by kernel_rfl) rfl rfl).2 rfl
  refine op_load1 (v := (Value.map (some m87))) one119 (ev_base hNA rfl qA_34) (hGA.cell rfl) ?_
  exact obE_end rfl rfl rfl
 ·
  intro eA aA wA hNA hGA hbsA hdpA
  have qA_1 := (hbsA 1 rfl).trans (sl_base hN rfl s1)
  refine op_move (ev_base hNA rfl qA_1) ?_
  exact obE_end rfl rfl rfl
 ·
  intro eA aA wA hNA hGA hbsA hdpA
  have qA_2 := (hbsA 2 rfl).trans (sl_base hN rfl s2)
  refine op_move (ev_base hNA rfl qA_2) ?_
  exact obE_end rfl rfl rfl
 ·
  intro eA aA wA hNA hGA hbsA hdpA
  have qA_3 := (hbsA 3 rfl).trans (sl_base hN rfl s3)
  refine op_move (ev_base hNA rfl qA_3) ?_
  exact obE_end rfl rfl rfl
 ·
  intro w94 E94 _ a94 hN94 hbs94 hdp94 o_ ho_; obtain rfl := Option.some.inj ho_
  have z_w94 := E94.size
  have hl := hl.keep0 E94
  have hM88 := hM88.keep0 E94
  have hk := hk.keep0 E94
  have hb := grow_step0 hb E94
  have q94_37 : Sl a94 37 lv := (hdp94 5 _ 37 (by kernel_rfl) rfl rfl).2 rfl
  refine op_fn (vs := [lv]) ok77 ⟨(ev_base hN94 rfl q94_37), trivial⟩ (CloneL l _ _ (by omega) (hl.mono (Nat.zero_le _) (by omega))) ?_
  rintro v95 w96 ⟨E97, hO95⟩
  have E97 := grown_of_below E97
  have z_w96 := E97.size
  have hl := hl.keep0 E97
  have hM88 := hM88.keep0 E97
  have hk := hk.keep0 E97
  have hb := grow_step0 hb E97
  have hO95 := hO95.mono (base' := w.heap.size) (by omega)
  refine ke_end rfl (by decide) rfl hk ?_
  intro w98 E98 _ a98 hN98 hbs98 hdp98 o_ ho_; obtain rfl := Option.some.inj ho_
  have z_w98 := E98.size
  have hl := hl.keep0 E98
  have hM88 := hM88.keep0 E98
  have hk := hk.keep0 E98
  have hO95 := hO95.keep0 E98
  have hb := grow_step0 hb E98
  have q98_38 : Sl a98 38 v95 := (Option.some.inj ((hdp98 6 _ 38 (by kernel_rfl) rfl rfl).1 0 rfl)).symm
  have q98_39 : Sl a98 39 (Value.int .u64 s) := (hdp98 7 _ 39 (by kernel_rfl) rfl rfl).2 rfl
  refine op_build (pv := [(0, v95), (1, (Value.int .u64 s))]) (v := (Value.agg #[v95, (Value.int .u64 s), (Value.slice none 0 0), (Value.slice none 0 0), (Value.bool false)])) ⟨rfl, (ev_base hN98 rfl q98_38), ⟨rfl, (ev_base hN98 rfl q98_39), trivial⟩⟩ (by obtain ⟨_, _, _, rfl⟩ := hO95.sl; kernel_rfl) ?_
  refine ke_end rfl (by decide) rfl hk ?_
  intro w99 E99 _ a99 hN99 hbs99 hdp99 o_ ho_; obtain rfl := Option.some.inj ho_
  have z_w99 := E99.size
  have hl := hl.keep0 E99
  have hM88 := hM88.keep0 E99
  have hk := hk.keep0 E99
  have hO95 := hO95.keep0 E99
  have hb := grow_step0 hb E99
  have q99_40 : Sl a99 40 (Value.agg #[v95, (Value.int .u64 s), (Value.slice none 0 0), (Value.slice none 0 0), (Value.bool false)]) := (Option.some.inj ((hdp99 8 _ 40 (by kernel_rfl) rfl rfl).1 1 rfl)).symm
  refine op_box (cs := [v95, (Value.int .u64 s), (Value.slice none 0 0), (Value.slice none 0 0), (Value.bool false)]) (ev_base hN99 rfl q99_40) rfl ?_
  intro w100 b101 lo_b101 hi_b101 hB103 E102
  have z_w100 := E102.size
  have hl := hl.keep0 E102
  have hM88 := hM88.keep0 E102
  have hk := hk.keep0 E102
  have hO95 := hO95.keep0 E102
  have hb := grow_step0 hb E102
  refine ke_end rfl (by decide) rfl hk ?_
  intro w104 E104 a104 hN104 hd104 hbs104 hph104
  have hd104 := hd104.trans ((by simp only [putsL_defers] : _ = _).trans hd)
  have z_w104 := E104.size
  have hl := hl.keep0 E104
  have hM88 := hM88.keep0 E104
  have hk := hk.keep0 E104
  have hO95 := hO95.keep0 E104
  have hB103 := hB103.keep0 E104
  have hb := grow_step0 hb E104
  have s104_8 := (hbs104 8 rfl).trans (sl_hit hN rfl)
  have s104_35 : Sl a104 35 (Value.map (some m87)) := (hph104 3 _ 35 rfl rfl).2 rfl
  have s104_36 : Sl a104 36 (Value.int .i64 n) := (hph104 4 _ 36 rfl rfl).2 rfl
  have s104_41 : Sl a104 41 (ptr b101 0) := (Option.some.inj ((hph104 9 _ 41 rfl rfl).1 2 rfl)).symm
  refine split_end ?_
  refine from_seq (tl := [_]) (by decide) (by kernel_rfl) rfl ?_
  have hM88_old := hM88
  refine op_mapput (k := n) (v := b101) Try.underlying119 (Go.Gx.key_int Try.underlying3) (ev_base hN104 rfl s104_35) (ev_base hN104 rfl s104_36) (ev_base hN104 rfl s104_41) hM88 ?_
  intro w105 hM107 E106
  have z_w105 := E106.size
  have hl := hl.keepM hM88_old E106
  have hk := hk.keepM hM88_old E106
  have hO95 := hO95.keepM hM88_old E106
  have hB103 := hB103.keepM hM88_old E106
  have hb := grow_step1 hb E106 (by omega)
  refine reg_nil ?_
  refine hK93 _ _ ?_
  refine seq_any fun K108 hK108 => ?_
  refine one_reg ?_
  refine op_assign rfl ?_
  refine reg_nil ?_
  refine hK108 _ _ ?_
  refine wp_ret ?_
  refine ret1 rfl hd104 (ev_hit hN104 rfl) ⟨_, rfl, ?_⟩
  -- path
  exact ⟨hb, rfl, m87, b101, _, by omega, by omega, hk, hB103, hO95, hM107⟩

theorem lockNew_ret (w : World) : Ret Try.prog 53 #[] w (fun v' w' => Below w.heap.size w w' ∧ ∃ k, w.heap.size ≤ k ∧ v' = ptr k 0 ∧ Bx w' k 121 [.map none]) := by
 have hb := Below.refl w.heap.size w
 refine enter (N := 3) Try.func53 rfl rfl (by simp) fun a0 hN hd hA => ?_
 clear hA
 refine seq_any fun K109 hK109 => ?_
 refine one_reg ?_
 refine op_assign rfl ?_
 refine reg_nil ?_
 refine hK109 _ _ ?_
 refine seq_any fun K110 hK110 => ?_
 refine one_reg ?_
 refine op_build (pv := []) (v := (Value.agg #[(Value.map none)])) trivial (by kernel_rfl) ?_
 refine op_box (cs := [(Value.map none)]) (ev_hit hN rfl) rfl ?_
 intro w111 b112 lo_b112 hi_b112 hB114 E113
 have z_w111 := E113.size
 have hb := below_step0 hb E113 hb.size
 refine op_assign (ev_hit hN rfl) ?_
 refine reg_nil ?_
 refine hK110 _ _ ?_
 refine wp_ret ?_
 refine ret1 rfl hd (ev_hit hN rfl) ⟨_, rfl, ?_⟩
 -- path
 exact ⟨hb, b112, by omega, rfl, hB114⟩

end Go.Proofs.Ytmhdbphpmgjpcaa

/- Walks, written by a program: what each function of the translation hands back. -/
namespace Go.Proofs.Ytmhdbphpmgjpcaa
open Go.Gx Go.RowKit
attribute [local irreducible] wpList wpStill Code.wp Calls

theorem keys_ret {m : Nat} (w : World) : Ret Try.prog 120 #[(Value.map (some m))] w (fun v' w' => Below w.heap.size w w' ∧ ∃ b, w.heap.size ≤ b ∧ v' = .func (.func 138) #[] #[ptr b 0] ∧ Bx w' b 119 [.map (some m)]) := by
 have hb := Below.refl w.heap.size w
 refine enter (N := 4) Try.func120 rfl rfl (by simp) fun a0 hN hd hA => ?_
 have s0 : a0.tmps.getD 0 undef = (Value.map (some m)) := hA 0 (by simp)
 clear hA
 refine seq_any fun K1 hK1 => ?_
 refine one_reg ?_
 refine op_box (cs := [(Value.map (some m))]) (ev_base hN rfl s0) rfl ?_
 intro w2 b3 lo_b3 hi_b3 hB5 E4
 have z_w2 := E4.size
 have hb := below_step0 hb E4 hb.size
 refine op_assign rfl ?_
 refine reg_nil ?_
 refine hK1 _ _ ?_
 refine seq_any fun K6 hK6 => ?_
 refine one_reg ?_
 refine op_mkfn (cv := [(ptr b3 0)]) ⟨(ev_hit hN rfl), trivial⟩ ?_
 refine op_assign (ev_hit hN rfl) ?_
 refine reg_nil ?_
 refine hK6 _ _ ?_
 refine wp_ret ?_
 refine ret1 rfl hd (ev_hit hN rfl) ⟨_, rfl, ?_⟩
 -- path
 exact ⟨hb, b3, by omega, rfl, hB5⟩

theorem others_ret {base k m : Nat} {M : TM} {C : List TC} {F0 : Nat → Prop} {q : List UInt16 → Bool} (n : Int) {w : World} (hbase : base ≤ w.heap.size) (hk : Bx w k 121 [.map (some m)]) (hM : MapC (Value.int .i64) pv w m (esOf M C)) (hA : LkAll w base M C F0) (hMo : MOk M) {g : Nat} {fs cs : List Value} (hokg : callOk Try.prog g = true) (hf : ∀ j, j < M.length → ∀ w1, Below w.heap.size w w1 → Ret Try.prog g (fs ++ [(C.getD j default).la] ++ cs).toArray w1 (fun v' w' => Below w1.heap.size w1 w' ∧ v' = .bool (q (M.getD j default).2.label))) : Ret Try.prog 96 #[(ptr k 0), (Value.int .i64 n), (Value.func (.func g) fs.toArray cs.toArray)] w (fun v' w' => Below w.heap.size w w' ∧ Own w' w.heap.size 3 1 v' (othersL M n q).length ((othersL M n q).map (Value.int .i64))) := by
 have hi_k := hk.lt
 have hi_m := hM.lt
 have hsl := sortK_len (M := M)
 have hm1 := hMo.1
 have djk := hA.notBx hk (by decide) (by decide) (by decide) (by decide)
 have djm := hA.notMap hM
 have hb := Below.refl w.heap.size w
 refine enter (N := 43) Try.func96 rfl rfl (by simp) fun a0 hN hd hA => ?_
 have s0 : a0.tmps.getD 0 undef = (ptr k 0) := hA 0 (by simp)
 have s1 : a0.tmps.getD 1 undef = (Value.int .i64 n) := hA 1 (by simp)
 have s2 : a0.tmps.getD 2 undef = (Value.func (.func g) fs.toArray cs.toArray) := hA 2 (by simp)
 clear hA
 refine seq_any fun K7 hK7 => ?_
 refine one_reg ?_
 refine op_assign rfl ?_
 refine reg_nil ?_
 refine hK7 _ _ ?_
 refine seq_any fun K8 hK8 => ?_
 refine one_reg ?_
 refine op_assign rfl ?_
 refine reg_nil ?_
 refine hK8 _ _ ?_
 refine seq_any fun K9 hK9 => ?_
 refine seq_any fun K10 hK10 => ?_
 refine one_reg ?_
 refine op_move (ev_base hN rfl s0) ?_
 refine op_nil (ev_hit hN rfl) ?_
 refine op_field fld121_0 (ev_hit hN rfl) ?_
 refine op_load1 (v := (Value.map (some m))) one119 (ev_hit hN rfl) (hk.cell rfl) ?_
 refine op_fn (vs := [(Value.map (some m))]) ok120 ⟨(ev_hit hN rfl), trivial⟩ (keys_ret _) ?_
 rintro _ w12 ⟨E13, b11, lo_b11, rfl, hB11⟩
 have E13 := grown_of_below E13
 have z_w12 := E13.size
 have hk := hk.keep0 E13
 have hM := hM.keep0 E13
 have hA := hA.keepG (Gr.of0 E13 NoB) (fun _ _ h => h)
 have hb := below_step0 hb E13 hb.size
 refine op_fn (vs := [(Value.func (.func 138) #[] #[(ptr b11 0)])]) ok119 ⟨(ev_hit hN rfl), trivial⟩ (sortedKeys_ret hM (es_wf hA.1 hMo) (by rw [esOf_len hA.1]; have := hMo.1; omega) hB11) ?_
 rintro v14 w15 ⟨E16, hO14⟩
 have dj17 : Dj F0 (Bl v14) := Dj.fresh (fun k hk => (hA.lt k hk).2) (fun k hk => (hO14.lt k hk).1)
 have E16 := grown_of_below E16
 have z_w15 := E16.size
 have hk := hk.keep0 E16
 have hM := hM.keep0 E16
 have hA := hA.keepG (Gr.of0 E16 NoB) (fun _ _ h => h)
 have hB11 := hB11.keep0 E16
 have hb := below_step0 hb E16 hb.size
 rw [keysUp_eq hA.1] at hO14
 have hO14 := hO14.mono (base' := w.heap.size) (by omega)
 refine op_len_rd Try.underlying35 (ev_hit hN rfl) hO14.rdw ?_
 refine op_move rfl ?_
 refine reg_nil ?_
 refine hK10 _ _ ?_
 refine wp_block ?_
 refine loop_m (fun mz_ az_ w' => ∃ (i : Nat) (r : Value), mz_ = (sortK M).length - i ∧ (az_.tmps.getD 0 undef = (ptr k 0)) ∧ (az_.tmps.getD 1 undef = (Value.int .i64 n)) ∧ (az_.tmps.getD 2 undef = (Value.func (.func g) fs.toArray cs.toArray)) ∧ (az_.tmps.getD 6 undef = (Value.slice none 0 0)) ∧ (az_.tmps.getD 15 undef = v14) ∧ (az_.tmps.getD 16 undef = (Value.int .i64 (((sortK M).length : Nat) : Int))) ∧ (az_.tmps.getD 17 undef = (Value.int .i64 ((i : Nat) : Int))) ∧ (az_.tmps.getD 7 undef = r) ∧ (i ≤ (sortK M).length) ∧ ((((sortK M).take i).filter (fun i => decide (i ≠ n) && q (txAt M i).label)).length ≤ i) ∧ (DJ v14 r) ∧ (Below w.heap.size w w') ∧ (w15.heap.size ≤ w'.heap.size) ∧ (Bx w' k 121 [(Value.map (some m))]) ∧ (MapC (Value.int .i64) pv w' m (esOf M C)) ∧ (LkAll w' base M C F0) ∧ (Bx w' b11 119 [(Value.map (some m))]) ∧ (Own w' w.heap.size 3 1 v14 (sortK M).length ((sortK M).map (Value.int .i64))) ∧ (Own w' w.heap.size 3 1 r (((sortK M).take i).filter (fun i => decide (i ≠ n) && q (txAt M i).label)).length ((((sortK M).take i).filter (fun i => decide (i ≠ n) && q (txAt M i).label)).map (Value.int .i64)))) _ hN hd ⟨0, (Value.slice none 0 0), rfl, (sl_base hN rfl s0), (sl_base hN rfl s1), (sl_base hN rfl s2), (sl_hit hN rfl), (sl_hit hN rfl), (sl_hit hN rfl), (sl_hit hN rfl), (sl_hit hN rfl), (Nat.zero_le _), (by simp), (Dj.nil _), hb, (Nat.le_refl _), hk, hM, hA, hB11, hO14, (Own.nil _ _ _ _)⟩ ?_
 rintro _ a18 w18 hN18 hd18 ⟨i, r, rfl, s18_0, s18_1, s18_2, s18_6, s18_15, s18_16, s18_17, s18_7, hi, hfl, djr, hb, zl_w18, hk, hM, hA, hB11, hO14, hO19⟩
 have z_w18 := hb.size
 refine seq_any fun K20 hK20 => ?_
 refine one_reg ?_
 refine op_lss (ev_base hN18 rfl s18_17) (ev_base hN18 rfl s18_16) (fun c18 => ?_) (fun c18 => ?_)
 · -- 18T
  refine reg_nil ?_
  refine hK20 _ _ ?_
  refine seq_any fun K21 hK21 => ?_
  refine wp_cond_true (ev_hit hN18 rfl) ?_
  refine wp_skip ?_
  refine hK21 _ _ ?_
  refine seq_any fun K22 hK22 => ?_
  refine wp_block ?_
  refine seq_any fun K23 hK23 => ?_
  refine one_reg ?_
  refine op_index_rd slt35 (ev_base hN18 rfl s18_15) hO14.rdw (ev_base hN18 rfl s18_17) (by omega) (by omega) ?_
  intro b24 o25 h0b24 h1b24 hc26
  refine op_load1 (v := (Value.int .i64 ((sortK M).getD i 0))) one3 (ev_hit hN18 rfl) (by have := hc26 0 (Value.int .i64 ((sortK M).getD i 0)) (by decide) (el_i64 (i := i) (by omega) (by omega)); simpa using this) ?_
  refine op_assign (ev_hit hN18 rfl) ?_
  refine reg_nil ?_
  refine hK23 _ _ ?_
  refine seq_any fun K27 hK27 => ?_
  refine one_reg ?_
  refine op_move (ev_hit hN18 rfl) ?_
  refine op_move (ev_base hN18 rfl s18_1) ?_
  refine op_neq (ev_hit hN18 rfl) (ev_hit hN18 rfl) (fun c23 => ?_) (fun c23 => ?_)
  · -- 23T
   refine op_move (ev_hit hN18 rfl) ?_
   have hx9 : (sortK M).getD i 0 ∈ M.map Prod.fst := sortK_mem.1 (getD_mem (by omega))
   obtain ⟨T9, hT9⟩ := mget_key hx9
   obtain ⟨j9, p9, la9, rv9, wv9, D9, hj9, hl9, hMj9, hCj9, hes9, hp9, hx9, hL9, hR9, hD9, hW9, hDe9⟩ := LkAll.key hA hT9
   have ht9 : txAt M ((sortK M).getD i 0) = T9 := by unfold txAt; rw [hT9]; rfl
   refine g_true (j := 3) (dj := 24) (b := true) rfl rfl rfl (ev_hit hN18 rfl) ?_
   refine op_move (ev_base hN18 rfl s18_2) ?_
   refine g_true (j := 3) (dj := 24) (b := true) rfl rfl rfl (ev_hit hN18 rfl) ?_
   refine op_move (ev_base hN18 rfl s18_0) ?_
   refine g_true (j := 3) (dj := 24) (b := true) rfl rfl rfl (ev_hit hN18 rfl) ?_
   refine op_nil (ev_hit hN18 rfl) ?_
   refine g_true (j := 3) (dj := 24) (b := true) rfl rfl rfl (ev_hit hN18 rfl) ?_
   refine op_field fld121_0 (ev_hit hN18 rfl) ?_
   refine g_true (j := 3) (dj := 24) (b := true) rfl rfl rfl (ev_hit hN18 rfl) ?_
   refine op_load1 (v := (Value.map (some m))) one119 (ev_hit hN18 rfl) (hk.cell rfl) ?_
   refine g_true (j := 3) (dj := 24) (b := true) rfl rfl rfl (ev_hit hN18 rfl) ?_
   refine op_move (ev_hit hN18 rfl) ?_
   refine g_true (j := 3) (dj := 24) (b := true) rfl rfl rfl (ev_hit hN18 rfl) ?_
   refine op_look_hit (k := ((sortK M).getD i 0)) (v := p9) Try.underlying119 (Go.Gx.key_int Try.underlying3) zero155 (ev_hit hN18 rfl) (ev_hit hN18 rfl) hM hes9 ?_
   refine g_true (j := 3) (dj := 24) (b := true) rfl rfl rfl (ev_hit hN18 rfl) ?_
   refine op_nil (ev_hit hN18 rfl) ?_
   refine g_true (j := 3) (dj := 24) (b := true) rfl rfl rfl (ev_hit hN18 rfl) ?_
   refine op_field fld164_0 (ev_hit hN18 rfl) ?_
   refine g_true (j := 3) (dj := 24) (b := true) rfl rfl rfl (ev_hit hN18 rfl) ?_
   refine op_load1 (v := la9) one54 (ev_hit hN18 rfl) (hx9.cell rfl) ?_
   refine g_true (j := 3) (dj := 24) (b := true) rfl rfl rfl (ev_hit hN18 rfl) ?_
   refine op_fnv (fs := fs) (vs := [la9]) (cs := cs) (ev_hit hN18 rfl) hokg ⟨(ev_hit hN18 rfl), trivial⟩ ((by have h9 := hf j9 hj9 _ hb; rw [hCj9, hMj9] at h9; exact h9)) ?_
   rintro _ w28 ⟨E29, rfl⟩
   have E29 := grown_of_below E29
   have z_w28 := E29.size
   have hk := hk.keep0 E29
   have hM := hM.keep0 E29
   have hA := hA.keepG (Gr.of0 E29 NoB) (fun _ _ h => h)
   have hB11 := hB11.keep0 E29
   have hO14 := hO14.keep0 E29
   have hO19 := hO19.keep0 E29
   have hx9 := hx9.keep0 E29
   have hL9 := hL9.keep0 E29
   have hR9 := hR9.keep0 E29
   have hD9 : ∀ x9 ∈ (D9.map rdL), Own w28 base 46 1 x9.1 x9.2.length (x9.2.map u16v) := fun x9 hx9 => (hD9 x9 hx9).keep0 E29
   have hW9 := hW9.keep0 E29
   have hb := below_step0 hb E29 hb.size
   rcases Bool.eq_false_or_eq_true ((q T9.label)) with c35 | c35
   · -- 35T
    rw [c35]
    refine op_pick_t (ev_hit hN18 rfl) (ev_hit hN18 rfl) ?_
    refine reg_nil ?_
    refine hK27 _ _ ?_
    refine wp_cond_true (ev_hit hN18 rfl) ?_
    refine one_reg ?_
    refine op_move (ev_base hN18 rfl s18_7) ?_
    refine op_move (ev_hit hN18 rfl) ?_
    refine op_bslice (e := 3) (pv := [(0, (Value.int .i64 ((sortK M).getD i 0)))]) (cs := [(Value.int .i64 ((sortK M).getD i 0))]) ⟨rfl, (ev_hit hN18 rfl), trivial⟩ (by kernel_rfl) ?_
    intro w30 b31 lo_b31 hi_b31 hB33 E32
    have dj34 : ¬ F0 b31 := fun hf => by have := (hA.lt _ hf).2; omega
    have ne_b31_v14 : v14.ownBlock ≠ some b31 := fun hh => by have := (hO14.lt _ hh).2; omega
    have ne_b31_r : r.ownBlock ≠ some b31 := fun hh => by have := (hO19.lt _ hh).2; omega
    have z_w30 := E32.size
    have hk := hk.keep0 E32
    have hM := hM.keep0 E32
    have hA := hA.keepG (Gr.of0 E32 NoB) (fun _ _ h => h)
    have hB11 := hB11.keep0 E32
    have hO14 := hO14.keep0 E32
    have hO19 := hO19.keep0 E32
    have hx9 := hx9.keep0 E32
    have hL9 := hL9.keep0 E32
    have hR9 := hR9.keep0 E32
    have hD9 : ∀ x9 ∈ (D9.map rdL), Own w30 base 46 1 x9.1 x9.2.length (x9.2.map u16v) := fun x9 hx9 => (hD9 x9 hx9).keep0 E32
    have hW9 := hW9.keep0 E32
    have hb := below_step0 hb E32 hb.size
    have hP40 := hO19
    refine op_append slt35 (ev_hit hN18 rfl) hP40 (ev_hit hN18 rfl) (Src.ofRd Try.underlying35 (by decide) (RdC.ofBx (sz := 1) (n := 1) hB33 rfl (by decide)) (by simp [Value.oneCell', u8v])) (by unfold maxLen; omega) (by omega) hb.size ?_
    intro v35 w36 hO38 E37 hm39
    have dj41 : DJ v14 v35 := DJ.step hm39 (fun k hk => (hO14.lt k hk).2) djr
    have dj42 : Dj F0 (Bl v35) := Dj.step hm39 (fun k hk => (hA.lt k hk).2) (hA.notOwn hP40 (by decide) (by decide) (by decide) (by decide)).symm
    have z_w36 := E37.size
    have hk := hk.keepO hP40 E37 (by decide)
    have hM := hM.keepO hP40 E37
    have hA := hA.keepG (Gr.of E37) (hA.notOwn hP40 (by decide) (by decide) (by decide) (by decide)).symm
    have hB11 := hB11.keepO hP40 E37 (by decide)
    have hO14 := hO14.keepD E37 djr
    have hx9 := hx9.keepO hP40 E37 (by decide)
    have hL9 := hL9.keepT hP40 E37 (by decide)
    have hR9 := hR9.keepT hP40 E37 (by decide)
    have hD9 : ∀ x9 ∈ (D9.map rdL), Own w36 base 46 1 x9.1 x9.2.length (x9.2.map u16v) := fun x9 hx9 => (hD9 x9 hx9).keepT hP40 E37 (by decide)
    have hW9 := hW9.keepT hP40 E37 (by decide)
    have hB33 := hB33.keep E37 (fun hh => ne_b31_r hh.symm)
    have hb := below_stepO hb hP40 E37 hb.size (by omega)
    have hO38 : Own w36 w.heap.size 3 1 v35 ((((sortK M).take i).filter (fun i => decide (i ≠ n) && q (txAt M i).label)).length + 1) ((((((sortK M).take i).filter (fun i => decide (i ≠ n) && q (txAt M i).label)) ++ [((sortK M).getD i 0)])).map (Value.int .i64)) := by simpa [u8v, u16v, sv] using hO38
    have ne_b31_v35 : v35.ownBlock ≠ some b31 := ne_step (w1 := w30) ⟨E37, hm39⟩ (by omega) ne_b31_r
    refine op_assign (ev_hit hN18 rfl) ?_
    refine reg_nil ?_
    refine hK22 _ _ ?_
    refine one_reg ?_
    refine op_add (ev_base hN18 rfl s18_17) rfl (add64 (by omega)) ?_
    refine op_move (ev_hit hN18 rfl) ?_
    refine reg_nil ?_
    -- round 18T 23T 35T
    exact loop_next _ hN18 hd18 ⟨(i + 1), v35, rfl, (sl_base hN18 rfl s18_0), (sl_base hN18 rfl s18_1), (sl_base hN18 rfl s18_2), (sl_base hN18 rfl s18_6), (sl_base hN18 rfl s18_15), (sl_base hN18 rfl s18_16), (sl_hit hN18 rfl).trans (congrArg (Value.int .i64) (by omega)), (sl_hit hN18 rfl), (by omega), (filt_le (by omega)), dj41, hb, (by omega), hk, hM, hA, hB11, hO14, (hO38.cast (by rw [filtT (d := 0) (by omega) (by rw [decide_eq_true c23, ht9, c35]; rfl)]; simp) (by rw [filtT (d := 0) (by omega) (by rw [decide_eq_true c23, ht9, c35]; rfl)]))⟩ (by omega)
   · -- 35F
    rw [c35]
    refine op_pick_t (ev_hit hN18 rfl) (ev_hit hN18 rfl) ?_
    refine reg_nil ?_
    refine hK27 _ _ ?_
    refine wp_cond_false (ev_hit hN18 rfl) ?_
    refine wp_skip ?_
    refine hK22 _ _ ?_
    refine one_reg ?_
    refine op_add (ev_base hN18 rfl s18_17) rfl (add64 (by omega)) ?_
    refine op_move (ev_hit hN18 rfl) ?_
    refine reg_nil ?_
    -- round 18T 23T 35F
    exact loop_next _ hN18 hd18 ⟨(i + 1), r, rfl, (sl_base hN18 rfl s18_0), (sl_base hN18 rfl s18_1), (sl_base hN18 rfl s18_2), (sl_base hN18 rfl s18_6), (sl_base hN18 rfl s18_15), (sl_base hN18 rfl s18_16), (sl_hit hN18 rfl).trans (congrArg (Value.int .i64) (by omega)), (sl_base hN18 rfl s18_7), (by omega), (filt_le (by omega)), djr, hb, (by omega), hk, hM, hA, hB11, hO14, (hO19.cast (by rw [filtF (d := 0) (by omega) (by rw [ht9, c35, Bool.and_false])]) (by rw [filtF (d := 0) (by omega) (by rw [ht9, c35, Bool.and_false])]))⟩ (by omega)
  · -- 23F
   refine op_move (ev_hit hN18 rfl) ?_
   have hx9 : (sortK M).getD i 0 ∈ M.map Prod.fst := sortK_mem.1 (getD_mem (by omega))
   obtain ⟨T9, hT9⟩ := mget_key hx9
   obtain ⟨j9, p9, la9, rv9, wv9, D9, hj9, hl9, hMj9, hCj9, hes9, hp9, hx9, hL9, hR9, hD9, hW9, hDe9⟩ := LkAll.key hA hT9
   have ht9 : txAt M ((sortK M).getD i 0) = T9 := by unfold txAt; rw [hT9]; rfl
   refine g_false (j := 3) (dj := 24) (b := true) rfl rfl rfl (ev_hit hN18 rfl) rfl rfl ?_
   refine g_false (j := 3) (dj := 24) (b := true) rfl rfl rfl (ev_hit hN18 rfl) rfl rfl ?_
   refine g_false (j := 3) (dj := 24) (b := true) rfl rfl rfl (ev_hit hN18 rfl) rfl rfl ?_
   refine g_false (j := 3) (dj := 24) (b := true) rfl rfl rfl (ev_hit hN18 rfl) rfl rfl ?_
   refine g_false (j := 3) (dj := 24) (b := true) rfl rfl rfl (ev_hit hN18 rfl) rfl rfl ?_
   refine g_false (j := 3) (dj := 24) (b := true) rfl rfl rfl (ev_hit hN18 rfl) rfl rfl ?_
   refine g_false (j := 3) (dj := 24) (b := true) rfl rfl rfl (ev_hit hN18 rfl) rfl rfl ?_
   refine g_false (j := 3) (dj := 24) (b := true) rfl rfl rfl (ev_hit hN18 rfl) rfl rfl ?_
   refine g_false (j := 3) (dj := 24) (b := true) rfl rfl rfl (ev_hit hN18 rfl) rfl rfl ?_
   refine g_false (j := 3) (dj := 24) (b := true) rfl rfl rfl (ev_hit hN18 rfl) rfl rfl ?_
   refine g_false (j := 3) (dj := 24) (b := true) rfl rfl rfl (ev_hit hN18 rfl) rfl rfl ?_
   refine op_pick_f (ev_hit hN18 rfl) rfl ?_
   refine reg_nil ?_
   refine hK27 _ _ ?_
   refine wp_cond_false (ev_hit hN18 rfl) ?_
   refine wp_skip ?_
   refine hK22 _ _ ?_
   refine one_reg ?_
   refine op_add (ev_base hN18 rfl s18_17) rfl (add64 (by omega)) ?_
   refine op_move (ev_hit hN18 rfl) ?_
   refine reg_nil ?_
   -- round 18T 23F
   exact loop_next _ hN18 hd18 ⟨(i + 1), r, rfl, (sl_base hN18 rfl s18_0), (sl_base hN18 rfl s18_1), (sl_base hN18 rfl s18_2), (sl_base hN18 rfl s18_6), (sl_base hN18 rfl s18_15), (sl_base hN18 rfl s18_16), (sl_hit hN18 rfl).trans (congrArg (Value.int .i64) (by omega)), (sl_base hN18 rfl s18_7), (by omega), (filt_le (by omega)), djr, hb, (by omega), hk, hM, hA, hB11, hO14, (hO19.cast (by rw [filtF (d := 0) (by omega) (by rw [decide_eq_false (fun h => h c23)]; rfl)]) (by rw [filtF (d := 0) (by omega) (by rw [decide_eq_false (fun h => h c23)]; rfl)]))⟩ (by omega)
 · -- 18F
  refine reg_nil ?_
  refine hK20 _ _ ?_
  refine seq_any fun K43 hK43 => ?_
  refine wp_cond_false (ev_hit hN18 rfl) ?_
  refine wp_exit (then_exit (then_exit (blk_hit ?_)))
  refine hK9 _ _ ?_
  refine seq_any fun K44 hK44 => ?_
  refine one_reg ?_
  refine op_move (ev_base hN18 rfl s18_7) ?_
  refine op_assign (ev_hit hN18 rfl) ?_
  refine reg_nil ?_
  refine hK44 _ _ ?_
  refine wp_ret ?_
  refine ret1 rfl hd18 (ev_hit hN18 rfl) ⟨_, rfl, ?_⟩
  -- path 18F
  rw [List.take_of_length_le (by omega)] at hO19
  exact ⟨hb, hO19⟩

end Go.Proofs.Ytmhdbphpmgjpcaa
