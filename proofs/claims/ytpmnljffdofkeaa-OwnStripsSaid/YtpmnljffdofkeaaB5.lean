/- Walks, written by a program: what each function of the translation hands back. -/
import Derived.Test.YtpmnljffdofkeaaB4
namespace Go.Proofs.Ytpmnljffdofkeaa
open Go.Gx Go.RowKit
attribute [local irreducible] wpList wpStill Code.wp Calls
open Go.Sort (bitsLen)
theorem indexW_ret (l : Lb) (x : UInt16) (v : Value) (w : World) (hz : l.length ≤ 1000000000000) (hl : RdC w 0 w.heap.size 1 v l.length (l.map u16v)) : Ret Try.prog 60 #[v, (Value.int .u16 (x.toNat : Int))] w (fun v' w' => (∃ z : Int, v' = .int .i64 z ∧ decide (0 ≤ z) = inL x l) ∧ w' = w) := by
 have hb := Below.refl w.heap.size w
 refine enter (N := 19) Try.func60 rfl rfl (by simp) fun a0 hN hd hA => ?_
 have s0 : a0.tmps.getD 0 undef = v := hA 0 (by simp)
 have s1 : a0.tmps.getD 1 undef = (Value.int .u16 (x.toNat : Int)) := hA 1 (by simp)
 clear hA
 refine seq_any fun K663 hK663 => ?_
 refine one_reg ?_
 refine op_assign rfl ?_
 refine reg_nil ?_
 refine hK663 _ _ ?_
 refine seq_any fun K664 hK664 => ?_
 refine seq_any fun K665 hK665 => ?_
 refine one_reg ?_
 refine op_move (ev_base hN rfl s0) ?_
 refine op_len_rd Try.underlying23 (ev_hit hN rfl) hl ?_
 refine op_move rfl ?_
 refine reg_nil ?_
 refine hK665 _ _ ?_
 refine wp_block ?_
 refine loop_m (fun mz_ az_ w' => ∃ (i : Nat), mz_ = l.length - i ∧ (az_.tmps.getD 0 undef = v) ∧ (az_.tmps.getD 1 undef = (Value.int .u16 (x.toNat : Int))) ∧ (az_.tmps.getD 7 undef = (Value.int .i64 ((l.length : Nat) : Int))) ∧ (az_.tmps.getD 8 undef = (Value.int .i64 ((i : Nat) : Int))) ∧ (i ≤ l.length) ∧ (∀ j9, j9 < i → l.getD j9 0 ≠ x) ∧ w = w') _ hN hd ⟨0, rfl, (sl_base hN rfl s0), (sl_base hN rfl s1), (sl_hit hN rfl), (sl_hit hN rfl).trans (congrArg (Value.int .i64) (by omega)), Nat.zero_le _, (fun j9 h9 => absurd h9 (Nat.not_lt_zero _)), rfl⟩ ?_
 rintro _ a666 _ hN666 hd666 ⟨i, rfl, s666_0, s666_1, s666_7, s666_8, hi, hno, rfl⟩
 refine seq_any fun K667 hK667 => ?_
 refine one_reg ?_
 refine op_lss (ev_base hN666 rfl s666_8) (ev_base hN666 rfl s666_7) (fun c9 => ?_) (fun c9 => ?_)
 · -- 9T
  refine reg_nil ?_
  refine hK667 _ _ ?_
  refine seq_any fun K668 hK668 => ?_
  refine wp_cond_true (ev_hit hN666 rfl) ?_
  refine wp_skip ?_
  refine hK668 _ _ ?_
  refine seq_any fun K669 hK669 => ?_
  refine wp_block ?_
  refine seq_any fun K670 hK670 => ?_
  refine one_reg ?_
  refine op_move (ev_base hN666 rfl s666_8) ?_
  refine op_assign (ev_hit hN666 rfl) ?_
  refine reg_nil ?_
  refine hK670 _ _ ?_
  refine seq_any fun K671 hK671 => ?_
  refine one_reg ?_
  refine op_move (ev_base hN666 rfl s666_1) ?_
  refine op_move (ev_base hN666 rfl s666_0) ?_
  refine op_move (ev_hit hN666 rfl) ?_
  refine op_index_rd slt23 (ev_hit hN666 rfl) hl (ev_hit hN666 rfl) (by omega) (by omega) ?_
  intro b672 o673 h0b672 h1b672 hc674
  refine op_load1 (v := (Value.int .u16 ((l.getD i 0).toNat : Int))) one35 (ev_hit hN666 rfl) (by have := hc674 0 (Value.int .u16 ((l.getD i 0).toNat : Int)) (by decide) (el_u16 (i := i) (by omega) (by omega)); simpa using this) ?_
  refine op_eql (ev_hit hN666 rfl) (ev_hit hN666 rfl) (fun c16 => ?_) (fun c16 => ?_)
  · -- 16T
   refine reg_nil ?_
   refine hK671 _ _ ?_
   refine wp_cond_true (ev_hit hN666 rfl) ?_
   refine seq_any fun K675 hK675 => ?_
   refine one_reg ?_
   refine op_move (ev_hit hN666 rfl) ?_
   refine op_assign (ev_hit hN666 rfl) ?_
   refine reg_nil ?_
   refine hK675 _ _ ?_
   refine wp_ret (blk_ret (then_ret (then_ret (blk_ret (then_ret ( ?_))))))
   refine ret1 rfl hd666 (ev_hit hN666 rfl) ⟨_, rfl, ?_⟩
   -- path 9T 16T
   exact ⟨⟨_, rfl, by rw [in_t (i := i) (by omega) (u16_eq c16).symm]; exact decide_eq_true (by omega)⟩, rfl⟩
  · -- 16F
   refine reg_nil ?_
   refine hK671 _ _ ?_
   refine wp_cond_false (ev_hit hN666 rfl) ?_
   refine wp_skip ?_
   refine hK669 _ _ ?_
   refine one_reg ?_
   refine op_add (ev_base hN666 rfl s666_8) rfl (add64 (by omega)) ?_
   refine op_move (ev_hit hN666 rfl) ?_
   refine reg_nil ?_
   -- round 9T 16F
   exact loop_next _ hN666 hd666 ⟨i + 1, rfl, (sl_base hN666 rfl s666_0), (sl_base hN666 rfl s666_1), (sl_base hN666 rfl s666_7), (sl_hit hN666 rfl).trans (congrArg (Value.int .i64) (by omega)), (by omega), (no_step hno (fun e9 => c16 (by rw [e9]))), rfl⟩ (by omega)
 · -- 9F
  refine reg_nil ?_
  refine hK667 _ _ ?_
  refine seq_any fun K676 hK676 => ?_
  refine wp_cond_false (ev_hit hN666 rfl) ?_
  refine wp_exit (then_exit (then_exit (blk_hit ?_)))
  refine hK664 _ _ ?_
  refine seq_any fun K677 hK677 => ?_
  refine one_reg ?_
  refine op_assign rfl ?_
  refine reg_nil ?_
  refine hK677 _ _ ?_
  refine wp_ret ?_
  refine ret1 rfl hd666 (ev_hit hN666 rfl) ⟨_, rfl, ?_⟩
  -- path 9F
  exact ⟨⟨_, rfl, by rw [in_f (i := i) (by omega) hno]; rfl⟩, rfl⟩

theorem contW_ret (l : Lb) (x : UInt16) (v : Value) (w : World) (hz : l.length ≤ 1000000000000) (hl : RdC w 0 w.heap.size 1 v l.length (l.map u16v)) : Ret Try.prog 51 #[v, (Value.int .u16 (x.toNat : Int))] w (fun v' w' => v' = .bool (inL x l) ∧ w' = w) := by
 have hb := Below.refl w.heap.size w
 refine enter (N := 9) Try.func51 rfl rfl (by simp) fun a0 hN hd hA => ?_
 have s0 : a0.tmps.getD 0 undef = v := hA 0 (by simp)
 have s1 : a0.tmps.getD 1 undef = (Value.int .u16 (x.toNat : Int)) := hA 1 (by simp)
 clear hA
 refine seq_any fun K678 hK678 => ?_
 refine one_reg ?_
 refine op_assign rfl ?_
 refine reg_nil ?_
 refine hK678 _ _ ?_
 refine seq_any fun K679 hK679 => ?_
 refine one_reg ?_
 refine op_move (ev_base hN rfl s0) ?_
 refine op_move (ev_base hN rfl s1) ?_
 refine op_fn (vs := [v, (Value.int .u16 (x.toNat : Int))]) ok60 ⟨(ev_hit hN rfl), ⟨(ev_hit hN rfl), trivial⟩⟩ (Ret.flip (indexW_ret l x _ _ (by omega) (show RdC w 0 w.heap.size 1 v l.length (l.map u16v) from by have hh : RdC w 0 w.heap.size 1 _ _ _ := (hl.mono (L' := 0) (B' := w.heap.size) (Nat.zero_le _) (by omega)); first | exact hh | exact hh.cast (by first | omega | (simp; try omega)) (by first | rfl | simp [u16v])))) ?_
 rintro _ _ ⟨⟨zi680, rfl, hzi680⟩, rfl⟩
 refine op_geq (ev_hit hN rfl) rfl (fun c8 => ?_) (fun c8 => ?_)
 · -- 8T
  refine op_assign (ev_hit hN rfl) ?_
  refine reg_nil ?_
  refine hK679 _ _ ?_
  refine wp_ret ?_
  refine ret1 rfl hd (ev_hit hN rfl) ⟨_, rfl, ?_⟩
  -- path 8T
  exact ⟨congrArg Value.bool (by rw [← hzi680]; simp; omega), rfl⟩
 · -- 8F
  refine op_assign (ev_hit hN rfl) ?_
  refine reg_nil ?_
  refine hK679 _ _ ?_
  refine wp_ret ?_
  refine ret1 rfl hd (ev_hit hN rfl) ⟨_, rfl, ?_⟩
  -- path 8F
  exact ⟨congrArg Value.bool (by rw [← hzi680]; simp; omega), rfl⟩

theorem rinW_ret (l : Lb) (x : UInt16) (v : Value) (w : World) (hz : l.length ≤ 1000000000000) (hl : RdC w 0 w.heap.size 1 v l.length (l.map u16v)) : Ret Try.prog 44 #[v, (Value.int .u16 (x.toNat : Int))] w (fun v' w' => v' = .bool (inL x l) ∧ w' = w) := by
 have hb := Below.refl w.heap.size w
 refine enter (N := 18) Try.func44 rfl rfl (by simp) fun a0 hN hd hA => ?_
 have s0 : a0.tmps.getD 0 undef = v := hA 0 (by simp)
 have s1 : a0.tmps.getD 1 undef = (Value.int .u16 (x.toNat : Int)) := hA 1 (by simp)
 clear hA
 refine seq_any fun K681 hK681 => ?_
 refine one_reg ?_
 refine op_assign rfl ?_
 refine reg_nil ?_
 refine hK681 _ _ ?_
 refine seq_any fun K682 hK682 => ?_
 refine seq_any fun K683 hK683 => ?_
 refine one_reg ?_
 refine op_assign rfl ?_
 refine reg_nil ?_
 refine hK683 _ _ ?_
 refine wp_block ?_
 refine loop_m (fun mz_ az_ w' => ∃ (i : Nat), mz_ = l.length - i ∧ (az_.tmps.getD 0 undef = v) ∧ (az_.tmps.getD 1 undef = (Value.int .u16 (x.toNat : Int))) ∧ (az_.tmps.getD 5 undef = (Value.int .i64 ((i : Nat) : Int))) ∧ (i ≤ l.length) ∧ (∀ j9, j9 < i → l.getD j9 0 ≠ x) ∧ w = w') _ hN hd ⟨0, rfl, (sl_base hN rfl s0), (sl_base hN rfl s1), (sl_hit hN rfl).trans (congrArg (Value.int .i64) (by omega)), Nat.zero_le _, (fun j9 h9 => absurd h9 (Nat.not_lt_zero _)), rfl⟩ ?_
 rintro _ a684 _ hN684 hd684 ⟨i, rfl, s684_0, s684_1, s684_5, hi, hno, rfl⟩
 refine seq_any fun K685 hK685 => ?_
 refine seq_any fun K686 hK686 => ?_
 refine one_reg ?_
 refine op_move (ev_base hN684 rfl s684_5) ?_
 refine op_move (ev_base hN684 rfl s684_0) ?_
 refine op_len_rd Try.underlying22 (ev_hit hN684 rfl) hl ?_
 refine op_lss (ev_hit hN684 rfl) (ev_hit hN684 rfl) (fun c9 => ?_) (fun c9 => ?_)
 · -- 9T
  refine reg_nil ?_
  refine hK686 _ _ ?_
  refine wp_cond_true (ev_hit hN684 rfl) ?_
  refine wp_skip ?_
  refine hK685 _ _ ?_
  refine seq_any fun K687 hK687 => ?_
  refine wp_block ?_
  refine seq_any fun K688 hK688 => ?_
  refine one_reg ?_
  refine op_move (ev_base hN684 rfl s684_0) ?_
  refine op_move (ev_base hN684 rfl s684_5) ?_
  refine op_index_rd slt22 (ev_hit hN684 rfl) hl (ev_hit hN684 rfl) (by omega) (by omega) ?_
  intro b689 o690 h0b689 h1b689 hc691
  refine op_load1 (v := (Value.int .u16 ((l.getD i 0).toNat : Int))) one35 (ev_hit hN684 rfl) (by have := hc691 0 (Value.int .u16 ((l.getD i 0).toNat : Int)) (by decide) (el_u16 (i := i) (by omega) (by omega)); simpa using this) ?_
  refine op_move (ev_base hN684 rfl s684_1) ?_
  refine op_eql (ev_hit hN684 rfl) (ev_hit hN684 rfl) (fun c17 => ?_) (fun c17 => ?_)
  · -- 17T
   refine reg_nil ?_
   refine hK688 _ _ ?_
   refine wp_cond_true (ev_hit hN684 rfl) ?_
   refine seq_any fun K692 hK692 => ?_
   refine one_reg ?_
   refine op_assign rfl ?_
   refine reg_nil ?_
   refine hK692 _ _ ?_
   refine wp_ret (blk_ret (then_ret (then_ret (blk_ret (then_ret ( ?_))))))
   refine ret1 rfl hd684 (ev_hit hN684 rfl) ⟨_, rfl, ?_⟩
   -- path 9T 17T
   exact ⟨congrArg Value.bool (in_t (i := i) (by omega) (u16_eq c17)).symm, rfl⟩
  · -- 17F
   refine reg_nil ?_
   refine hK688 _ _ ?_
   refine wp_cond_false (ev_hit hN684 rfl) ?_
   refine wp_skip ?_
   refine hK687 _ _ ?_
   refine one_reg ?_
   refine op_move (ev_base hN684 rfl s684_5) ?_
   refine op_add (ev_hit hN684 rfl) rfl (add64 (by omega)) ?_
   refine op_assign (ev_hit hN684 rfl) ?_
   refine reg_nil ?_
   -- round 9T 17F
   exact loop_next _ hN684 hd684 ⟨i + 1, rfl, (sl_base hN684 rfl s684_0), (sl_base hN684 rfl s684_1), (sl_hit hN684 rfl).trans (congrArg (Value.int .i64) (by omega)), (by omega), (no_step hno (fun e9 => c17 (by rw [e9]))), rfl⟩ (by omega)
 · -- 9F
  refine reg_nil ?_
  refine hK686 _ _ ?_
  refine wp_cond_false (ev_hit hN684 rfl) ?_
  refine wp_exit (then_exit (then_exit (blk_hit ?_)))
  refine hK682 _ _ ?_
  refine seq_any fun K693 hK693 => ?_
  refine one_reg ?_
  refine op_assign rfl ?_
  refine reg_nil ?_
  refine hK693 _ _ ?_
  refine wp_ret ?_
  refine ret1 rfl hd684 (ev_hit hN684 rfl) ⟨_, rfl, ?_⟩
  -- path 9F
  exact ⟨congrArg Value.bool (in_f (i := i) (by omega) hno).symm, rfl⟩

theorem meet1W_ret (x : UInt16) (m : Lb) (u : Value) (bc : Nat) (w : World) (hzm : m.length ≤ 1000000000000) (hbc : Bx w bc 23 [u]) (hm : RdC w 0 w.heap.size 1 u m.length (m.map u16v)) : Ret Try.prog 50 #[(Value.int .u16 (x.toNat : Int)), (ptr bc 0)] w (fun v' w' => v' = .bool (inL x m) ∧ w' = w) := by
 have hb := Below.refl w.heap.size w
 refine enter (N := 7) Try.func50 rfl rfl (by simp) fun a0 hN hd hA => ?_
 have s0 : a0.tmps.getD 0 undef = (Value.int .u16 (x.toNat : Int)) := hA 0 (by simp)
 have s1 : a0.tmps.getD 1 undef = (ptr bc 0) := hA 1 (by simp)
 clear hA
 refine seq_any fun K694 hK694 => ?_
 refine one_reg ?_
 refine op_assign rfl ?_
 refine reg_nil ?_
 refine hK694 _ _ ?_
 refine seq_any fun K695 hK695 => ?_
 refine one_reg ?_
 refine op_load1 (v := u) one23 (ev_base hN rfl s1) (hbc.cell rfl) ?_
 refine op_move (ev_base hN rfl s0) ?_
 refine op_fn (vs := [u, (Value.int .u16 (x.toNat : Int))]) ok51 ⟨(ev_hit hN rfl), ⟨(ev_hit hN rfl), trivial⟩⟩ (Ret.flip (contW_ret m x _ _ (by omega) (show RdC w 0 w.heap.size 1 u m.length (m.map u16v) from by have hh : RdC w 0 w.heap.size 1 _ _ _ := (hm.mono (L' := 0) (B' := w.heap.size) (Nat.zero_le _) (by omega)); first | exact hh | exact hh.cast (by first | omega | (simp; try omega)) (by first | rfl | simp [u16v])))) ?_
 rintro _ _ ⟨rfl, rfl⟩
 refine op_assign (ev_hit hN rfl) ?_
 refine reg_nil ?_
 refine hK695 _ _ ?_
 refine wp_ret ?_
 refine ret1 rfl hd (ev_hit hN rfl) ⟨_, rfl, ?_⟩
 -- path
 exact ⟨rfl, rfl⟩

theorem minus1W_ret (x : UInt16) (m : Lb) (u : Value) (bc : Nat) (w : World) (hzm : m.length ≤ 1000000000000) (hbc : Bx w bc 23 [u]) (hm : RdC w 0 w.heap.size 1 u m.length (m.map u16v)) : Ret Try.prog 52 #[(Value.int .u16 (x.toNat : Int)), (ptr bc 0)] w (fun v' w' => v' = .bool (ninL x m) ∧ w' = w) := by
 have hb := Below.refl w.heap.size w
 refine enter (N := 8) Try.func52 rfl rfl (by simp) fun a0 hN hd hA => ?_
 have s0 : a0.tmps.getD 0 undef = (Value.int .u16 (x.toNat : Int)) := hA 0 (by simp)
 have s1 : a0.tmps.getD 1 undef = (ptr bc 0) := hA 1 (by simp)
 clear hA
 refine seq_any fun K696 hK696 => ?_
 refine one_reg ?_
 refine op_assign rfl ?_
 refine reg_nil ?_
 refine hK696 _ _ ?_
 refine seq_any fun K697 hK697 => ?_
 refine one_reg ?_
 refine op_load1 (v := u) one23 (ev_base hN rfl s1) (hbc.cell rfl) ?_
 refine op_move (ev_base hN rfl s0) ?_
 refine op_fn (vs := [u, (Value.int .u16 (x.toNat : Int))]) ok51 ⟨(ev_hit hN rfl), ⟨(ev_hit hN rfl), trivial⟩⟩ (Ret.flip (contW_ret m x _ _ (by omega) (show RdC w 0 w.heap.size 1 u m.length (m.map u16v) from by have hh : RdC w 0 w.heap.size 1 _ _ _ := (hm.mono (L' := 0) (B' := w.heap.size) (Nat.zero_le _) (by omega)); first | exact hh | exact hh.cast (by first | omega | (simp; try omega)) (by first | rfl | simp [u16v])))) ?_
 rintro _ _ ⟨rfl, rfl⟩
 refine op_not (ev_hit hN rfl) ?_
 refine op_assign (ev_hit hN rfl) ?_
 refine reg_nil ?_
 refine hK697 _ _ ?_
 refine wp_ret ?_
 refine ret1 rfl hd (ev_hit hN rfl) ⟨_, rfl, ?_⟩
 -- path
 exact ⟨rfl, rfl⟩

theorem those50_ret (l : Lb) (v : Value) (m : Lb) (u : Value) (bc : Nat) (w : World) (hz : l.length ≤ 1000000000000) (hl : RdC w 0 w.heap.size 1 v l.length (l.map u16v)) (hzm : m.length ≤ 1000000000000) (hbc : Bx w bc 23 [u]) (hm : RdC w 0 w.heap.size 1 u m.length (m.map u16v)) : Ret Try.prog 49 #[v, (Value.func (.func 50) #[] #[(ptr bc 0)])] w (fun v' w' => Below w.heap.size w w' ∧ Own w' w.heap.size 35 1 v' (l.filter (fun x => inL x m)).length ((l.filter (fun x => inL x m)).map u16v)) := by
 have hbc_lt := hbc.lt
 have hb := Below.refl w.heap.size w
 refine enter (N := 23) Try.func49 rfl rfl (by simp) fun a0 hN hd hA => ?_
 have s0 : a0.tmps.getD 0 undef = v := hA 0 (by simp)
 have s1 : a0.tmps.getD 1 undef = (Value.func (.func 50) #[] #[(ptr bc 0)]) := hA 1 (by simp)
 clear hA
 refine seq_any fun K698 hK698 => ?_
 refine one_reg ?_
 refine op_assign rfl ?_
 refine reg_nil ?_
 refine hK698 _ _ ?_
 refine seq_any fun K699 hK699 => ?_
 refine one_reg ?_
 refine op_assign rfl ?_
 refine reg_nil ?_
 refine hK699 _ _ ?_
 refine seq_any fun K700 hK700 => ?_
 refine seq_any fun K701 hK701 => ?_
 refine one_reg ?_
 refine op_move (ev_base hN rfl s0) ?_
 refine op_len_rd Try.underlying22 (ev_hit hN rfl) hl ?_
 refine op_move rfl ?_
 refine reg_nil ?_
 refine hK701 _ _ ?_
 refine wp_block ?_
 refine loop_m (fun mz_ az_ w' => ∃ (i : Nat) (r : Value), mz_ = l.length - i ∧ (az_.tmps.getD 1 undef = (Value.func (.func 50) #[] #[(ptr bc 0)])) ∧ (az_.tmps.getD 4 undef = (Value.slice none 0 0)) ∧ (az_.tmps.getD 8 undef = v) ∧ (az_.tmps.getD 9 undef = (Value.int .i64 ((l.length : Nat) : Int))) ∧ (az_.tmps.getD 10 undef = (Value.int .i64 ((i : Nat) : Int))) ∧ (az_.tmps.getD 5 undef = r) ∧ (i ≤ l.length) ∧ (((l.take i).filter (fun x => inL x m)).length ≤ i) ∧ (Below w.heap.size w w') ∧ (w.heap.size ≤ w'.heap.size) ∧ (RdC w' 0 w.heap.size 1 v l.length (l.map u16v)) ∧ (Bx w' bc 23 [u]) ∧ (RdC w' 0 w.heap.size 1 u m.length (m.map u16v)) ∧ (Own w' w.heap.size 35 1 r ((l.take i).filter (fun x => inL x m)).length (((l.take i).filter (fun x => inL x m)).map u16v))) _ hN hd ⟨0, _, rfl, (sl_base hN rfl s1), (sl_hit hN rfl), (sl_hit hN rfl), (sl_hit hN rfl), (sl_hit hN rfl), (sl_hit hN rfl), Nat.zero_le _, (by simp), hb, (Nat.le_refl _), hl, hbc, hm, (Own.nil _ _ _ _)⟩ ?_
 rintro _ a702 w702 hN702 hd702 ⟨i, r, rfl, s702_1, s702_4, s702_8, s702_9, s702_10, s702_5, hi, hfl, hb, zl_w702, hl, hbc, hm, hO703⟩
 have z_w702 := hb.size
 refine seq_any fun K704 hK704 => ?_
 refine one_reg ?_
 refine op_lss (ev_base hN702 rfl s702_10) (ev_base hN702 rfl s702_9) (fun c11 => ?_) (fun c11 => ?_)
 · -- 11T
  refine reg_nil ?_
  refine hK704 _ _ ?_
  refine seq_any fun K705 hK705 => ?_
  refine wp_cond_true (ev_hit hN702 rfl) ?_
  refine wp_skip ?_
  refine hK705 _ _ ?_
  refine seq_any fun K706 hK706 => ?_
  refine wp_block ?_
  refine seq_any fun K707 hK707 => ?_
  refine one_reg ?_
  refine op_index_rd slt22 (ev_base hN702 rfl s702_8) hl (ev_base hN702 rfl s702_10) (by omega) (by omega) ?_
  intro b708 o709 h0b708 h1b708 hc710
  refine op_load1 (v := (Value.int .u16 ((l.getD i 0).toNat : Int))) one35 (ev_hit hN702 rfl) (by have := hc710 0 (Value.int .u16 ((l.getD i 0).toNat : Int)) (by decide) (el_u16 (i := i) (by omega) (by omega)); simpa using this) ?_
  refine op_assign (ev_hit hN702 rfl) ?_
  refine reg_nil ?_
  refine hK707 _ _ ?_
  refine seq_any fun K711 hK711 => ?_
  refine one_reg ?_
  refine op_move (ev_base hN702 rfl s702_1) ?_
  refine op_move (ev_hit hN702 rfl) ?_
  refine op_fnv (fs := []) (vs := [(Value.int .u16 ((l.getD i 0).toNat : Int))]) (cs := [(ptr bc 0)]) (ev_hit hN702 rfl) ok50 ⟨(ev_hit hN702 rfl), trivial⟩ (Ret.flip (meet1W_ret (l.getD i 0) m _ _ _ (by omega) hbc (show RdC w702 0 w702.heap.size 1 u m.length (m.map u16v) from by have hh : RdC w702 0 w702.heap.size 1 _ _ _ := (hm.mono (L' := 0) (B' := w702.heap.size) (Nat.zero_le _) (by omega)); first | exact hh | exact hh.cast (by first | omega | (simp; try omega)) (by first | rfl | simp [u16v])))) ?_
  rintro _ _ ⟨rfl, rfl⟩
  rcases Bool.eq_false_or_eq_true ((inL (l.getD i 0) m)) with c16 | c16
  · -- 16T
   rw [c16]
   refine reg_nil ?_
   refine hK711 _ _ ?_
   refine wp_cond_true (ev_hit hN702 rfl) ?_
   refine one_reg ?_
   refine op_move (ev_base hN702 rfl s702_5) ?_
   refine op_move (ev_hit hN702 rfl) ?_
   refine op_bslice (e := 35) (pv := [(0, (Value.int .u16 ((l.getD i 0).toNat : Int)))]) (cs := [(Value.int .u16 ((l.getD i 0).toNat : Int))]) ⟨rfl, (ev_hit hN702 rfl), trivial⟩ (by kernel_rfl) ?_
   intro w712 b713 lo_b713 hi_b713 hB715 E714
   have ne_b713_r : r.ownBlock ≠ some b713 := fun hh => by have := (hO703.lt _ hh).2; omega
   have z_w712 := E714.size
   have hl := hl.keep0 E714
   have hbc := hbc.keep0 E714
   have hm := hm.keep0 E714
   have hO703 := hO703.keep0 E714
   have hb := below_step0 hb E714 hb.size
   have hP721 := hO703
   refine op_append slt22 (ev_hit hN702 rfl) hP721 (ev_hit hN702 rfl) (Src.ofRd Try.underlying22 (by decide) (RdC.ofBx (sz := 1) (n := 1) hB715 rfl (by decide)) (by simp [Value.oneCell', u8v])) (by unfold maxLen; omega) (by omega) hb.size ?_
   intro v716 w717 hO719 E718 hm720
   have z_w717 := E718.size
   have hl := hl.keepO hP721 E718 (by omega)
   have hbc := hbc.keepO hP721 E718 (by decide)
   have hm := hm.keepO hP721 E718 (by omega)
   have hB715 := hB715.keep E718 (fun hh => ne_b713_r hh.symm)
   have hb := below_stepO hb hP721 E718 hb.size (by omega)
   have hO719 : Own w717 w.heap.size 35 1 v716 (((l.take i).filter (fun x => inL x m)).length + 1) (((((l.take i).filter (fun x => inL x m)) ++ [(l.getD i 0)])).map u16v) := by simpa [u8v, u16v, cellsV] using hO719
   have ne_b713_v716 : v716.ownBlock ≠ some b713 := ne_step (w1 := w712) ⟨E718, hm720⟩ (by omega) ne_b713_r
   refine op_assign (ev_hit hN702 rfl) ?_
   refine reg_nil ?_
   refine hK706 _ _ ?_
   refine one_reg ?_
   refine op_add (ev_base hN702 rfl s702_10) rfl (add64 (by omega)) ?_
   refine op_move (ev_hit hN702 rfl) ?_
   refine reg_nil ?_
   -- round 11T 16T
   exact loop_next _ hN702 hd702 ⟨i + 1, _, rfl, (sl_base hN702 rfl s702_1), (sl_base hN702 rfl s702_4), (sl_base hN702 rfl s702_8), (sl_base hN702 rfl s702_9), (sl_hit hN702 rfl).trans (congrArg (Value.int .i64) (by omega)), (sl_hit hN702 rfl), (by omega), (by first | exact filter_le), hb, (by omega), hl, hbc, hm, (hO719.cast (by rw [filter_t (by omega) c16]; try simp) (by rw [filter_t (by omega) c16]; try simp [u16v]))⟩ (by omega)
  · -- 16F
   rw [c16]
   refine reg_nil ?_
   refine hK711 _ _ ?_
   refine wp_cond_false (ev_hit hN702 rfl) ?_
   refine wp_skip ?_
   refine hK706 _ _ ?_
   refine one_reg ?_
   refine op_add (ev_base hN702 rfl s702_10) rfl (add64 (by omega)) ?_
   refine op_move (ev_hit hN702 rfl) ?_
   refine reg_nil ?_
   -- round 11T 16F
   exact loop_next _ hN702 hd702 ⟨i + 1, _, rfl, (sl_base hN702 rfl s702_1), (sl_base hN702 rfl s702_4), (sl_base hN702 rfl s702_8), (sl_base hN702 rfl s702_9), (sl_hit hN702 rfl).trans (congrArg (Value.int .i64) (by omega)), (sl_base hN702 rfl s702_5), (by omega), (by first | exact filter_le), hb, (by omega), hl, hbc, hm, (hO703.cast (by rw [filter_f (by omega) c16]) (by rw [filter_f (by omega) c16]))⟩ (by omega)
 · -- 11F
  refine reg_nil ?_
  refine hK704 _ _ ?_
  refine seq_any fun K722 hK722 => ?_
  refine wp_cond_false (ev_hit hN702 rfl) ?_
  refine wp_exit (then_exit (then_exit (blk_hit ?_)))
  refine hK700 _ _ ?_
  refine seq_any fun K723 hK723 => ?_
  refine one_reg ?_
  refine op_move (ev_base hN702 rfl s702_5) ?_
  refine op_assign (ev_hit hN702 rfl) ?_
  refine reg_nil ?_
  refine hK723 _ _ ?_
  refine wp_ret ?_
  refine ret1 rfl hd702 (ev_hit hN702 rfl) ⟨_, rfl, ?_⟩
  -- path 11F
  rw [take_all l (by omega)] at hO703
  exact ⟨hb, hO703⟩

theorem those52_ret (l : Lb) (v : Value) (m : Lb) (u : Value) (bc : Nat) (w : World) (hz : l.length ≤ 1000000000000) (hl : RdC w 0 w.heap.size 1 v l.length (l.map u16v)) (hzm : m.length ≤ 1000000000000) (hbc : Bx w bc 23 [u]) (hm : RdC w 0 w.heap.size 1 u m.length (m.map u16v)) : Ret Try.prog 49 #[v, (Value.func (.func 52) #[] #[(ptr bc 0)])] w (fun v' w' => Below w.heap.size w w' ∧ Own w' w.heap.size 35 1 v' (l.filter (fun x => ninL x m)).length ((l.filter (fun x => ninL x m)).map u16v)) := by
 have hbc_lt := hbc.lt
 have hb := Below.refl w.heap.size w
 refine enter (N := 23) Try.func49 rfl rfl (by simp) fun a0 hN hd hA => ?_
 have s0 : a0.tmps.getD 0 undef = v := hA 0 (by simp)
 have s1 : a0.tmps.getD 1 undef = (Value.func (.func 52) #[] #[(ptr bc 0)]) := hA 1 (by simp)
 clear hA
 refine seq_any fun K724 hK724 => ?_
 refine one_reg ?_
 refine op_assign rfl ?_
 refine reg_nil ?_
 refine hK724 _ _ ?_
 refine seq_any fun K725 hK725 => ?_
 refine one_reg ?_
 refine op_assign rfl ?_
 refine reg_nil ?_
 refine hK725 _ _ ?_
 refine seq_any fun K726 hK726 => ?_
 refine seq_any fun K727 hK727 => ?_
 refine one_reg ?_
 refine op_move (ev_base hN rfl s0) ?_
 refine op_len_rd Try.underlying22 (ev_hit hN rfl) hl ?_
 refine op_move rfl ?_
 refine reg_nil ?_
 refine hK727 _ _ ?_
 refine wp_block ?_
 refine loop_m (fun mz_ az_ w' => ∃ (i : Nat) (r : Value), mz_ = l.length - i ∧ (az_.tmps.getD 1 undef = (Value.func (.func 52) #[] #[(ptr bc 0)])) ∧ (az_.tmps.getD 4 undef = (Value.slice none 0 0)) ∧ (az_.tmps.getD 8 undef = v) ∧ (az_.tmps.getD 9 undef = (Value.int .i64 ((l.length : Nat) : Int))) ∧ (az_.tmps.getD 10 undef = (Value.int .i64 ((i : Nat) : Int))) ∧ (az_.tmps.getD 5 undef = r) ∧ (i ≤ l.length) ∧ (((l.take i).filter (fun x => ninL x m)).length ≤ i) ∧ (Below w.heap.size w w') ∧ (w.heap.size ≤ w'.heap.size) ∧ (RdC w' 0 w.heap.size 1 v l.length (l.map u16v)) ∧ (Bx w' bc 23 [u]) ∧ (RdC w' 0 w.heap.size 1 u m.length (m.map u16v)) ∧ (Own w' w.heap.size 35 1 r ((l.take i).filter (fun x => ninL x m)).length (((l.take i).filter (fun x => ninL x m)).map u16v))) _ hN hd ⟨0, _, rfl, (sl_base hN rfl s1), (sl_hit hN rfl), (sl_hit hN rfl), (sl_hit hN rfl), (sl_hit hN rfl), (sl_hit hN rfl), Nat.zero_le _, (by simp), hb, (Nat.le_refl _), hl, hbc, hm, (Own.nil _ _ _ _)⟩ ?_
 rintro _ a728 w728 hN728 hd728 ⟨i, r, rfl, s728_1, s728_4, s728_8, s728_9, s728_10, s728_5, hi, hfl, hb, zl_w728, hl, hbc, hm, hO729⟩
 have z_w728 := hb.size
 refine seq_any fun K730 hK730 => ?_
 refine one_reg ?_
 refine op_lss (ev_base hN728 rfl s728_10) (ev_base hN728 rfl s728_9) (fun c11 => ?_) (fun c11 => ?_)
 · -- 11T
  refine reg_nil ?_
  refine hK730 _ _ ?_
  refine seq_any fun K731 hK731 => ?_
  refine wp_cond_true (ev_hit hN728 rfl) ?_
  refine wp_skip ?_
  refine hK731 _ _ ?_
  refine seq_any fun K732 hK732 => ?_
  refine wp_block ?_
  refine seq_any fun K733 hK733 => ?_
  refine one_reg ?_
  refine op_index_rd slt22 (ev_base hN728 rfl s728_8) hl (ev_base hN728 rfl s728_10) (by omega) (by omega) ?_
  intro b734 o735 h0b734 h1b734 hc736
  refine op_load1 (v := (Value.int .u16 ((l.getD i 0).toNat : Int))) one35 (ev_hit hN728 rfl) (by have := hc736 0 (Value.int .u16 ((l.getD i 0).toNat : Int)) (by decide) (el_u16 (i := i) (by omega) (by omega)); simpa using this) ?_
  refine op_assign (ev_hit hN728 rfl) ?_
  refine reg_nil ?_
  refine hK733 _ _ ?_
  refine seq_any fun K737 hK737 => ?_
  refine one_reg ?_
  refine op_move (ev_base hN728 rfl s728_1) ?_
  refine op_move (ev_hit hN728 rfl) ?_
  refine op_fnv (fs := []) (vs := [(Value.int .u16 ((l.getD i 0).toNat : Int))]) (cs := [(ptr bc 0)]) (ev_hit hN728 rfl) ok52 ⟨(ev_hit hN728 rfl), trivial⟩ (Ret.flip (minus1W_ret (l.getD i 0) m _ _ _ (by omega) hbc (show RdC w728 0 w728.heap.size 1 u m.length (m.map u16v) from by have hh : RdC w728 0 w728.heap.size 1 _ _ _ := (hm.mono (L' := 0) (B' := w728.heap.size) (Nat.zero_le _) (by omega)); first | exact hh | exact hh.cast (by first | omega | (simp; try omega)) (by first | rfl | simp [u16v])))) ?_
  rintro _ _ ⟨rfl, rfl⟩
  rcases Bool.eq_false_or_eq_true ((ninL (l.getD i 0) m)) with c16 | c16
  · -- 16T
   rw [c16]
   refine reg_nil ?_
   refine hK737 _ _ ?_
   refine wp_cond_true (ev_hit hN728 rfl) ?_
   refine one_reg ?_
   refine op_move (ev_base hN728 rfl s728_5) ?_
   refine op_move (ev_hit hN728 rfl) ?_
   refine op_bslice (e := 35) (pv := [(0, (Value.int .u16 ((l.getD i 0).toNat : Int)))]) (cs := [(Value.int .u16 ((l.getD i 0).toNat : Int))]) ⟨rfl, (ev_hit hN728 rfl), trivial⟩ (by kernel_rfl) ?_
   intro w738 b739 lo_b739 hi_b739 hB741 E740
   have ne_b739_r : r.ownBlock ≠ some b739 := fun hh => by have := (hO729.lt _ hh).2; omega
   have z_w738 := E740.size
   have hl := hl.keep0 E740
   have hbc := hbc.keep0 E740
   have hm := hm.keep0 E740
   have hO729 := hO729.keep0 E740
   have hb := below_step0 hb E740 hb.size
   have hP747 := hO729
   refine op_append slt22 (ev_hit hN728 rfl) hP747 (ev_hit hN728 rfl) (Src.ofRd Try.underlying22 (by decide) (RdC.ofBx (sz := 1) (n := 1) hB741 rfl (by decide)) (by simp [Value.oneCell', u8v])) (by unfold maxLen; omega) (by omega) hb.size ?_
   intro v742 w743 hO745 E744 hm746
   have z_w743 := E744.size
   have hl := hl.keepO hP747 E744 (by omega)
   have hbc := hbc.keepO hP747 E744 (by decide)
   have hm := hm.keepO hP747 E744 (by omega)
   have hB741 := hB741.keep E744 (fun hh => ne_b739_r hh.symm)
   have hb := below_stepO hb hP747 E744 hb.size (by omega)
   have hO745 : Own w743 w.heap.size 35 1 v742 (((l.take i).filter (fun x => ninL x m)).length + 1) (((((l.take i).filter (fun x => ninL x m)) ++ [(l.getD i 0)])).map u16v) := by simpa [u8v, u16v, cellsV] using hO745
   have ne_b739_v742 : v742.ownBlock ≠ some b739 := ne_step (w1 := w738) ⟨E744, hm746⟩ (by omega) ne_b739_r
   refine op_assign (ev_hit hN728 rfl) ?_
   refine reg_nil ?_
   refine hK732 _ _ ?_
   refine one_reg ?_
   refine op_add (ev_base hN728 rfl s728_10) rfl (add64 (by omega)) ?_
   refine op_move (ev_hit hN728 rfl) ?_
   refine reg_nil ?_
   -- round 11T 16T
   exact loop_next _ hN728 hd728 ⟨i + 1, _, rfl, (sl_base hN728 rfl s728_1), (sl_base hN728 rfl s728_4), (sl_base hN728 rfl s728_8), (sl_base hN728 rfl s728_9), (sl_hit hN728 rfl).trans (congrArg (Value.int .i64) (by omega)), (sl_hit hN728 rfl), (by omega), (by first | exact filter_le), hb, (by omega), hl, hbc, hm, (hO745.cast (by rw [filter_t (by omega) c16]; try simp) (by rw [filter_t (by omega) c16]; try simp [u16v]))⟩ (by omega)
  · -- 16F
   rw [c16]
   refine reg_nil ?_
   refine hK737 _ _ ?_
   refine wp_cond_false (ev_hit hN728 rfl) ?_
   refine wp_skip ?_
   refine hK732 _ _ ?_
   refine one_reg ?_
   refine op_add (ev_base hN728 rfl s728_10) rfl (add64 (by omega)) ?_
   refine op_move (ev_hit hN728 rfl) ?_
   refine reg_nil ?_
   -- round 11T 16F
   exact loop_next _ hN728 hd728 ⟨i + 1, _, rfl, (sl_base hN728 rfl s728_1), (sl_base hN728 rfl s728_4), (sl_base hN728 rfl s728_8), (sl_base hN728 rfl s728_9), (sl_hit hN728 rfl).trans (congrArg (Value.int .i64) (by omega)), (sl_base hN728 rfl s728_5), (by omega), (by first | exact filter_le), hb, (by omega), hl, hbc, hm, (hO729.cast (by rw [filter_f (by omega) c16]) (by rw [filter_f (by omega) c16]))⟩ (by omega)
 · -- 11F
  refine reg_nil ?_
  refine hK730 _ _ ?_
  refine seq_any fun K748 hK748 => ?_
  refine wp_cond_false (ev_hit hN728 rfl) ?_
  refine wp_exit (then_exit (then_exit (blk_hit ?_)))
  refine hK726 _ _ ?_
  refine seq_any fun K749 hK749 => ?_
  refine one_reg ?_
  refine op_move (ev_base hN728 rfl s728_5) ?_
  refine op_assign (ev_hit hN728 rfl) ?_
  refine reg_nil ?_
  refine hK749 _ _ ?_
  refine wp_ret ?_
  refine ret1 rfl hd728 (ev_hit hN728 rfl) ⟨_, rfl, ?_⟩
  -- path 11F
  rw [take_all l (by omega)] at hO729
  exact ⟨hb, hO729⟩

theorem minusW_ret (l m : Lb) (v u : Value) (w : World) (hz : l.length ≤ 1000000000000) (hzm : m.length ≤ 1000000000000) (hl : RdC w 0 w.heap.size 1 v l.length (l.map u16v)) (hm : RdC w 0 w.heap.size 1 u m.length (m.map u16v)) : Ret Try.prog 30 #[v, u] w (fun v' w' => Below w.heap.size w w' ∧ Own w' w.heap.size 35 1 v' (minusL l m).length ((minusL l m).map u16v)) := by
 have hb := Below.refl w.heap.size w
 refine enter (N := 8) Try.func30 rfl rfl (by simp) fun a0 hN hd hA => ?_
 have s0 : a0.tmps.getD 0 undef = v := hA 0 (by simp)
 have s1 : a0.tmps.getD 1 undef = u := hA 1 (by simp)
 clear hA
 refine seq_any fun K750 hK750 => ?_
 refine one_reg ?_
 refine op_box (cs := [u]) (ev_base hN rfl s1) (RdC.cells hm) ?_
 intro w751 b752 lo_b752 hi_b752 hB754 E753
 have z_w751 := E753.size
 have hl := hl.keep0 E753
 have hm := hm.keep0 E753
 have hb := below_step0 hb E753 hb.size
 refine op_assign rfl ?_
 refine reg_nil ?_
 refine hK750 _ _ ?_
 refine seq_any fun K755 hK755 => ?_
 refine one_reg ?_
 refine op_move (ev_base hN rfl s0) ?_
 refine op_mkfn (cv := [(ptr b752 0)]) ⟨(ev_hit hN rfl), trivial⟩ ?_
 refine op_fn (vs := [v, (Value.func (.func 52) #[] #[(ptr b752 0)])]) ok49 ⟨(ev_hit hN rfl), ⟨(ev_hit hN rfl), trivial⟩⟩ (those52_ret l _ m _ _ _ (by omega) (show RdC w751 0 w751.heap.size 1 v l.length (l.map u16v) from by have hh : RdC w751 0 w751.heap.size 1 _ _ _ := (hl.mono (L' := 0) (B' := w751.heap.size) (Nat.zero_le _) (by omega)); first | exact hh | exact hh.cast (by first | omega | (simp; try omega)) (by first | rfl | simp [u16v])) (by omega) hB754 (show RdC w751 0 w751.heap.size 1 u m.length (m.map u16v) from by have hh : RdC w751 0 w751.heap.size 1 _ _ _ := (hm.mono (L' := 0) (B' := w751.heap.size) (Nat.zero_le _) (by omega)); first | exact hh | exact hh.cast (by first | omega | (simp; try omega)) (by first | rfl | simp [u16v]))) ?_
 rintro v756 w757 ⟨E758, hO756⟩
 have E758 := grown_of_below E758
 have z_w757 := E758.size
 have hl := hl.keep0 E758
 have hm := hm.keep0 E758
 have hB754 := hB754.keep0 E758
 have hb := below_step0 hb E758 hb.size
 have hO756 := hO756.mono (base' := w.heap.size) (by omega)
 refine op_assign (ev_hit hN rfl) ?_
 refine reg_nil ?_
 refine hK755 _ _ ?_
 refine wp_ret ?_
 refine ret1 rfl hd (ev_hit hN rfl) ⟨_, rfl, ?_⟩
 -- path
 exact ⟨hb, hO756⟩

theorem meetW_ret (l m : Lb) (v u : Value) (w : World) (hz : l.length ≤ 1000000000000) (hzm : m.length ≤ 1000000000000) (hl : RdC w 0 w.heap.size 1 v l.length (l.map u16v)) (hm : RdC w 0 w.heap.size 1 u m.length (m.map u16v)) : Ret Try.prog 29 #[v, u] w (fun v' w' => Below w.heap.size w w' ∧ Own w' w.heap.size 35 1 v' (meetL l m).length ((meetL l m).map u16v)) := by
 have hb := Below.refl w.heap.size w
 refine enter (N := 8) Try.func29 rfl rfl (by simp) fun a0 hN hd hA => ?_
 have s0 : a0.tmps.getD 0 undef = v := hA 0 (by simp)
 have s1 : a0.tmps.getD 1 undef = u := hA 1 (by simp)
 clear hA
 refine seq_any fun K759 hK759 => ?_
 refine one_reg ?_
 refine op_box (cs := [u]) (ev_base hN rfl s1) (RdC.cells hm) ?_
 intro w760 b761 lo_b761 hi_b761 hB763 E762
 have z_w760 := E762.size
 have hl := hl.keep0 E762
 have hm := hm.keep0 E762
 have hb := below_step0 hb E762 hb.size
 refine op_assign rfl ?_
 refine reg_nil ?_
 refine hK759 _ _ ?_
 refine seq_any fun K764 hK764 => ?_
 refine one_reg ?_
 refine op_move (ev_base hN rfl s0) ?_
 refine op_mkfn (cv := [(ptr b761 0)]) ⟨(ev_hit hN rfl), trivial⟩ ?_
 refine op_fn (vs := [v, (Value.func (.func 50) #[] #[(ptr b761 0)])]) ok49 ⟨(ev_hit hN rfl), ⟨(ev_hit hN rfl), trivial⟩⟩ (those50_ret l _ m _ _ _ (by omega) (show RdC w760 0 w760.heap.size 1 v l.length (l.map u16v) from by have hh : RdC w760 0 w760.heap.size 1 _ _ _ := (hl.mono (L' := 0) (B' := w760.heap.size) (Nat.zero_le _) (by omega)); first | exact hh | exact hh.cast (by first | omega | (simp; try omega)) (by first | rfl | simp [u16v])) (by omega) hB763 (show RdC w760 0 w760.heap.size 1 u m.length (m.map u16v) from by have hh : RdC w760 0 w760.heap.size 1 _ _ _ := (hm.mono (L' := 0) (B' := w760.heap.size) (Nat.zero_le _) (by omega)); first | exact hh | exact hh.cast (by first | omega | (simp; try omega)) (by first | rfl | simp [u16v]))) ?_
 rintro v765 w766 ⟨E767, hO765⟩
 have E767 := grown_of_below E767
 have z_w766 := E767.size
 have hl := hl.keep0 E767
 have hm := hm.keep0 E767
 have hB763 := hB763.keep0 E767
 have hb := below_step0 hb E767 hb.size
 have hO765 := hO765.mono (base' := w.heap.size) (by omega)
 refine op_assign (ev_hit hN rfl) ?_
 refine reg_nil ?_
 refine hK764 _ _ ?_
 refine wp_ret ?_
 refine ret1 rfl hd (ev_hit hN rfl) ⟨_, rfl, ?_⟩
 -- path
 exact ⟨hb, hO765⟩

theorem flowsW_ret (l m : Lb) (v u : Value) (w : World) (hz : l.length ≤ 1000000000000) (hzm : m.length ≤ 1000000000000) (hl : RdC w 0 w.heap.size 1 v l.length (l.map u16v)) (hm : RdC w 0 w.heap.size 1 u m.length (m.map u16v)) : Ret Try.prog 27 #[v, u] w (fun v' w' => Below w.heap.size w w' ∧ v' = .bool (flowsL l m)) := by
 have hb := Below.refl w.heap.size w
 refine enter (N := 10) Try.func27 rfl rfl (by simp) fun a0 hN hd hA => ?_
 have s0 : a0.tmps.getD 0 undef = v := hA 0 (by simp)
 have s1 : a0.tmps.getD 1 undef = u := hA 1 (by simp)
 clear hA
 refine seq_any fun K768 hK768 => ?_
 refine one_reg ?_
 refine op_assign rfl ?_
 refine reg_nil ?_
 refine hK768 _ _ ?_
 refine seq_any fun K769 hK769 => ?_
 refine one_reg ?_
 refine op_move (ev_base hN rfl s0) ?_
 refine op_move (ev_base hN rfl s1) ?_
 refine op_fn (vs := [v, u]) ok30 ⟨(ev_hit hN rfl), ⟨(ev_hit hN rfl), trivial⟩⟩ (minusW_ret l m _ _ _ (by first | assumption | omega | (simp only [List.length_append, List.length_cons, List.length_nil, List.length_drop, List.length_take]; omega) | (dsimp only; omega) | decide | (simp [keyV, be8_len]; done)) (by first | assumption | omega | (simp only [List.length_append, List.length_cons, List.length_nil, List.length_drop, List.length_take]; omega) | (dsimp only; omega) | decide | (simp [keyV, be8_len]; done)) (show RdC w 0 w.heap.size 1 v l.length (l.map u16v) from by have hh : RdC w 0 w.heap.size 1 _ _ _ := (hl.mono (L' := 0) (B' := w.heap.size) (Nat.zero_le _) (by omega)); first | exact hh | exact hh.cast (by first | omega | (simp; try omega)) (by first | rfl | simp [u16v])) (show RdC w 0 w.heap.size 1 u m.length (m.map u16v) from by have hh : RdC w 0 w.heap.size 1 _ _ _ := (hm.mono (L' := 0) (B' := w.heap.size) (Nat.zero_le _) (by omega)); first | exact hh | exact hh.cast (by first | omega | (simp; try omega)) (by first | rfl | simp [u16v]))) ?_
 rintro v770 w771 ⟨E772, hO770⟩
 have E772 := grown_of_below E772
 have z_w771 := E772.size
 have hl := hl.keep0 E772
 have hm := hm.keep0 E772
 have hb := below_step0 hb E772 hb.size
 have hO770 := hO770.mono (base' := w.heap.size) (by omega)
 refine op_len_rd Try.underlying23 (ev_hit hN rfl) hO770.rdw ?_
 refine op_eql (ev_hit hN rfl) rfl (fun c9 => ?_) (fun c9 => ?_)
 · -- 9T
  refine op_assign (ev_hit hN rfl) ?_
  refine reg_nil ?_
  refine hK769 _ _ ?_
  refine wp_ret ?_
  refine ret1 rfl hd (ev_hit hN rfl) ⟨_, rfl, ?_⟩
  -- path 9T
  exact ⟨hb, congrArg Value.bool (by rw [flows_minus]; symm; first | exact decide_eq_true (by omega) | exact decide_eq_false (by omega))⟩
 · -- 9F
  refine op_assign (ev_hit hN rfl) ?_
  refine reg_nil ?_
  refine hK769 _ _ ?_
  refine wp_ret ?_
  refine ret1 rfl hd (ev_hit hN rfl) ⟨_, rfl, ?_⟩
  -- path 9F
  exact ⟨hb, congrArg Value.bool (by rw [flows_minus]; symm; first | exact decide_eq_true (by omega) | exact decide_eq_false (by omega))⟩

end Go.Proofs.Ytpmnljffdofkeaa

/- Walks, written by a program: what each function of the translation hands back. -/
namespace Go.Proofs.Ytpmnljffdofkeaa
open Go.Gx Go.RowKit
attribute [local irreducible] wpList wpStill Code.wp Calls
open Go.Sort (bitsLen)
theorem rminusW_ret (l m : Lb) (v u : Value) (w : World) (hz : l.length ≤ 1000000000000) (hzm : m.length ≤ 1000000000000) (hl : RdC w 0 w.heap.size 1 v l.length (l.map u16v)) (hm : RdC w 0 w.heap.size 1 u m.length (m.map u16v)) : Ret Try.prog 18 #[v, u] w (fun v' w' => Below w.heap.size w w' ∧ Own w' w.heap.size 35 1 v' (minusL l m).length ((minusL l m).map u16v)) := by
 have hb := Below.refl w.heap.size w
 refine enter (N := 28) Try.func18 rfl rfl (by simp) fun a0 hN hd hA => ?_
 have s0 : a0.tmps.getD 0 undef = v := hA 0 (by simp)
 have s1 : a0.tmps.getD 1 undef = u := hA 1 (by simp)
 clear hA
 refine seq_any fun K773 hK773 => ?_
 refine one_reg ?_
 refine op_assign rfl ?_
 refine reg_nil ?_
 refine hK773 _ _ ?_
 refine seq_any fun K774 hK774 => ?_
 refine one_reg ?_
 refine op_assign rfl ?_
 refine reg_nil ?_
 refine hK774 _ _ ?_
 refine seq_any fun K775 hK775 => ?_
 refine seq_any fun K776 hK776 => ?_
 refine one_reg ?_
 refine op_assign rfl ?_
 refine reg_nil ?_
 refine hK776 _ _ ?_
 refine wp_block ?_
 refine loop_m (fun mz_ az_ w' => ∃ (i : Nat) (r : Value), mz_ = l.length - i ∧ (az_.tmps.getD 0 undef = v) ∧ (az_.tmps.getD 1 undef = u) ∧ (az_.tmps.getD 4 undef = (Value.slice none 0 0)) ∧ (az_.tmps.getD 6 undef = (Value.int .i64 ((i : Nat) : Int))) ∧ (az_.tmps.getD 5 undef = r) ∧ (i ≤ l.length) ∧ (((l.take i).filter (fun x => ninL x m)).length ≤ i) ∧ (Below w.heap.size w w') ∧ (w.heap.size ≤ w'.heap.size) ∧ (RdC w' 0 w.heap.size 1 v l.length (l.map u16v)) ∧ (RdC w' 0 w.heap.size 1 u m.length (m.map u16v)) ∧ (Own w' w.heap.size 35 1 r ((l.take i).filter (fun x => ninL x m)).length (((l.take i).filter (fun x => ninL x m)).map u16v))) _ hN hd ⟨0, _, rfl, (sl_base hN rfl s0), (sl_base hN rfl s1), (sl_hit hN rfl), (sl_hit hN rfl).trans (congrArg (Value.int .i64) (by omega)), (sl_hit hN rfl), Nat.zero_le _, (by simp), hb, (Nat.le_refl _), hl, hm, (Own.nil _ _ _ _)⟩ ?_
 rintro _ a777 w777 hN777 hd777 ⟨i, r, rfl, s777_0, s777_1, s777_4, s777_6, s777_5, hi, hfl, hb, zl_w777, hl, hm, hO778⟩
 have z_w777 := hb.size
 refine seq_any fun K779 hK779 => ?_
 refine seq_any fun K780 hK780 => ?_
 refine one_reg ?_
 refine op_move (ev_base hN777 rfl s777_6) ?_
 refine op_move (ev_base hN777 rfl s777_0) ?_
 refine op_len_rd Try.underlying23 (ev_hit hN777 rfl) hl ?_
 refine op_lss (ev_hit hN777 rfl) (ev_hit hN777 rfl) (fun c10 => ?_) (fun c10 => ?_)
 · -- 10T
  refine reg_nil ?_
  refine hK780 _ _ ?_
  refine wp_cond_true (ev_hit hN777 rfl) ?_
  refine wp_skip ?_
  refine hK779 _ _ ?_
  refine seq_any fun K781 hK781 => ?_
  refine wp_block ?_
  refine seq_any fun K782 hK782 => ?_
  refine one_reg ?_
  refine op_move (ev_base hN777 rfl s777_1) ?_
  refine op_move (ev_base hN777 rfl s777_0) ?_
  refine op_move (ev_base hN777 rfl s777_6) ?_
  refine op_index_rd slt23 (ev_hit hN777 rfl) hl (ev_hit hN777 rfl) (by omega) (by omega) ?_
  intro b783 o784 h0b783 h1b783 hc785
  refine op_load1 (v := (Value.int .u16 ((l.getD i 0).toNat : Int))) one35 (ev_hit hN777 rfl) (by have := hc785 0 (Value.int .u16 ((l.getD i 0).toNat : Int)) (by decide) (el_u16 (i := i) (by omega) (by omega)); simpa using this) ?_
  refine op_fn (vs := [u, (Value.int .u16 ((l.getD i 0).toNat : Int))]) ok44 ⟨(ev_hit hN777 rfl), ⟨(ev_hit hN777 rfl), trivial⟩⟩ (Ret.flip (rinW_ret m (l.getD i 0) _ _ (by omega) (show RdC w777 0 w777.heap.size 1 u m.length (m.map u16v) from by have hh : RdC w777 0 w777.heap.size 1 _ _ _ := (hm.mono (L' := 0) (B' := w777.heap.size) (Nat.zero_le _) (by omega)); first | exact hh | exact hh.cast (by first | omega | (simp; try omega)) (by first | rfl | simp [u16v])))) ?_
  rintro _ _ ⟨rfl, rfl⟩
  rcases Bool.eq_false_or_eq_true ((inL (l.getD i 0) m)) with c18 | c18
  · -- 18T
   rw [c18]
   refine op_not (ev_hit hN777 rfl) ?_
   refine reg_nil ?_
   refine hK782 _ _ ?_
   refine wp_cond_false (ev_hit hN777 rfl) ?_
   refine wp_skip ?_
   refine hK781 _ _ ?_
   refine one_reg ?_
   refine op_move (ev_base hN777 rfl s777_6) ?_
   refine op_add (ev_hit hN777 rfl) rfl (add64 (by omega)) ?_
   refine op_assign (ev_hit hN777 rfl) ?_
   refine reg_nil ?_
   -- round 10T 18T
   exact loop_next _ hN777 hd777 ⟨i + 1, _, rfl, (sl_base hN777 rfl s777_0), (sl_base hN777 rfl s777_1), (sl_base hN777 rfl s777_4), (sl_hit hN777 rfl).trans (congrArg (Value.int .i64) (by omega)), (sl_base hN777 rfl s777_5), (by omega), (by first | exact filter_le), hb, (by omega), hl, hm, (hO778.cast (by rw [filter_f (by omega) (nin_f c18)]) (by rw [filter_f (by omega) (nin_f c18)]))⟩ (by omega)
  · -- 18F
   rw [c18]
   refine op_not (ev_hit hN777 rfl) ?_
   refine reg_nil ?_
   refine hK782 _ _ ?_
   refine wp_cond_true (ev_hit hN777 rfl) ?_
   refine one_reg ?_
   refine op_move (ev_base hN777 rfl s777_5) ?_
   refine op_move (ev_base hN777 rfl s777_0) ?_
   refine op_move (ev_base hN777 rfl s777_6) ?_
   refine op_index_rd slt23 (ev_hit hN777 rfl) hl (ev_hit hN777 rfl) (by omega) (by omega) ?_
   intro b786 o787 h0b786 h1b786 hc788
   refine op_load1 (v := (Value.int .u16 ((l.getD i 0).toNat : Int))) one35 (ev_hit hN777 rfl) (by have := hc788 0 (Value.int .u16 ((l.getD i 0).toNat : Int)) (by decide) (el_u16 (i := i) (by omega) (by omega)); simpa using this) ?_
   refine op_bslice (e := 35) (pv := [(0, (Value.int .u16 ((l.getD i 0).toNat : Int)))]) (cs := [(Value.int .u16 ((l.getD i 0).toNat : Int))]) ⟨rfl, (ev_hit hN777 rfl), trivial⟩ (by kernel_rfl) ?_
   intro w789 b790 lo_b790 hi_b790 hB792 E791
   have ne_b790_r : r.ownBlock ≠ some b790 := fun hh => by have := (hO778.lt _ hh).2; omega
   have z_w789 := E791.size
   have hl := hl.keep0 E791
   have hm := hm.keep0 E791
   have hO778 := hO778.keep0 E791
   have hb := below_step0 hb E791 hb.size
   have hP798 := hO778
   refine op_append slt23 (ev_hit hN777 rfl) hP798 (ev_hit hN777 rfl) (Src.ofRd Try.underlying23 (by decide) (RdC.ofBx (sz := 1) (n := 1) hB792 rfl (by decide)) (by simp [Value.oneCell', u8v])) (by unfold maxLen; omega) (by omega) hb.size ?_
   intro v793 w794 hO796 E795 hm797
   have z_w794 := E795.size
   have hl := hl.keepO hP798 E795 (by omega)
   have hm := hm.keepO hP798 E795 (by omega)
   have hB792 := hB792.keep E795 (fun hh => ne_b790_r hh.symm)
   have hb := below_stepO hb hP798 E795 hb.size (by omega)
   have hO796 : Own w794 w.heap.size 35 1 v793 (((l.take i).filter (fun x => ninL x m)).length + 1) (((((l.take i).filter (fun x => ninL x m)) ++ [(l.getD i 0)])).map u16v) := by simpa [u8v, u16v, cellsV] using hO796
   have ne_b790_v793 : v793.ownBlock ≠ some b790 := ne_step (w1 := w789) ⟨E795, hm797⟩ (by omega) ne_b790_r
   refine op_assign (ev_hit hN777 rfl) ?_
   refine reg_nil ?_
   refine hK781 _ _ ?_
   refine one_reg ?_
   refine op_move (ev_base hN777 rfl s777_6) ?_
   refine op_add (ev_hit hN777 rfl) rfl (add64 (by omega)) ?_
   refine op_assign (ev_hit hN777 rfl) ?_
   refine reg_nil ?_
   -- round 10T 18F
   exact loop_next _ hN777 hd777 ⟨i + 1, _, rfl, (sl_base hN777 rfl s777_0), (sl_base hN777 rfl s777_1), (sl_base hN777 rfl s777_4), (sl_hit hN777 rfl).trans (congrArg (Value.int .i64) (by omega)), (sl_hit hN777 rfl), (by omega), (by first | exact filter_le), hb, (by omega), hl, hm, (hO796.cast (by rw [filter_t (by omega) (nin_t c18)]; try simp) (by rw [filter_t (by omega) (nin_t c18)]; try simp [u16v]))⟩ (by omega)
 · -- 10F
  refine reg_nil ?_
  refine hK780 _ _ ?_
  refine wp_cond_false (ev_hit hN777 rfl) ?_
  refine wp_exit (then_exit (then_exit (blk_hit ?_)))
  refine hK775 _ _ ?_
  refine seq_any fun K799 hK799 => ?_
  refine one_reg ?_
  refine op_move (ev_base hN777 rfl s777_5) ?_
  refine op_assign (ev_hit hN777 rfl) ?_
  refine reg_nil ?_
  refine hK799 _ _ ?_
  refine wp_ret ?_
  refine ret1 rfl hd777 (ev_hit hN777 rfl) ⟨_, rfl, ?_⟩
  -- path 10F
  rw [take_all l (by omega)] at hO778
  exact ⟨hb, hO778⟩

theorem rmeetW_ret (l m : Lb) (v u : Value) (w : World) (hz : l.length ≤ 1000000000000) (hzm : m.length ≤ 1000000000000) (hl : RdC w 0 w.heap.size 1 v l.length (l.map u16v)) (hm : RdC w 0 w.heap.size 1 u m.length (m.map u16v)) : Ret Try.prog 22 #[v, u] w (fun v' w' => Below w.heap.size w w' ∧ Own w' w.heap.size 35 1 v' (meetL l m).length ((meetL l m).map u16v)) := by
 have hb := Below.refl w.heap.size w
 refine enter (N := 27) Try.func22 rfl rfl (by simp) fun a0 hN hd hA => ?_
 have s0 : a0.tmps.getD 0 undef = v := hA 0 (by simp)
 have s1 : a0.tmps.getD 1 undef = u := hA 1 (by simp)
 clear hA
 refine seq_any fun K800 hK800 => ?_
 refine one_reg ?_
 refine op_assign rfl ?_
 refine reg_nil ?_
 refine hK800 _ _ ?_
 refine seq_any fun K801 hK801 => ?_
 refine one_reg ?_
 refine op_assign rfl ?_
 refine reg_nil ?_
 refine hK801 _ _ ?_
 refine seq_any fun K802 hK802 => ?_
 refine seq_any fun K803 hK803 => ?_
 refine one_reg ?_
 refine op_assign rfl ?_
 refine reg_nil ?_
 refine hK803 _ _ ?_
 refine wp_block ?_
 refine loop_m (fun mz_ az_ w' => ∃ (i : Nat) (r : Value), mz_ = l.length - i ∧ (az_.tmps.getD 0 undef = v) ∧ (az_.tmps.getD 1 undef = u) ∧ (az_.tmps.getD 4 undef = (Value.slice none 0 0)) ∧ (az_.tmps.getD 6 undef = (Value.int .i64 ((i : Nat) : Int))) ∧ (az_.tmps.getD 5 undef = r) ∧ (i ≤ l.length) ∧ (((l.take i).filter (fun x => inL x m)).length ≤ i) ∧ (Below w.heap.size w w') ∧ (w.heap.size ≤ w'.heap.size) ∧ (RdC w' 0 w.heap.size 1 v l.length (l.map u16v)) ∧ (RdC w' 0 w.heap.size 1 u m.length (m.map u16v)) ∧ (Own w' w.heap.size 35 1 r ((l.take i).filter (fun x => inL x m)).length (((l.take i).filter (fun x => inL x m)).map u16v))) _ hN hd ⟨0, _, rfl, (sl_base hN rfl s0), (sl_base hN rfl s1), (sl_hit hN rfl), (sl_hit hN rfl).trans (congrArg (Value.int .i64) (by omega)), (sl_hit hN rfl), Nat.zero_le _, (by simp), hb, (Nat.le_refl _), hl, hm, (Own.nil _ _ _ _)⟩ ?_
 rintro _ a804 w804 hN804 hd804 ⟨i, r, rfl, s804_0, s804_1, s804_4, s804_6, s804_5, hi, hfl, hb, zl_w804, hl, hm, hO805⟩
 have z_w804 := hb.size
 refine seq_any fun K806 hK806 => ?_
 refine seq_any fun K807 hK807 => ?_
 refine one_reg ?_
 refine op_move (ev_base hN804 rfl s804_6) ?_
 refine op_move (ev_base hN804 rfl s804_0) ?_
 refine op_len_rd Try.underlying23 (ev_hit hN804 rfl) hl ?_
 refine op_lss (ev_hit hN804 rfl) (ev_hit hN804 rfl) (fun c10 => ?_) (fun c10 => ?_)
 · -- 10T
  refine reg_nil ?_
  refine hK807 _ _ ?_
  refine wp_cond_true (ev_hit hN804 rfl) ?_
  refine wp_skip ?_
  refine hK806 _ _ ?_
  refine seq_any fun K808 hK808 => ?_
  refine wp_block ?_
  refine seq_any fun K809 hK809 => ?_
  refine one_reg ?_
  refine op_move (ev_base hN804 rfl s804_1) ?_
  refine op_move (ev_base hN804 rfl s804_0) ?_
  refine op_move (ev_base hN804 rfl s804_6) ?_
  refine op_index_rd slt23 (ev_hit hN804 rfl) hl (ev_hit hN804 rfl) (by omega) (by omega) ?_
  intro b810 o811 h0b810 h1b810 hc812
  refine op_load1 (v := (Value.int .u16 ((l.getD i 0).toNat : Int))) one35 (ev_hit hN804 rfl) (by have := hc812 0 (Value.int .u16 ((l.getD i 0).toNat : Int)) (by decide) (el_u16 (i := i) (by omega) (by omega)); simpa using this) ?_
  refine op_fn (vs := [u, (Value.int .u16 ((l.getD i 0).toNat : Int))]) ok44 ⟨(ev_hit hN804 rfl), ⟨(ev_hit hN804 rfl), trivial⟩⟩ (Ret.flip (rinW_ret m (l.getD i 0) _ _ (by omega) (show RdC w804 0 w804.heap.size 1 u m.length (m.map u16v) from by have hh : RdC w804 0 w804.heap.size 1 _ _ _ := (hm.mono (L' := 0) (B' := w804.heap.size) (Nat.zero_le _) (by omega)); first | exact hh | exact hh.cast (by first | omega | (simp; try omega)) (by first | rfl | simp [u16v])))) ?_
  rintro _ _ ⟨rfl, rfl⟩
  rcases Bool.eq_false_or_eq_true ((inL (l.getD i 0) m)) with c18 | c18
  · -- 18T
   rw [c18]
   refine reg_nil ?_
   refine hK809 _ _ ?_
   refine wp_cond_true (ev_hit hN804 rfl) ?_
   refine one_reg ?_
   refine op_move (ev_base hN804 rfl s804_5) ?_
   refine op_move (ev_base hN804 rfl s804_0) ?_
   refine op_move (ev_base hN804 rfl s804_6) ?_
   refine op_index_rd slt23 (ev_hit hN804 rfl) hl (ev_hit hN804 rfl) (by omega) (by omega) ?_
   intro b813 o814 h0b813 h1b813 hc815
   refine op_load1 (v := (Value.int .u16 ((l.getD i 0).toNat : Int))) one35 (ev_hit hN804 rfl) (by have := hc815 0 (Value.int .u16 ((l.getD i 0).toNat : Int)) (by decide) (el_u16 (i := i) (by omega) (by omega)); simpa using this) ?_
   refine op_bslice (e := 35) (pv := [(0, (Value.int .u16 ((l.getD i 0).toNat : Int)))]) (cs := [(Value.int .u16 ((l.getD i 0).toNat : Int))]) ⟨rfl, (ev_hit hN804 rfl), trivial⟩ (by kernel_rfl) ?_
   intro w816 b817 lo_b817 hi_b817 hB819 E818
   have ne_b817_r : r.ownBlock ≠ some b817 := fun hh => by have := (hO805.lt _ hh).2; omega
   have z_w816 := E818.size
   have hl := hl.keep0 E818
   have hm := hm.keep0 E818
   have hO805 := hO805.keep0 E818
   have hb := below_step0 hb E818 hb.size
   have hP825 := hO805
   refine op_append slt23 (ev_hit hN804 rfl) hP825 (ev_hit hN804 rfl) (Src.ofRd Try.underlying23 (by decide) (RdC.ofBx (sz := 1) (n := 1) hB819 rfl (by decide)) (by simp [Value.oneCell', u8v])) (by unfold maxLen; omega) (by omega) hb.size ?_
   intro v820 w821 hO823 E822 hm824
   have z_w821 := E822.size
   have hl := hl.keepO hP825 E822 (by omega)
   have hm := hm.keepO hP825 E822 (by omega)
   have hB819 := hB819.keep E822 (fun hh => ne_b817_r hh.symm)
   have hb := below_stepO hb hP825 E822 hb.size (by omega)
   have hO823 : Own w821 w.heap.size 35 1 v820 (((l.take i).filter (fun x => inL x m)).length + 1) (((((l.take i).filter (fun x => inL x m)) ++ [(l.getD i 0)])).map u16v) := by simpa [u8v, u16v, cellsV] using hO823
   have ne_b817_v820 : v820.ownBlock ≠ some b817 := ne_step (w1 := w816) ⟨E822, hm824⟩ (by omega) ne_b817_r
   refine op_assign (ev_hit hN804 rfl) ?_
   refine reg_nil ?_
   refine hK808 _ _ ?_
   refine one_reg ?_
   refine op_move (ev_base hN804 rfl s804_6) ?_
   refine op_add (ev_hit hN804 rfl) rfl (add64 (by omega)) ?_
   refine op_assign (ev_hit hN804 rfl) ?_
   refine reg_nil ?_
   -- round 10T 18T
   exact loop_next _ hN804 hd804 ⟨i + 1, _, rfl, (sl_base hN804 rfl s804_0), (sl_base hN804 rfl s804_1), (sl_base hN804 rfl s804_4), (sl_hit hN804 rfl).trans (congrArg (Value.int .i64) (by omega)), (sl_hit hN804 rfl), (by omega), (by first | exact filter_le), hb, (by omega), hl, hm, (hO823.cast (by rw [filter_t (by omega) c18]; try simp) (by rw [filter_t (by omega) c18]; try simp [u16v]))⟩ (by omega)
  · -- 18F
   rw [c18]
   refine reg_nil ?_
   refine hK809 _ _ ?_
   refine wp_cond_false (ev_hit hN804 rfl) ?_
   refine wp_skip ?_
   refine hK808 _ _ ?_
   refine one_reg ?_
   refine op_move (ev_base hN804 rfl s804_6) ?_
   refine op_add (ev_hit hN804 rfl) rfl (add64 (by omega)) ?_
   refine op_assign (ev_hit hN804 rfl) ?_
   refine reg_nil ?_
   -- round 10T 18F
   exact loop_next _ hN804 hd804 ⟨i + 1, _, rfl, (sl_base hN804 rfl s804_0), (sl_base hN804 rfl s804_1), (sl_base hN804 rfl s804_4), (sl_hit hN804 rfl).trans (congrArg (Value.int .i64) (by omega)), (sl_base hN804 rfl s804_5), (by omega), (by first | exact filter_le), hb, (by omega), hl, hm, (hO805.cast (by rw [filter_f (by omega) c18]) (by rw [filter_f (by omega) c18]))⟩ (by omega)
 · -- 10F
  refine reg_nil ?_
  refine hK807 _ _ ?_
  refine wp_cond_false (ev_hit hN804 rfl) ?_
  refine wp_exit (then_exit (then_exit (blk_hit ?_)))
  refine hK802 _ _ ?_
  refine seq_any fun K826 hK826 => ?_
  refine one_reg ?_
  refine op_move (ev_base hN804 rfl s804_5) ?_
  refine op_assign (ev_hit hN804 rfl) ?_
  refine reg_nil ?_
  refine hK826 _ _ ?_
  refine wp_ret ?_
  refine ret1 rfl hd804 (ev_hit hN804 rfl) ⟨_, rfl, ?_⟩
  -- path 10F
  rw [take_all l (by omega)] at hO805
  exact ⟨hb, hO805⟩

theorem rflowsW_ret (l m : Lb) (v u : Value) (w : World) (hz : l.length ≤ 1000000000000) (hzm : m.length ≤ 1000000000000) (hl : RdC w 0 w.heap.size 1 v l.length (l.map u16v)) (hm : RdC w 0 w.heap.size 1 u m.length (m.map u16v)) : Ret Try.prog 17 #[v, u] w (fun v' w' => Below w.heap.size w w' ∧ v' = .bool (flowsL l m)) := by
 have hb := Below.refl w.heap.size w
 refine enter (N := 19) Try.func17 rfl rfl (by simp) fun a0 hN hd hA => ?_
 have s0 : a0.tmps.getD 0 undef = v := hA 0 (by simp)
 have s1 : a0.tmps.getD 1 undef = u := hA 1 (by simp)
 clear hA
 refine seq_any fun K827 hK827 => ?_
 refine one_reg ?_
 refine op_assign rfl ?_
 refine reg_nil ?_
 refine hK827 _ _ ?_
 refine seq_any fun K828 hK828 => ?_
 refine seq_any fun K829 hK829 => ?_
 refine one_reg ?_
 refine op_assign rfl ?_
 refine reg_nil ?_
 refine hK829 _ _ ?_
 refine wp_block ?_
 refine loop_m (fun mz_ az_ w' => ∃ (i : Nat), mz_ = l.length - i ∧ (az_.tmps.getD 0 undef = v) ∧ (az_.tmps.getD 1 undef = u) ∧ (az_.tmps.getD 5 undef = (Value.int .i64 ((i : Nat) : Int))) ∧ (i ≤ l.length) ∧ ((l.take i).all (fun x => inL x m) = true) ∧ w = w') _ hN hd ⟨0, rfl, (sl_base hN rfl s0), (sl_base hN rfl s1), (sl_hit hN rfl).trans (congrArg (Value.int .i64) (by omega)), Nat.zero_le _, rfl, rfl⟩ ?_
 rintro _ a830 _ hN830 hd830 ⟨i, rfl, s830_0, s830_1, s830_5, hi, hall, rfl⟩
 refine seq_any fun K831 hK831 => ?_
 refine seq_any fun K832 hK832 => ?_
 refine one_reg ?_
 refine op_move (ev_base hN830 rfl s830_5) ?_
 refine op_move (ev_base hN830 rfl s830_0) ?_
 refine op_len_rd Try.underlying23 (ev_hit hN830 rfl) hl ?_
 refine op_lss (ev_hit hN830 rfl) (ev_hit hN830 rfl) (fun c9 => ?_) (fun c9 => ?_)
 · -- 9T
  refine reg_nil ?_
  refine hK832 _ _ ?_
  refine wp_cond_true (ev_hit hN830 rfl) ?_
  refine wp_skip ?_
  refine hK831 _ _ ?_
  refine seq_any fun K833 hK833 => ?_
  refine wp_block ?_
  refine seq_any fun K834 hK834 => ?_
  refine one_reg ?_
  refine op_move (ev_base hN830 rfl s830_1) ?_
  refine op_move (ev_base hN830 rfl s830_0) ?_
  refine op_move (ev_base hN830 rfl s830_5) ?_
  refine op_index_rd slt23 (ev_hit hN830 rfl) hl (ev_hit hN830 rfl) (by omega) (by omega) ?_
  intro b835 o836 h0b835 h1b835 hc837
  refine op_load1 (v := (Value.int .u16 ((l.getD i 0).toNat : Int))) one35 (ev_hit hN830 rfl) (by have := hc837 0 (Value.int .u16 ((l.getD i 0).toNat : Int)) (by decide) (el_u16 (i := i) (by omega) (by omega)); simpa using this) ?_
  refine op_fn (vs := [u, (Value.int .u16 ((l.getD i 0).toNat : Int))]) ok44 ⟨(ev_hit hN830 rfl), ⟨(ev_hit hN830 rfl), trivial⟩⟩ (Ret.flip (rinW_ret m (l.getD i 0) _ _ (by omega) (show RdC w 0 w.heap.size 1 u m.length (m.map u16v) from by have hh : RdC w 0 w.heap.size 1 _ _ _ := (hm.mono (L' := 0) (B' := w.heap.size) (Nat.zero_le _) (by omega)); first | exact hh | exact hh.cast (by first | omega | (simp; try omega)) (by first | rfl | simp [u16v])))) ?_
  rintro _ _ ⟨rfl, rfl⟩
  rcases Bool.eq_false_or_eq_true ((inL (l.getD i 0) m)) with c17 | c17
  · -- 17T
   rw [c17]
   refine op_not (ev_hit hN830 rfl) ?_
   refine reg_nil ?_
   refine hK834 _ _ ?_
   refine wp_cond_false (ev_hit hN830 rfl) ?_
   refine wp_skip ?_
   refine hK833 _ _ ?_
   refine one_reg ?_
   refine op_move (ev_base hN830 rfl s830_5) ?_
   refine op_add (ev_hit hN830 rfl) rfl (add64 (by omega)) ?_
   refine op_assign (ev_hit hN830 rfl) ?_
   refine reg_nil ?_
   -- round 9T 17T
   exact loop_next _ hN830 hd830 ⟨i + 1, rfl, (sl_base hN830 rfl s830_0), (sl_base hN830 rfl s830_1), (sl_hit hN830 rfl).trans (congrArg (Value.int .i64) (by omega)), (by omega), (all_step (by omega) hall c17), rfl⟩ (by omega)
  · -- 17F
   rw [c17]
   refine op_not (ev_hit hN830 rfl) ?_
   refine reg_nil ?_
   refine hK834 _ _ ?_
   refine wp_cond_true (ev_hit hN830 rfl) ?_
   refine seq_any fun K838 hK838 => ?_
   refine one_reg ?_
   refine op_assign rfl ?_
   refine reg_nil ?_
   refine hK838 _ _ ?_
   refine wp_ret (blk_ret (then_ret (then_ret (blk_ret (then_ret ( ?_))))))
   refine ret1 rfl hd830 (ev_hit hN830 rfl) ⟨_, rfl, ?_⟩
   -- path 9T 17F
   exact ⟨hb, congrArg Value.bool (all_f (i := i) (by omega) c17).symm⟩
 · -- 9F
  refine reg_nil ?_
  refine hK832 _ _ ?_
  refine wp_cond_false (ev_hit hN830 rfl) ?_
  refine wp_exit (then_exit (then_exit (blk_hit ?_)))
  refine hK828 _ _ ?_
  refine seq_any fun K839 hK839 => ?_
  refine one_reg ?_
  refine op_assign rfl ?_
  refine reg_nil ?_
  refine hK839 _ _ ?_
  refine wp_ret ?_
  refine ret1 rfl hd830 (ev_hit hN830 rfl) ⟨_, rfl, ?_⟩
  -- path 9F
  exact ⟨hb, congrArg Value.bool (all_end (i := i) (by omega) hall).symm⟩

end Go.Proofs.Ytpmnljffdofkeaa

/- Walks, written by a program: what each function of the translation hands back. -/
namespace Go.Proofs.Ytpmnljffdofkeaa
open Go.Gx Go.RowKit
attribute [local irreducible] wpList wpStill Code.wp Calls
open Go.Sort (bitsLen)
set_option maxHeartbeats 2000000 in
theorem rallW_ret (l : Lb) (v : Value) (w : World) (hz : l.length ≤ 1000000000000) (hl : RdC w 0 w.heap.size 1 v l.length (l.map u16v)) : Ret Try.prog 45 #[v] w (fun v' w' => Below w.heap.size w w' ∧ Own w' w.heap.size 35 1 v' (nrm l).length ((nrm l).map u16v)) := by
 have hb := Below.refl w.heap.size w
 refine enter (N := 60) Try.func45 rfl rfl (by simp) fun a0 hN hd hA => ?_
 have s0 : a0.tmps.getD 0 undef = v := hA 0 (by simp)
 clear hA
 refine seq_any fun K840 hK840 => ?_
 refine one_reg ?_
 refine op_assign rfl ?_
 refine reg_nil ?_
 refine hK840 _ _ ?_
 refine seq_any fun K841 hK841 => ?_
 refine one_reg ?_
 refine op_assign rfl ?_
 refine reg_nil ?_
 refine hK841 _ _ ?_
 refine seq_any fun K842 hK842 => ?_
 refine seq_any fun K843 hK843 => ?_
 refine one_reg ?_
 refine op_assign rfl ?_
 refine reg_nil ?_
 refine hK843 _ _ ?_
 refine wp_block ?_
 refine loop_m (fun mz_ az_ w' => ∃ (i : Nat) (r : Value), mz_ = l.length - i ∧ (az_.tmps.getD 0 undef = v) ∧ (az_.tmps.getD 2 undef = (Value.slice none 0 0)) ∧ (az_.tmps.getD 4 undef = (Value.int .i64 ((i : Nat) : Int))) ∧ (az_.tmps.getD 3 undef = r) ∧ (i ≤ l.length) ∧ ((nrm (l.take i)).length ≤ i) ∧ (Below w.heap.size w w') ∧ (w.heap.size ≤ w'.heap.size) ∧ (RdC w' 0 w.heap.size 1 v l.length (l.map u16v)) ∧ (Own w' w.heap.size 35 1 r (nrm (l.take i)).length ((nrm (l.take i)).map u16v))) _ hN hd ⟨0, _, rfl, (sl_base hN rfl s0), (sl_hit hN rfl), (sl_hit hN rfl).trans (congrArg (Value.int .i64) (by omega)), (sl_hit hN rfl), Nat.zero_le _, (by simp [nrm]), hb, (Nat.le_refl _), hl, (Own.nil _ _ _ _)⟩ ?_
 rintro _ a844 w844 hN844 hd844 ⟨i, r, rfl, s844_0, s844_2, s844_4, s844_3, hi, hfl, hb, zl_w844, hl, hO845⟩
 have z_w844 := hb.size
 refine seq_any fun K846 hK846 => ?_
 refine seq_any fun K847 hK847 => ?_
 refine one_reg ?_
 refine op_move (ev_base hN844 rfl s844_4) ?_
 refine op_move (ev_base hN844 rfl s844_0) ?_
 refine op_len_rd Try.underlying22 (ev_hit hN844 rfl) hl ?_
 refine op_lss (ev_hit hN844 rfl) (ev_hit hN844 rfl) (fun c9 => ?_) (fun c9 => ?_)
 · -- 9T
  refine reg_nil ?_
  refine hK847 _ _ ?_
  refine wp_cond_true (ev_hit hN844 rfl) ?_
  refine wp_skip ?_
  refine hK846 _ _ ?_
  refine seq_any fun K848 hK848 => ?_
  refine wp_block ?_
  refine seq_any fun K849 hK849 => ?_
  refine one_reg ?_
  refine op_assign rfl ?_
  refine reg_nil ?_
  refine hK849 _ _ ?_
  refine seq_any fun K850 hK850 => ?_
  refine wp_block ?_
  refine loop_m (fun mz_ az_ w' => ∃ (jj : Nat), mz_ = (nrm (l.take i)).length - jj ∧ (az_.tmps.getD 0 undef = v) ∧ (az_.tmps.getD 2 undef = (Value.slice none 0 0)) ∧ (az_.tmps.getD 3 undef = r) ∧ (az_.tmps.getD 4 undef = (Value.int .i64 ((i : Nat) : Int))) ∧ (az_.tmps.getD 5 undef = (Value.int .i64 ((jj : Nat) : Int))) ∧ (jj ≤ (nrm (l.take i)).length) ∧ (∀ k9, k9 < jj → ((nrm (l.take i)).getD k9 0).toNat < (l.getD i 0).toNat) ∧ (Below w.heap.size w w') ∧ (w844.heap.size ≤ w'.heap.size) ∧ (RdC w' 0 w.heap.size 1 v l.length (l.map u16v)) ∧ (Own w' w.heap.size 35 1 r (nrm (l.take i)).length ((nrm (l.take i)).map u16v))) _ hN844 hd844 ⟨0, rfl, (sl_base hN844 rfl s844_0), (sl_base hN844 rfl s844_2), (sl_base hN844 rfl s844_3), (sl_base hN844 rfl s844_4), (sl_hit hN844 rfl).trans (congrArg (Value.int .i64) (by omega)), Nat.zero_le _, (fun k9 h9 => absurd h9 (Nat.not_lt_zero _)), hb, (Nat.le_refl _), hl, hO845⟩ ?_
  rintro _ a851 w851 hN851 hd851 ⟨jj, rfl, s851_0, s851_2, s851_3, s851_4, s851_5, hj, hlt, hb, zl_w851, hl, hO845⟩
  have z_w851 := hb.size
  refine seq_any fun K852 hK852 => ?_
  refine seq_any fun K853 hK853 => ?_
  refine reg_still mixed (by kernel_rfl) ?_
  intro w855 E854
  have z_w855 := E854.size
  have hl := hl.keep0 E854
  have hO845 := hO845.keep0 E854
  have hb := below_step0 hb E854 hb.size
  refine st_step rfl (fun _ h9 => op_move (ev_base hN851 rfl s851_5) h9) ?_
  refine st_step rfl (fun _ h9 => op_move (ev_base hN851 rfl s851_3) h9) ?_
  refine st_step rfl (fun _ h9 => op_len_rd Try.underlying23 (ev_hit hN851 rfl) hO845.rdw h9) ?_
  by_cases g15 : ((jj : Nat) : Int) < (((nrm (l.take i)).length : Nat) : Int)
  · -- 15T
   refine st_step rfl (fun _ h9 => op_cmp (b := true) (ev_hit hN851 rfl) (ev_hit hN851 rfl) (b_lss (decide_eq_true g15)) h9) ?_
   refine st_step rfl (fun _ h9 => op_move (ev_hit hN851 rfl) h9) ?_
   refine st_g_true (j := 4) (dj := 16) (b := true) rfl rfl rfl (ev_hit hN851 rfl) ?_
   refine st_step rfl (fun _ h9 => op_move (ev_base hN851 rfl s851_3) h9) ?_
   refine st_g_true (j := 4) (dj := 16) (b := true) rfl rfl rfl (ev_hit hN851 rfl) ?_
   refine st_step rfl (fun _ h9 => op_move (ev_base hN851 rfl s851_5) h9) ?_
   refine st_g_true (j := 4) (dj := 16) (b := true) rfl rfl rfl (ev_hit hN851 rfl) ?_
   refine st_index_rd slt23 (ev_hit hN851 rfl) hO845.rdw (ev_hit hN851 rfl) (by omega) (by omega) ?_
   intro b856 o857 h0b856 h1b856 hc858
   refine st_g_true (j := 4) (dj := 16) (b := true) rfl rfl rfl (ev_hit hN851 rfl) ?_
   refine st_step rfl (fun _ h9 => op_load1 (v := (Value.int .u16 (((nrm (l.take i)).getD jj 0).toNat : Int))) one35 (ev_hit hN851 rfl) (by have := hc858 0 (Value.int .u16 (((nrm (l.take i)).getD jj 0).toNat : Int)) (by decide) (el_u16 (i := jj) (by omega) (by omega)); simpa using this) h9) ?_
   refine st_g_true (j := 4) (dj := 16) (b := true) rfl rfl rfl (ev_hit hN851 rfl) ?_
   refine st_step rfl (fun _ h9 => op_move (ev_base hN851 rfl s851_0) h9) ?_
   refine st_g_true (j := 4) (dj := 16) (b := true) rfl rfl rfl (ev_hit hN851 rfl) ?_
   refine st_step rfl (fun _ h9 => op_move (ev_base hN851 rfl s851_4) h9) ?_
   refine st_g_true (j := 4) (dj := 16) (b := true) rfl rfl rfl (ev_hit hN851 rfl) ?_
   refine st_index_rd slt22 (ev_hit hN851 rfl) hl (ev_hit hN851 rfl) (by omega) (by omega) ?_
   intro b859 o860 h0b859 h1b859 hc861
   refine st_g_true (j := 4) (dj := 16) (b := true) rfl rfl rfl (ev_hit hN851 rfl) ?_
   refine st_step rfl (fun _ h9 => op_load1 (v := (Value.int .u16 ((l.getD i 0).toNat : Int))) one35 (ev_hit hN851 rfl) (by have := hc861 0 (Value.int .u16 ((l.getD i 0).toNat : Int)) (by decide) (el_u16 (i := i) (by omega) (by omega)); simpa using this) h9) ?_
   refine st_g_true (j := 4) (dj := 16) (b := true) rfl rfl rfl (ev_hit hN851 rfl) ?_
   refine st_step rfl (fun _ h9 => op_cmp (b := (decide ((((nrm (l.take i)).getD jj 0).toNat : Int) < ((l.getD i 0).toNat : Int)))) (ev_hit hN851 rfl) (ev_hit hN851 rfl) (b_lss rfl) h9) ?_
   refine st_step rfl (fun _ h9 => op_pick_t (ev_hit hN851 rfl) (ev_hit hN851 rfl) h9) ?_
   refine st_nil ?_
   refine hK853 _ _ ?_
   refine wp_cond_split (ev_hit hN851 rfl) (fun c26 => ?_) (fun c26 => ?_)
   · -- 26T
    have c26 := of_decide_eq_true c26
    refine wp_skip ?_
    refine hK852 _ _ ?_
    refine wp_block ?_
    refine one_reg ?_
    refine op_move (ev_base hN851 rfl s851_5) ?_
    refine op_add (ev_hit hN851 rfl) rfl (add64 (by omega)) ?_
    refine op_assign (ev_hit hN851 rfl) ?_
    refine reg_nil ?_
    refine blk_normal ?_
    -- round 9T 15T 26T
    exact loop_next _ hN851 hd851 ⟨jj + 1, rfl, (sl_base hN851 rfl s851_0), (sl_base hN851 rfl s851_2), (sl_base hN851 rfl s851_3), (sl_base hN851 rfl s851_4), (sl_hit hN851 rfl).trans (congrArg (Value.int .i64) (by omega)), (by omega), (lt_step hlt (by omega)), hb, (by omega), hl, hO845⟩ (by omega)
   · -- 26F
    have c26 := of_decide_eq_false c26
    refine wp_exit (then_exit (then_exit (blk_hit ?_)))
    refine hK850 _ _ ?_
    refine seq_any fun K862 hK862 => ?_
    refine reg_still mixed (by kernel_rfl) ?_
    intro w864 E863
    have z_w864 := E863.size
    have hl := hl.keep0 E863
    have hO845 := hO845.keep0 E863
    have hb := below_step0 hb E863 hb.size
    refine st_step rfl (fun _ h9 => op_move (ev_base hN851 rfl s851_5) h9) ?_
    refine st_step rfl (fun _ h9 => op_move (ev_base hN851 rfl s851_3) h9) ?_
    refine st_step rfl (fun _ h9 => op_len_rd Try.underlying23 (ev_hit hN851 rfl) hO845.rdw h9) ?_
    by_cases g32 : ((jj : Nat) : Int) = (((nrm (l.take i)).length : Nat) : Int)
    · -- 32T
     refine st_step rfl (fun _ h9 => op_cmp (b := true) (ev_hit hN851 rfl) (ev_hit hN851 rfl) (b_eql (decide_eq_true g32)) h9) ?_
     refine st_step rfl (fun _ h9 => op_move (ev_hit hN851 rfl) h9) ?_
     refine st_g_false (j := 4) (dj := 33) (b := false) rfl rfl rfl (ev_hit hN851 rfl) rfl rfl ?_
     refine st_g_false (j := 4) (dj := 33) (b := false) rfl rfl rfl (ev_hit hN851 rfl) rfl rfl ?_
     refine st_g_false (j := 4) (dj := 33) (b := false) rfl rfl rfl (ev_hit hN851 rfl) rfl rfl ?_
     refine st_g_false (j := 4) (dj := 33) (b := false) rfl rfl rfl (ev_hit hN851 rfl) rfl rfl ?_
     refine st_g_false (j := 4) (dj := 33) (b := false) rfl rfl rfl (ev_hit hN851 rfl) rfl rfl ?_
     refine st_g_false (j := 4) (dj := 33) (b := false) rfl rfl rfl (ev_hit hN851 rfl) rfl rfl ?_
     refine st_g_false (j := 4) (dj := 33) (b := false) rfl rfl rfl (ev_hit hN851 rfl) rfl rfl ?_
     refine st_g_false (j := 4) (dj := 33) (b := false) rfl rfl rfl (ev_hit hN851 rfl) rfl rfl ?_
     refine st_g_false (j := 4) (dj := 33) (b := false) rfl rfl rfl (ev_hit hN851 rfl) rfl rfl ?_
     refine st_step rfl (fun _ h9 => op_pick_t (ev_hit hN851 rfl) rfl h9) ?_
     refine st_nil ?_
     refine hK862 _ _ ?_
     refine wp_cond_true (ev_hit hN851 rfl) ?_
     have hO845_s := hO845
     refine reg_chain (Φ := phiC [chP 0, (fun _ _ uz _ => uz = r), (fun _ _ uz _ => uz = (Value.int .i64 ((jj : Nat) : Int))), (fun _ vz uz w' => ∃ (v869 : Value), uz = v869 ∧ RdC w' w.heap.size w864.heap.size 1 v869 jj ((((nrm (l.take i)).take jj)).map u16v) ∧ (w864.heap.size ≤ w'.heap.size ∧ ∀ k, vz.ownBlock = some k → w864.heap.size ≤ k)), chP 1, (fun _ _ uz _ => uz = v), (fun _ _ uz _ => uz = (Value.int .i64 ((i : Nat) : Int))), (fun _ vz uz w' => ∃ (b878 : (Nat)) (o879 : (Nat)), uz = (ptr b878 o879) ∧ PtC w' 0 w.heap.size b878 o879 [(Value.int .u16 ((l.getD i 0).toNat : Int))] ∧ (w.heap.size ≤ w'.heap.size ∧ ∀ k, vz.ownBlock = some k → w.heap.size ≤ k)), (fun _ _ uz _ => uz = (Value.int .u16 ((l.getD i 0).toNat : Int))), (fun _ vz uz w' => ∃ (b883 : Nat), uz = (Value.slice (some ⟨b883, 0, none⟩) 1 1) ∧ w864.heap.size ≤ b883 ∧ Bx w' b883 35 [(Value.int .u16 ((l.getD i 0).toNat : Int))] ∧ vz.ownBlock ≠ some b883), chP 2, (fun _ _ uz _ => uz = r), (fun _ _ uz _ => uz = (Value.int .i64 ((jj : Nat) : Int))), (fun _ vz uz w' => ∃ (v893 : Value), uz = v893 ∧ RdC w' w.heap.size w864.heap.size 1 v893 ((nrm (l.take i)).length - jj) ((((nrm (l.take i)).drop jj)).map u16v) ∧ (w864.heap.size ≤ w'.heap.size ∧ ∀ k, vz.ownBlock = some k → w864.heap.size ≤ k)), chP 3, chP 3]) (C := CL [(fun vz w' => Own w' w.heap.size 35 1 vz 0 ([])), (fun vz w' => Own w' w.heap.size 35 1 vz 0 ([])), (fun vz w' => Own w' w.heap.size 35 1 vz (0 + jj) ((((nrm (l.take i)).take jj)).map u16v)), (fun vz w' => Own w' w.heap.size 35 1 vz ((0 + jj) + 1) (((((nrm (l.take i)).take jj) ++ [(l.getD i 0)])).map u16v)), (fun vz w' => Own w' w.heap.size 35 1 vz (((0 + jj) + 1) + ((nrm (l.take i)).length - jj)) ((((((nrm (l.take i)).take jj) ++ [(l.getD i 0)]) ++ ((nrm (l.take i)).drop jj))).map u16v))]) ⟨[0, 4, 10, 14], fun c => [60, 44, 48, 54, 58].getD c 60⟩ (Value.slice none 0 0) mixed (by kernel_rfl) (by kernel_rfl) (by kernel_rfl) (by kernel_rfl) hN851 (StK.get0 (n := 4) (StK.ch (StK.eq (StK.eq (StK.cons (fun c v u w1 w2 E h => by obtain ⟨x0, hv, f0, q0⟩ := h; exact ⟨x0, hv, f0.keep0 E, ⟨Nat.le_trans q0.1 E.size, q0.2⟩⟩) (fun c v v' u w1 w2 _ E h => by obtain ⟨x0, hv, f0, q0⟩ := h; exact ⟨x0, hv, f0.keep E.1 (fun k hk => .inr (q0.2 k hk)), ⟨Nat.le_trans q0.1 E.1.size, ge_step E q0.1 q0.2⟩⟩) (StK.ch (StK.eq (StK.eq (StK.cons (fun c v u w1 w2 E h => by obtain ⟨x0, x1, hv, f0, q0⟩ := h; exact ⟨x0, x1, hv, f0.keep0 E, ⟨Nat.le_trans q0.1 E.size, q0.2⟩⟩) (fun c v v' u w1 w2 _ E h => by obtain ⟨x0, x1, hv, f0, q0⟩ := h; exact ⟨x0, x1, hv, f0.keep E.1 (fun k hk => .inr (q0.2 k hk)), ⟨Nat.le_trans q0.1 E.1.size, ge_step E q0.1 q0.2⟩⟩) (StK.eq (StK.cons (fun c v u w1 w2 E h => by obtain ⟨x0, hv, l0, f0, q0⟩ := h; exact ⟨x0, hv, l0, f0.keep0 E, q0⟩) (fun c v v' u w1 w2 _ E h => by obtain ⟨x0, hv, l0, f0, q0⟩ := h; exact ⟨x0, hv, l0, f0.keep E.1 (fun hh => q0 hh.symm), ne_step E f0.lt q0⟩) (StK.ch (StK.eq (StK.eq (StK.cons (fun c v u w1 w2 E h => by obtain ⟨x0, hv, f0, q0⟩ := h; exact ⟨x0, hv, f0.keep0 E, ⟨Nat.le_trans q0.1 E.size, q0.2⟩⟩) (fun c v v' u w1 w2 _ E h => by obtain ⟨x0, hv, f0, q0⟩ := h; exact ⟨x0, hv, f0.keep E.1 (fun k hk => .inr (q0.2 k hk)), ⟨Nat.le_trans q0.1 E.1.size, ge_step E q0.1 q0.2⟩⟩) (StK.ch (StK.ch (StK.nil)))))))))))))))))) (StK.get1 (n := 4) (StK.ch (StK.eq (StK.eq (StK.cons (fun c v u w1 w2 E h => by obtain ⟨x0, hv, f0, q0⟩ := h; exact ⟨x0, hv, f0.keep0 E, ⟨Nat.le_trans q0.1 E.size, q0.2⟩⟩) (fun c v v' u w1 w2 _ E h => by obtain ⟨x0, hv, f0, q0⟩ := h; exact ⟨x0, hv, f0.keep E.1 (fun k hk => .inr (q0.2 k hk)), ⟨Nat.le_trans q0.1 E.1.size, ge_step E q0.1 q0.2⟩⟩) (StK.ch (StK.eq (StK.eq (StK.cons (fun c v u w1 w2 E h => by obtain ⟨x0, x1, hv, f0, q0⟩ := h; exact ⟨x0, x1, hv, f0.keep0 E, ⟨Nat.le_trans q0.1 E.size, q0.2⟩⟩) (fun c v v' u w1 w2 _ E h => by obtain ⟨x0, x1, hv, f0, q0⟩ := h; exact ⟨x0, x1, hv, f0.keep E.1 (fun k hk => .inr (q0.2 k hk)), ⟨Nat.le_trans q0.1 E.1.size, ge_step E q0.1 q0.2⟩⟩) (StK.eq (StK.cons (fun c v u w1 w2 E h => by obtain ⟨x0, hv, l0, f0, q0⟩ := h; exact ⟨x0, hv, l0, f0.keep0 E, q0⟩) (fun c v v' u w1 w2 _ E h => by obtain ⟨x0, hv, l0, f0, q0⟩ := h; exact ⟨x0, hv, l0, f0.keep E.1 (fun hh => q0 hh.symm), ne_step E f0.lt q0⟩) (StK.ch (StK.eq (StK.eq (StK.cons (fun c v u w1 w2 E h => by obtain ⟨x0, hv, f0, q0⟩ := h; exact ⟨x0, hv, f0.keep0 E, ⟨Nat.le_trans q0.1 E.size, q0.2⟩⟩) (fun c v v' u w1 w2 _ E h => by obtain ⟨x0, hv, f0, q0⟩ := h; exact ⟨x0, hv, f0.keep E.1 (fun k hk => .inr (q0.2 k hk)), ⟨Nat.le_trans q0.1 E.1.size, ge_step E q0.1 q0.2⟩⟩) (StK.ch (StK.ch (StK.nil)))))))))))))))))) (StL2.get0 (StL2.own (StL2.own (StL2.own (StL2.own (StL2.own (StL2.nil))))))) (StL2.get1 (StL2.own (StL2.own (StL2.own (StL2.own (StL2.own (StL2.nil))))))) (Own.nil w864 w.heap.size 35 1) (ObLn.get (ObLn.pass rfl (ObLn.cons ?_ (ObLn.cons ?_ (ObLn.cons ?_ (ObLn.pass rfl (ObLn.cons ?_ (ObLn.cons ?_ (ObLn.cons ?_ (ObLn.cons ?_ (ObLn.cons ?_ (ObLn.pass rfl (ObLn.cons ?_ (ObLn.cons ?_ (ObLn.cons ?_ (ObLn.pass rfl (ObLn.cons ?_ (ObLn.nil)))))))))))))))))) (ObLc.get (ObLc.cons ?_ (ObLc.cons ?_ (ObLc.cons ?_ (ObLc.cons ?_ (ObLc.nil)))))) ?_
     ·
      intro aA wA ccA cvA hNA hclA hRA hltA hvoA hbsA hdpA
      have qA_3 := (hbsA 3 (by kernel_rfl)).trans (sl_base hN851 rfl s851_3)
      refine op_move (ev_base hNA rfl qA_3) ?_
      exact obNc_end rfl rfl (grown_refl _ _)
     ·
      intro aA wA ccA cvA hNA hclA hRA hltA hvoA hbsA hdpA
      have qA_5 := (hbsA 5 rfl).trans (sl_base hN851 rfl s851_5)
      refine op_move (ev_base hNA rfl qA_5) ?_
      exact obNc_end rfl rfl (grown_refl _ _)
     ·
      intro aA wA ccA cvA hNA hclA hRA hltA hvoA hbsA hdpA
      have hRA : w864.grownBy wA (Value.slice none 0 0).ownBlock := hRA
      have hnil_o := (Own.nil w864 w.heap.size 35 1)
      have z_wA := hRA.size
      have hb := below_stepO hb (Own.nil w864 w.heap.size 35 1) hRA hb.size (by omega)
      have hl := hl.keep0 hRA
      have hO845 := hO845.keep0 hRA
      have qA_45 : Sl aA 45 r := hdpA 1 _ 45 (by kernel_rfl) rfl rfl
      have qA_46 : Sl aA 46 (Value.int .i64 ((jj : Nat) : Int)) := hdpA 2 _ 46 (by kernel_rfl) rfl rfl
      clear hbsA hdpA
      refine op_slice_rd (lo := 0) (hi := jj) slt23 (ev_base hNA rfl qA_45) (Own.rdB hO845 hO845_s) (.inl ⟨rfl, rfl⟩) (.inr ⟨_, _, rfl, (ev_base hNA rfl qA_46)⟩) (by omega) (by omega) ?_
      intro v865 hR866
      have hR866 : RdC wA w.heap.size w864.heap.size 1 v865 jj ((((nrm (l.take i)).take jj)).map u16v) := by simpa [List.map_drop, List.map_take] using hR866
      exact obNc_end rfl ⟨v865, rfl, hR866, ⟨by omega, ge_of hvoA (fun k hk => by simp [Value.ownBlock] at hk) (by omega)⟩⟩ (grown_refl _ _)
     ·
      intro aA wA ccA cvA hNA hclA hRA hltA hvoA hbsA hdpA
      have qA_0 := (hbsA 0 rfl).trans (sl_base hN851 rfl s851_0)
      refine op_move (ev_base hNA rfl qA_0) ?_
      exact obNc_end rfl rfl (grown_refl _ _)
     ·
      intro aA wA ccA cvA hNA hclA hRA hltA hvoA hbsA hdpA
      have qA_4 := (hbsA 4 rfl).trans (sl_base hN851 rfl s851_4)
      refine op_move (ev_base hNA rfl qA_4) ?_
      exact obNc_end rfl rfl (grown_refl _ _)
     ·
      intro aA wA ccA cvA hNA hclA hRA hltA hvoA hbsA hdpA
      have hRA : w864.grownBy wA (Value.slice none 0 0).ownBlock := hRA
      have hnil_o := (Own.nil w864 w.heap.size 35 1)
      have z_wA := hRA.size
      have hb := below_stepO hb (Own.nil w864 w.heap.size 35 1) hRA hb.size (by omega)
      have hl := hl.keep0 hRA
      have hO845 := hO845.keep0 hRA
      have qA_49 : Sl aA 49 v := hdpA 5 _ 49 (by kernel_rfl) rfl rfl
      have qA_50 : Sl aA 50 (Value.int .i64 ((i : Nat) : Int)) := hdpA 6 _ 50 (by kernel_rfl) rfl rfl
      clear hbsA hdpA
      refine op_index_rd slt22 (ev_base hNA rfl qA_49) hl (ev_base hNA rfl qA_50) (by omega) (by omega) ?_
      intro b867 o868 h0b867 h1b867 hc869
      have hp870 : PtC wA 0 w.heap.size b867 o868 [(Value.int .u16 ((l.getD i 0).toNat : Int))] := ⟨by omega, by omega, fun j u hu => hc869 j u (by have := (List.getElem?_eq_some_iff.1 hu).1; simpa using this) ((fun j u hu => one_at (el_u16 (i := i) (by omega) (by omega)) hu) j u hu)⟩
      exact obNc_end rfl ⟨b867, o868, rfl, hp870, ⟨by omega, ge_of hvoA (fun k hk => by simp [Value.ownBlock] at hk) (by omega)⟩⟩ (grown_refl _ _)
     ·
      intro aA wA ccA cvA hNA hclA hRA hltA hvoA hbsA hdpA
      have hRA : w864.grownBy wA (Value.slice none 0 0).ownBlock := hRA
      have hnil_o := (Own.nil w864 w.heap.size 35 1)
      have z_wA := hRA.size
      have hb := below_stepO hb (Own.nil w864 w.heap.size 35 1) hRA hb.size (by omega)
      have hl := hl.keep0 hRA
      have hO845 := hO845.keep0 hRA
      obtain ⟨b878, o879, qA_51, hp881, xqA_51_0⟩ := hdpA 7 _ 51 (by kernel_rfl) rfl rfl
      have hp881 : PtC wA 0 w.heap.size b878 o879 [(Value.int .u16 ((l.getD i 0).toNat : Int))] := hp881
      clear hbsA hdpA
      refine op_load1 (v := (Value.int .u16 ((l.getD i 0).toNat : Int))) one35 (ev_base hNA rfl qA_51) (hp881.2.2 0 _ rfl) ?_
      exact obNc_end rfl rfl (grown_refl _ _)
     ·
      intro aA wA ccA cvA hNA hclA hRA hltA hvoA hbsA hdpA
      have hRA : w864.grownBy wA (Value.slice none 0 0).ownBlock := hRA
      have hnil_o := (Own.nil w864 w.heap.size 35 1)
      have z_wA := hRA.size
      have hb := below_stepO hb (Own.nil w864 w.heap.size 35 1) hRA hb.size (by omega)
      have hl := hl.keep0 hRA
      have hO845 := hO845.keep0 hRA
      have qA_52 : Sl aA 52 (Value.int .u16 ((l.getD i 0).toNat : Int)) := hdpA 8 _ 52 (by kernel_rfl) rfl rfl
      clear hbsA hdpA
      refine op_bslice (e := 35) (pv := [(0, (Value.int .u16 ((l.getD i 0).toNat : Int)))]) (cs := [(Value.int .u16 ((l.getD i 0).toNat : Int))]) ⟨rfl, (ev_base hNA rfl qA_52), trivial⟩ (by kernel_rfl) ?_
      intro w871 b872 lo_b872 hi_b872 hB874 E873
      have ne_b872_r : r.ownBlock ≠ some b872 := fun hh => by have := (hO845.lt _ hh).2; omega
      have z_w871 := E873.size
      have hl := hl.keep0 E873
      have hO845 := hO845.keep0 E873
      have hb := below_step0 hb E873 hb.size
      exact obNc_end rfl ⟨b872, rfl, (by omega), hB874, (fun hh => by have := hltA _ hh; omega)⟩ (E873)
     ·
      intro aA wA ccA cvA hNA hclA hRA hltA hvoA hbsA hdpA
      have qA_3 := (hbsA 3 (by kernel_rfl)).trans (sl_base hN851 rfl s851_3)
      refine op_move (ev_base hNA rfl qA_3) ?_
      exact obNc_end rfl rfl (grown_refl _ _)
     ·
      intro aA wA ccA cvA hNA hclA hRA hltA hvoA hbsA hdpA
      have qA_5 := (hbsA 5 rfl).trans (sl_base hN851 rfl s851_5)
      refine op_move (ev_base hNA rfl qA_5) ?_
      exact obNc_end rfl rfl (grown_refl _ _)
     ·
      intro aA wA ccA cvA hNA hclA hRA hltA hvoA hbsA hdpA
      have hRA : w864.grownBy wA (Value.slice none 0 0).ownBlock := hRA
      have hnil_o := (Own.nil w864 w.heap.size 35 1)
      have z_wA := hRA.size
      have hb := below_stepO hb (Own.nil w864 w.heap.size 35 1) hRA hb.size (by omega)
      have hl := hl.keep0 hRA
      have hO845 := hO845.keep0 hRA
      have qA_55 : Sl aA 55 r := hdpA 11 _ 55 (by kernel_rfl) rfl rfl
      have qA_56 : Sl aA 56 (Value.int .i64 ((jj : Nat) : Int)) := hdpA 12 _ 56 (by kernel_rfl) rfl rfl
      clear hbsA hdpA
      refine op_slice_rd (lo := jj) (hi := (nrm (l.take i)).length) slt23 (ev_base hNA rfl qA_55) (Own.rdB hO845 hO845_s) (.inr ⟨_, _, rfl, (ev_base hNA rfl qA_56)⟩) (.inl ⟨rfl, rfl⟩) (by omega) (by omega) ?_
      intro v875 hR876
      have hR876 : RdC wA w.heap.size w864.heap.size 1 v875 ((nrm (l.take i)).length - jj) ((((nrm (l.take i)).drop jj)).map u16v) := by simpa [List.map_drop, List.map_take, List.take_of_length_le] using hR876
      exact obNc_end rfl ⟨v875, rfl, hR876, ⟨by omega, ge_of hvoA (fun k hk => by simp [Value.ownBlock] at hk) (by omega)⟩⟩ (grown_refl _ _)
     ·
      intro aA wA ccA cvA hNA hclA hRA hltA hvoA hbsA hdpA
      have hchA : chP 3 ccA cvA (aA.tmps.getD 58 undef) wA := hdpA 14 _ 58 (by kernel_rfl) rfl rfl
      have hccA : ccA = 4 := Nat.le_antisymm hclA hchA.1
      have qA_58 := hchA.2 hccA
      refine op_assign (ev_base hNA rfl qA_58) ?_
      exact obNc_end rfl ⟨by omega, fun _ => rfl⟩ (grown_refl _ _)
     ·
      intro o_ ho_; obtain rfl := Option.some.inj ho_; intro aA wA cvA hNA hRA hcv0A hbsA hdpA hCA
      have hRA : w864.grownBy wA (Value.slice none 0 0).ownBlock := hRA
      have hnil_o := (Own.nil w864 w.heap.size 35 1)
      have z_wA := hRA.size
      have hb := below_stepO hb (Own.nil w864 w.heap.size 35 1) hRA hb.size (by omega)
      have hl := hl.keep0 hRA
      have hO845 := hO845.keep0 hRA
      have hcvA : (Value.slice none 0 0) = cvA := (hcv0A rfl).symm
      subst hcvA
      have hCA : Own wA w.heap.size 35 1 (Value.slice none 0 0) 0 ([]) := hCA
      clear hbsA hdpA
      refine op_bslice (e := 35) (pv := []) (cs := []) trivial (by kernel_rfl) ?_
      intro w877 b878 lo_b878 hi_b878 hB880 E879
      have ne_b878_r : r.ownBlock ≠ some b878 := fun hh => by have := (hO845.lt _ hh).2; omega
      have z_w877 := E879.size
      have hl := hl.keep0 E879
      have hO845 := hO845.keep0 E879
      have hCA := hCA.keep0 E879
      have hb := below_step0 hb E879 hb.size
      exact obCc_end rfl rfl (chP_now (w := w877)) (Own.ofBx (base := w.heap.size) (sz := 1) (n := 0) hB880 rfl (by decide) (by omega)) ⟨E879, .inr (fun k hk => by simp [Value.ownBlock] at hk; omega)⟩
     ·
      intro o_ ho_; obtain rfl := Option.some.inj ho_; intro aA wA cvA hNA hRA hcv0A hbsA hdpA hCA
      have hRA : w864.grownBy wA (Value.slice none 0 0).ownBlock := hRA
      have hnil_o := (Own.nil w864 w.heap.size 35 1)
      have z_wA := hRA.size
      have hb := below_stepO hb (Own.nil w864 w.heap.size 35 1) hRA hb.size (by omega)
      have hl := hl.keep0 hRA
      have hO845 := hO845.keep0 hRA
      have hCA : Own wA w.heap.size 35 1 cvA 0 ([]) := hCA
      have qA_44 : aA.tmps.getD 44 undef = cvA := (show chP 0 1 cvA (aA.tmps.getD 44 undef) wA from hdpA 0 _ 44 (by kernel_rfl) rfl rfl).2 rfl
      obtain ⟨v869, qA_47, hR870, xqA_47_0⟩ := hdpA 3 _ 47 (by kernel_rfl) rfl rfl
      have hR870 : RdC wA w.heap.size w864.heap.size 1 v869 jj ((((nrm (l.take i)).take jj)).map u16v) := hR870
      clear hbsA hdpA
      have hP886 := hCA
      refine op_append slt23 (ev_base hNA rfl qA_44) hP886 (ev_base hNA rfl qA_47) (Src.ofRd Try.underlying23 (by decide) hR870 (one_u16 _)) (by unfold maxLen; omega) (by omega) hb.size ?_
      intro v881 w882 hO884 E883 hm885
      have z_w882 := E883.size
      have hl := hl.keepO hP886 E883 (by omega)
      have hR870 := hR870.keep E883 (fun k hk => .inr (xqA_47_0.2 k hk))
      have hb := below_stepO hb hP886 E883 hb.size (by omega)
      have hO884 : Own w882 w.heap.size 35 1 v881 (0 + jj) ((((nrm (l.take i)).take jj)).map u16v) := by simpa [u8v, u16v, cellsV] using hO884
      exact obCc_end rfl rfl (chP_now (w := w882)) hO884 ⟨E883, hm885⟩
     ·
      intro o_ ho_; obtain rfl := Option.some.inj ho_; intro aA wA cvA hNA hRA hcv0A hbsA hdpA hCA
      have hRA : w864.grownBy wA (Value.slice none 0 0).ownBlock := hRA
      have hnil_o := (Own.nil w864 w.heap.size 35 1)
      have z_wA := hRA.size
      have hb := below_stepO hb (Own.nil w864 w.heap.size 35 1) hRA hb.size (by omega)
      have hl := hl.keep0 hRA
      have hO845 := hO845.keep0 hRA
      have hCA : Own wA w.heap.size 35 1 cvA (0 + jj) ((((nrm (l.take i)).take jj)).map u16v) := hCA
      have qA_48 : aA.tmps.getD 48 undef = cvA := (show chP 1 2 cvA (aA.tmps.getD 48 undef) wA from hdpA 4 _ 48 (by kernel_rfl) rfl rfl).2 rfl
      obtain ⟨b883, qA_53, loA_0, hB885, xqA_53_0⟩ := hdpA 9 _ 53 (by kernel_rfl) rfl rfl
      have hB885 : Bx wA b883 35 [(Value.int .u16 ((l.getD i 0).toNat : Int))] := hB885
      clear hbsA hdpA
      have hP892 := hCA
      refine op_append slt23 (ev_base hNA rfl qA_48) hP892 (ev_base hNA rfl qA_53) (Src.ofRd Try.underlying23 (by decide) (RdC.ofBx (sz := 1) (n := 1) hB885 rfl (by decide)) (by simp [Value.oneCell', u8v])) (by unfold maxLen; omega) (by omega) hb.size ?_
      intro v887 w888 hO890 E889 hm891
      have z_w888 := E889.size
      have hl := hl.keepO hP892 E889 (by omega)
      have hB885 := hB885.keep E889 (fun hh => xqA_53_0 hh.symm)
      have hb := below_stepO hb hP892 E889 hb.size (by omega)
      have hO890 : Own w888 w.heap.size 35 1 v887 ((0 + jj) + 1) (((((nrm (l.take i)).take jj) ++ [(l.getD i 0)])).map u16v) := by simpa [u8v, u16v, cellsV] using hO890
      exact obCc_end rfl rfl (chP_now (w := w888)) hO890 ⟨E889, hm891⟩
     ·
      intro o_ ho_; obtain rfl := Option.some.inj ho_; intro aA wA cvA hNA hRA hcv0A hbsA hdpA hCA
      have hRA : w864.grownBy wA (Value.slice none 0 0).ownBlock := hRA
      have hnil_o := (Own.nil w864 w.heap.size 35 1)
      have z_wA := hRA.size
      have hb := below_stepO hb (Own.nil w864 w.heap.size 35 1) hRA hb.size (by omega)
      have hl := hl.keep0 hRA
      have hO845 := hO845.keep0 hRA
      have hCA : Own wA w.heap.size 35 1 cvA ((0 + jj) + 1) (((((nrm (l.take i)).take jj) ++ [(l.getD i 0)])).map u16v) := hCA
      have qA_54 : aA.tmps.getD 54 undef = cvA := (show chP 2 3 cvA (aA.tmps.getD 54 undef) wA from hdpA 10 _ 54 (by kernel_rfl) rfl rfl).2 rfl
      obtain ⟨v893, qA_57, hR894, xqA_57_0⟩ := hdpA 13 _ 57 (by kernel_rfl) rfl rfl
      have hR894 : RdC wA w.heap.size w864.heap.size 1 v893 ((nrm (l.take i)).length - jj) ((((nrm (l.take i)).drop jj)).map u16v) := hR894
      clear hbsA hdpA
      have hP898 := hCA
      refine op_append slt23 (ev_base hNA rfl qA_54) hP898 (ev_base hNA rfl qA_57) (Src.ofRd Try.underlying23 (by decide) hR894 (one_u16 _)) (by unfold maxLen; omega) (by omega) hb.size ?_
      intro v893 w894 hO896 E895 hm897
      have z_w894 := E895.size
      have hl := hl.keepO hP898 E895 (by omega)
      have hR894 := hR894.keep E895 (fun k hk => .inr (xqA_57_0.2 k hk))
      have hb := below_stepO hb hP898 E895 hb.size (by omega)
      have hO896 : Own w894 w.heap.size 35 1 v893 (((0 + jj) + 1) + ((nrm (l.take i)).length - jj)) ((((((nrm (l.take i)).take jj) ++ [(l.getD i 0)]) ++ ((nrm (l.take i)).drop jj))).map u16v) := by simpa [u8v, u16v, cellsV] using hO896
      exact obCc_end rfl rfl (chP_now (w := w894)) hO896 ⟨E895, hm897⟩
     ·
      intro a899 w899 v895 hN899 hd899 hbs899 hph899 hC899 E899 hm899
      have hd899 := hd899.trans hd851
      have s899_0 := (hbs899 0 rfl).trans (sl_base hN851 rfl s851_0)
      have s899_2 := (hbs899 2 rfl).trans (sl_base hN851 rfl s851_2)
      have s899_3 : a899.tmps.getD 3 undef = v895 := (show chP 3 4 v895 (a899.tmps.getD 3 undef) w899 from hph899 15 _ 3 rfl rfl).2 rfl
      have s899_4 := (hbs899 4 rfl).trans (sl_base hN851 rfl s851_4)
      clear hbs899 hph899
      have E899 : w864.grownBy w899 (Value.slice none 0 0).ownBlock := E899
      have hC899 : Own w899 w.heap.size 35 1 v895 (((0 + jj) + 1) + ((nrm (l.take i)).length - jj)) ((((((nrm (l.take i)).take jj) ++ [(l.getD i 0)]) ++ ((nrm (l.take i)).drop jj))).map u16v) := hC899
      have z_w899 := E899.size
      have hl := hl.keepO (Own.nil w864 w.heap.size 35 1) E899 (by omega)
      have hb := below_stepO hb (Own.nil w864 w.heap.size 35 1) E899 hb.size (by omega)
      refine hK848 _ _ ?_
      refine one_reg ?_
      refine op_move (ev_base hN899 rfl s899_4) ?_
      refine op_add (ev_hit hN899 rfl) rfl (add64 (by omega)) ?_
      refine op_assign (ev_hit hN899 rfl) ?_
      refine reg_nil ?_
      -- round 9T 15T 26F 32T
      have hins := insT_at (x := l.getD i 0) (acc := (nrm (l.take i))) (j := jj) hlt (by omega) (by omega)
      exact loop_next _ hN899 hd899 ⟨i + 1, _, rfl, (sl_base hN899 rfl s899_0), (sl_base hN899 rfl s899_2), (sl_hit hN899 rfl).trans (congrArg (Value.int .i64) (by omega)), (sl_base hN899 rfl s899_3), (by omega), (nrm_len (by omega)), hb, (by omega), hl, (hC899.cast (by rw [take_nrm (by omega), hins.2 (.inl (by omega))]; simp; omega) (by rw [take_nrm (by omega), hins.2 (.inl (by omega))]; try simp [u16v]))⟩ (by omega)
    · -- 32F
     refine st_step rfl (fun _ h9 => op_cmp (b := false) (ev_hit hN851 rfl) (ev_hit hN851 rfl) (b_eql (decide_eq_false g32)) h9) ?_
     refine st_step rfl (fun _ h9 => op_move (ev_hit hN851 rfl) h9) ?_
     refine st_g_true (j := 4) (dj := 33) (b := false) rfl rfl rfl (ev_hit hN851 rfl) ?_
     refine st_step rfl (fun _ h9 => op_move (ev_base hN851 rfl s851_3) h9) ?_
     refine st_g_true (j := 4) (dj := 33) (b := false) rfl rfl rfl (ev_hit hN851 rfl) ?_
     refine st_step rfl (fun _ h9 => op_move (ev_base hN851 rfl s851_5) h9) ?_
     refine st_g_true (j := 4) (dj := 33) (b := false) rfl rfl rfl (ev_hit hN851 rfl) ?_
     refine st_index_rd slt23 (ev_hit hN851 rfl) hO845.rdw (ev_hit hN851 rfl) (by omega) (by omega) ?_
     intro b900 o901 h0b900 h1b900 hc902
     refine st_g_true (j := 4) (dj := 33) (b := false) rfl rfl rfl (ev_hit hN851 rfl) ?_
     refine st_step rfl (fun _ h9 => op_load1 (v := (Value.int .u16 (((nrm (l.take i)).getD jj 0).toNat : Int))) one35 (ev_hit hN851 rfl) (by have := hc902 0 (Value.int .u16 (((nrm (l.take i)).getD jj 0).toNat : Int)) (by decide) (el_u16 (i := jj) (by omega) (by omega)); simpa using this) h9) ?_
     refine st_g_true (j := 4) (dj := 33) (b := false) rfl rfl rfl (ev_hit hN851 rfl) ?_
     refine st_step rfl (fun _ h9 => op_move (ev_base hN851 rfl s851_0) h9) ?_
     refine st_g_true (j := 4) (dj := 33) (b := false) rfl rfl rfl (ev_hit hN851 rfl) ?_
     refine st_step rfl (fun _ h9 => op_move (ev_base hN851 rfl s851_4) h9) ?_
     refine st_g_true (j := 4) (dj := 33) (b := false) rfl rfl rfl (ev_hit hN851 rfl) ?_
     refine st_index_rd slt22 (ev_hit hN851 rfl) hl (ev_hit hN851 rfl) (by omega) (by omega) ?_
     intro b903 o904 h0b903 h1b903 hc905
     refine st_g_true (j := 4) (dj := 33) (b := false) rfl rfl rfl (ev_hit hN851 rfl) ?_
     refine st_step rfl (fun _ h9 => op_load1 (v := (Value.int .u16 ((l.getD i 0).toNat : Int))) one35 (ev_hit hN851 rfl) (by have := hc905 0 (Value.int .u16 ((l.getD i 0).toNat : Int)) (by decide) (el_u16 (i := i) (by omega) (by omega)); simpa using this) h9) ?_
     refine st_g_true (j := 4) (dj := 33) (b := false) rfl rfl rfl (ev_hit hN851 rfl) ?_
     refine st_step rfl (fun _ h9 => op_cmp (b := (decide ((((nrm (l.take i)).getD jj 0).toNat : Int) ≠ ((l.getD i 0).toNat : Int)))) (ev_hit hN851 rfl) (ev_hit hN851 rfl) (b_neq rfl) h9) ?_
     refine st_step rfl (fun _ h9 => op_pick_f (ev_hit hN851 rfl) (ev_hit hN851 rfl) h9) ?_
     refine st_nil ?_
     refine hK862 _ _ ?_
     refine wp_cond_split (ev_hit hN851 rfl) (fun c43 => ?_) (fun c43 => ?_)
     · -- 43T
      have c43 := of_decide_eq_true c43
      have hO845_s := hO845
      refine reg_chain (Φ := phiC [chP 0, (fun _ _ uz _ => uz = r), (fun _ _ uz _ => uz = (Value.int .i64 ((jj : Nat) : Int))), (fun _ vz uz w' => ∃ (v910 : Value), uz = v910 ∧ RdC w' w.heap.size w864.heap.size 1 v910 jj ((((nrm (l.take i)).take jj)).map u16v) ∧ (w864.heap.size ≤ w'.heap.size ∧ ∀ k, vz.ownBlock = some k → w864.heap.size ≤ k)), chP 1, (fun _ _ uz _ => uz = v), (fun _ _ uz _ => uz = (Value.int .i64 ((i : Nat) : Int))), (fun _ vz uz w' => ∃ (b919 : (Nat)) (o920 : (Nat)), uz = (ptr b919 o920) ∧ PtC w' 0 w.heap.size b919 o920 [(Value.int .u16 ((l.getD i 0).toNat : Int))] ∧ (w.heap.size ≤ w'.heap.size ∧ ∀ k, vz.ownBlock = some k → w.heap.size ≤ k)), (fun _ _ uz _ => uz = (Value.int .u16 ((l.getD i 0).toNat : Int))), (fun _ vz uz w' => ∃ (b924 : Nat), uz = (Value.slice (some ⟨b924, 0, none⟩) 1 1) ∧ w864.heap.size ≤ b924 ∧ Bx w' b924 35 [(Value.int .u16 ((l.getD i 0).toNat : Int))] ∧ vz.ownBlock ≠ some b924), chP 2, (fun _ _ uz _ => uz = r), (fun _ _ uz _ => uz = (Value.int .i64 ((jj : Nat) : Int))), (fun _ vz uz w' => ∃ (v934 : Value), uz = v934 ∧ RdC w' w.heap.size w864.heap.size 1 v934 ((nrm (l.take i)).length - jj) ((((nrm (l.take i)).drop jj)).map u16v) ∧ (w864.heap.size ≤ w'.heap.size ∧ ∀ k, vz.ownBlock = some k → w864.heap.size ≤ k)), chP 3, chP 3]) (C := CL [(fun vz w' => Own w' w.heap.size 35 1 vz 0 ([])), (fun vz w' => Own w' w.heap.size 35 1 vz 0 ([])), (fun vz w' => Own w' w.heap.size 35 1 vz (0 + jj) ((((nrm (l.take i)).take jj)).map u16v)), (fun vz w' => Own w' w.heap.size 35 1 vz ((0 + jj) + 1) (((((nrm (l.take i)).take jj) ++ [(l.getD i 0)])).map u16v)), (fun vz w' => Own w' w.heap.size 35 1 vz (((0 + jj) + 1) + ((nrm (l.take i)).length - jj)) ((((((nrm (l.take i)).take jj) ++ [(l.getD i 0)]) ++ ((nrm (l.take i)).drop jj))).map u16v))]) ⟨[0, 4, 10, 14], fun c => [60, 44, 48, 54, 58].getD c 60⟩ (Value.slice none 0 0) mixed (by kernel_rfl) (by kernel_rfl) (by kernel_rfl) (by kernel_rfl) hN851 (StK.get0 (n := 4) (StK.ch (StK.eq (StK.eq (StK.cons (fun c v u w1 w2 E h => by obtain ⟨x0, hv, f0, q0⟩ := h; exact ⟨x0, hv, f0.keep0 E, ⟨Nat.le_trans q0.1 E.size, q0.2⟩⟩) (fun c v v' u w1 w2 _ E h => by obtain ⟨x0, hv, f0, q0⟩ := h; exact ⟨x0, hv, f0.keep E.1 (fun k hk => .inr (q0.2 k hk)), ⟨Nat.le_trans q0.1 E.1.size, ge_step E q0.1 q0.2⟩⟩) (StK.ch (StK.eq (StK.eq (StK.cons (fun c v u w1 w2 E h => by obtain ⟨x0, x1, hv, f0, q0⟩ := h; exact ⟨x0, x1, hv, f0.keep0 E, ⟨Nat.le_trans q0.1 E.size, q0.2⟩⟩) (fun c v v' u w1 w2 _ E h => by obtain ⟨x0, x1, hv, f0, q0⟩ := h; exact ⟨x0, x1, hv, f0.keep E.1 (fun k hk => .inr (q0.2 k hk)), ⟨Nat.le_trans q0.1 E.1.size, ge_step E q0.1 q0.2⟩⟩) (StK.eq (StK.cons (fun c v u w1 w2 E h => by obtain ⟨x0, hv, l0, f0, q0⟩ := h; exact ⟨x0, hv, l0, f0.keep0 E, q0⟩) (fun c v v' u w1 w2 _ E h => by obtain ⟨x0, hv, l0, f0, q0⟩ := h; exact ⟨x0, hv, l0, f0.keep E.1 (fun hh => q0 hh.symm), ne_step E f0.lt q0⟩) (StK.ch (StK.eq (StK.eq (StK.cons (fun c v u w1 w2 E h => by obtain ⟨x0, hv, f0, q0⟩ := h; exact ⟨x0, hv, f0.keep0 E, ⟨Nat.le_trans q0.1 E.size, q0.2⟩⟩) (fun c v v' u w1 w2 _ E h => by obtain ⟨x0, hv, f0, q0⟩ := h; exact ⟨x0, hv, f0.keep E.1 (fun k hk => .inr (q0.2 k hk)), ⟨Nat.le_trans q0.1 E.1.size, ge_step E q0.1 q0.2⟩⟩) (StK.ch (StK.ch (StK.nil)))))))))))))))))) (StK.get1 (n := 4) (StK.ch (StK.eq (StK.eq (StK.cons (fun c v u w1 w2 E h => by obtain ⟨x0, hv, f0, q0⟩ := h; exact ⟨x0, hv, f0.keep0 E, ⟨Nat.le_trans q0.1 E.size, q0.2⟩⟩) (fun c v v' u w1 w2 _ E h => by obtain ⟨x0, hv, f0, q0⟩ := h; exact ⟨x0, hv, f0.keep E.1 (fun k hk => .inr (q0.2 k hk)), ⟨Nat.le_trans q0.1 E.1.size, ge_step E q0.1 q0.2⟩⟩) (StK.ch (StK.eq (StK.eq (StK.cons (fun c v u w1 w2 E h => by obtain ⟨x0, x1, hv, f0, q0⟩ := h; exact ⟨x0, x1, hv, f0.keep0 E, ⟨Nat.le_trans q0.1 E.size, q0.2⟩⟩) (fun c v v' u w1 w2 _ E h => by obtain ⟨x0, x1, hv, f0, q0⟩ := h; exact ⟨x0, x1, hv, f0.keep E.1 (fun k hk => .inr (q0.2 k hk)), ⟨Nat.le_trans q0.1 E.1.size, ge_step E q0.1 q0.2⟩⟩) (StK.eq (StK.cons (fun c v u w1 w2 E h => by obtain ⟨x0, hv, l0, f0, q0⟩ := h; exact ⟨x0, hv, l0, f0.keep0 E, q0⟩) (fun c v v' u w1 w2 _ E h => by obtain ⟨x0, hv, l0, f0, q0⟩ := h; exact ⟨x0, hv, l0, f0.keep E.1 (fun hh => q0 hh.symm), ne_step E f0.lt q0⟩) (StK.ch (StK.eq (StK.eq (StK.cons (fun c v u w1 w2 E h => by obtain ⟨x0, hv, f0, q0⟩ := h; exact ⟨x0, hv, f0.keep0 E, ⟨Nat.le_trans q0.1 E.size, q0.2⟩⟩) (fun c v v' u w1 w2 _ E h => by obtain ⟨x0, hv, f0, q0⟩ := h; exact ⟨x0, hv, f0.keep E.1 (fun k hk => .inr (q0.2 k hk)), ⟨Nat.le_trans q0.1 E.1.size, ge_step E q0.1 q0.2⟩⟩) (StK.ch (StK.ch (StK.nil)))))))))))))))))) (StL2.get0 (StL2.own (StL2.own (StL2.own (StL2.own (StL2.own (StL2.nil))))))) (StL2.get1 (StL2.own (StL2.own (StL2.own (StL2.own (StL2.own (StL2.nil))))))) (Own.nil w864 w.heap.size 35 1) (ObLn.get (ObLn.pass rfl (ObLn.cons ?_ (ObLn.cons ?_ (ObLn.cons ?_ (ObLn.pass rfl (ObLn.cons ?_ (ObLn.cons ?_ (ObLn.cons ?_ (ObLn.cons ?_ (ObLn.cons ?_ (ObLn.pass rfl (ObLn.cons ?_ (ObLn.cons ?_ (ObLn.cons ?_ (ObLn.pass rfl (ObLn.cons ?_ (ObLn.nil)))))))))))))))))) (ObLc.get (ObLc.cons ?_ (ObLc.cons ?_ (ObLc.cons ?_ (ObLc.cons ?_ (ObLc.nil)))))) ?_
      ·
       intro aA wA ccA cvA hNA hclA hRA hltA hvoA hbsA hdpA
       have qA_3 := (hbsA 3 (by kernel_rfl)).trans (sl_base hN851 rfl s851_3)
       refine op_move (ev_base hNA rfl qA_3) ?_
       exact obNc_end rfl rfl (grown_refl _ _)
      ·
       intro aA wA ccA cvA hNA hclA hRA hltA hvoA hbsA hdpA
       have qA_5 := (hbsA 5 rfl).trans (sl_base hN851 rfl s851_5)
       refine op_move (ev_base hNA rfl qA_5) ?_
       exact obNc_end rfl rfl (grown_refl _ _)
      ·
       intro aA wA ccA cvA hNA hclA hRA hltA hvoA hbsA hdpA
       have hRA : w864.grownBy wA (Value.slice none 0 0).ownBlock := hRA
       have hnil_o := (Own.nil w864 w.heap.size 35 1)
       have z_wA := hRA.size
       have hb := below_stepO hb (Own.nil w864 w.heap.size 35 1) hRA hb.size (by omega)
       have hl := hl.keep0 hRA
       have hO845 := hO845.keep0 hRA
       have qA_45 : Sl aA 45 r := hdpA 1 _ 45 (by kernel_rfl) rfl rfl
       have qA_46 : Sl aA 46 (Value.int .i64 ((jj : Nat) : Int)) := hdpA 2 _ 46 (by kernel_rfl) rfl rfl
       clear hbsA hdpA
       refine op_slice_rd (lo := 0) (hi := jj) slt23 (ev_base hNA rfl qA_45) (Own.rdB hO845 hO845_s) (.inl ⟨rfl, rfl⟩) (.inr ⟨_, _, rfl, (ev_base hNA rfl qA_46)⟩) (by omega) (by omega) ?_
       intro v906 hR907
       have hR907 : RdC wA w.heap.size w864.heap.size 1 v906 jj ((((nrm (l.take i)).take jj)).map u16v) := by simpa [List.map_drop, List.map_take] using hR907
       exact obNc_end rfl ⟨v906, rfl, hR907, ⟨by omega, ge_of hvoA (fun k hk => by simp [Value.ownBlock] at hk) (by omega)⟩⟩ (grown_refl _ _)
      ·
       intro aA wA ccA cvA hNA hclA hRA hltA hvoA hbsA hdpA
       have qA_0 := (hbsA 0 rfl).trans (sl_base hN851 rfl s851_0)
       refine op_move (ev_base hNA rfl qA_0) ?_
       exact obNc_end rfl rfl (grown_refl _ _)
      ·
       intro aA wA ccA cvA hNA hclA hRA hltA hvoA hbsA hdpA
       have qA_4 := (hbsA 4 rfl).trans (sl_base hN851 rfl s851_4)
       refine op_move (ev_base hNA rfl qA_4) ?_
       exact obNc_end rfl rfl (grown_refl _ _)
      ·
       intro aA wA ccA cvA hNA hclA hRA hltA hvoA hbsA hdpA
       have hRA : w864.grownBy wA (Value.slice none 0 0).ownBlock := hRA
       have hnil_o := (Own.nil w864 w.heap.size 35 1)
       have z_wA := hRA.size
       have hb := below_stepO hb (Own.nil w864 w.heap.size 35 1) hRA hb.size (by omega)
       have hl := hl.keep0 hRA
       have hO845 := hO845.keep0 hRA
       have qA_49 : Sl aA 49 v := hdpA 5 _ 49 (by kernel_rfl) rfl rfl
       have qA_50 : Sl aA 50 (Value.int .i64 ((i : Nat) : Int)) := hdpA 6 _ 50 (by kernel_rfl) rfl rfl
       clear hbsA hdpA
       refine op_index_rd slt22 (ev_base hNA rfl qA_49) hl (ev_base hNA rfl qA_50) (by omega) (by omega) ?_
       intro b908 o909 h0b908 h1b908 hc910
       have hp911 : PtC wA 0 w.heap.size b908 o909 [(Value.int .u16 ((l.getD i 0).toNat : Int))] := ⟨by omega, by omega, fun j u hu => hc910 j u (by have := (List.getElem?_eq_some_iff.1 hu).1; simpa using this) ((fun j u hu => one_at (el_u16 (i := i) (by omega) (by omega)) hu) j u hu)⟩
       exact obNc_end rfl ⟨b908, o909, rfl, hp911, ⟨by omega, ge_of hvoA (fun k hk => by simp [Value.ownBlock] at hk) (by omega)⟩⟩ (grown_refl _ _)
      ·
       intro aA wA ccA cvA hNA hclA hRA hltA hvoA hbsA hdpA
       have hRA : w864.grownBy wA (Value.slice none 0 0).ownBlock := hRA
       have hnil_o := (Own.nil w864 w.heap.size 35 1)
       have z_wA := hRA.size
       have hb := below_stepO hb (Own.nil w864 w.heap.size 35 1) hRA hb.size (by omega)
       have hl := hl.keep0 hRA
       have hO845 := hO845.keep0 hRA
       obtain ⟨b919, o920, qA_51, hp922, xqA_51_0⟩ := hdpA 7 _ 51 (by kernel_rfl) rfl rfl
       have hp922 : PtC wA 0 w.heap.size b919 o920 [(Value.int .u16 ((l.getD i 0).toNat : Int))] := hp922
       clear hbsA hdpA
       refine op_load1 (v := (Value.int .u16 ((l.getD i 0).toNat : Int))) one35 (ev_base hNA rfl qA_51) (hp922.2.2 0 _ rfl) ?_
       exact obNc_end rfl rfl (grown_refl _ _)
      ·
       intro aA wA ccA cvA hNA hclA hRA hltA hvoA hbsA hdpA
       have hRA : w864.grownBy wA (Value.slice none 0 0).ownBlock := hRA
       have hnil_o := (Own.nil w864 w.heap.size 35 1)
       have z_wA := hRA.size
       have hb := below_stepO hb (Own.nil w864 w.heap.size 35 1) hRA hb.size (by omega)
       have hl := hl.keep0 hRA
       have hO845 := hO845.keep0 hRA
       have qA_52 : Sl aA 52 (Value.int .u16 ((l.getD i 0).toNat : Int)) := hdpA 8 _ 52 (by kernel_rfl) rfl rfl
       clear hbsA hdpA
       refine op_bslice (e := 35) (pv := [(0, (Value.int .u16 ((l.getD i 0).toNat : Int)))]) (cs := [(Value.int .u16 ((l.getD i 0).toNat : Int))]) ⟨rfl, (ev_base hNA rfl qA_52), trivial⟩ (by kernel_rfl) ?_
       intro w912 b913 lo_b913 hi_b913 hB915 E914
       have ne_b913_r : r.ownBlock ≠ some b913 := fun hh => by have := (hO845.lt _ hh).2; omega
       have z_w912 := E914.size
       have hl := hl.keep0 E914
       have hO845 := hO845.keep0 E914
       have hb := below_step0 hb E914 hb.size
       exact obNc_end rfl ⟨b913, rfl, (by omega), hB915, (fun hh => by have := hltA _ hh; omega)⟩ (E914)
      ·
       intro aA wA ccA cvA hNA hclA hRA hltA hvoA hbsA hdpA
       have qA_3 := (hbsA 3 (by kernel_rfl)).trans (sl_base hN851 rfl s851_3)
       refine op_move (ev_base hNA rfl qA_3) ?_
       exact obNc_end rfl rfl (grown_refl _ _)
      ·
       intro aA wA ccA cvA hNA hclA hRA hltA hvoA hbsA hdpA
       have qA_5 := (hbsA 5 rfl).trans (sl_base hN851 rfl s851_5)
       refine op_move (ev_base hNA rfl qA_5) ?_
       exact obNc_end rfl rfl (grown_refl _ _)
      ·
       intro aA wA ccA cvA hNA hclA hRA hltA hvoA hbsA hdpA
       have hRA : w864.grownBy wA (Value.slice none 0 0).ownBlock := hRA
       have hnil_o := (Own.nil w864 w.heap.size 35 1)
       have z_wA := hRA.size
       have hb := below_stepO hb (Own.nil w864 w.heap.size 35 1) hRA hb.size (by omega)
       have hl := hl.keep0 hRA
       have hO845 := hO845.keep0 hRA
       have qA_55 : Sl aA 55 r := hdpA 11 _ 55 (by kernel_rfl) rfl rfl
       have qA_56 : Sl aA 56 (Value.int .i64 ((jj : Nat) : Int)) := hdpA 12 _ 56 (by kernel_rfl) rfl rfl
       clear hbsA hdpA
       refine op_slice_rd (lo := jj) (hi := (nrm (l.take i)).length) slt23 (ev_base hNA rfl qA_55) (Own.rdB hO845 hO845_s) (.inr ⟨_, _, rfl, (ev_base hNA rfl qA_56)⟩) (.inl ⟨rfl, rfl⟩) (by omega) (by omega) ?_
       intro v916 hR917
       have hR917 : RdC wA w.heap.size w864.heap.size 1 v916 ((nrm (l.take i)).length - jj) ((((nrm (l.take i)).drop jj)).map u16v) := by simpa [List.map_drop, List.map_take, List.take_of_length_le] using hR917
       exact obNc_end rfl ⟨v916, rfl, hR917, ⟨by omega, ge_of hvoA (fun k hk => by simp [Value.ownBlock] at hk) (by omega)⟩⟩ (grown_refl _ _)
      ·
       intro aA wA ccA cvA hNA hclA hRA hltA hvoA hbsA hdpA
       have hchA : chP 3 ccA cvA (aA.tmps.getD 58 undef) wA := hdpA 14 _ 58 (by kernel_rfl) rfl rfl
       have hccA : ccA = 4 := Nat.le_antisymm hclA hchA.1
       have qA_58 := hchA.2 hccA
       refine op_assign (ev_base hNA rfl qA_58) ?_
       exact obNc_end rfl ⟨by omega, fun _ => rfl⟩ (grown_refl _ _)
      ·
       intro o_ ho_; obtain rfl := Option.some.inj ho_; intro aA wA cvA hNA hRA hcv0A hbsA hdpA hCA
       have hRA : w864.grownBy wA (Value.slice none 0 0).ownBlock := hRA
       have hnil_o := (Own.nil w864 w.heap.size 35 1)
       have z_wA := hRA.size
       have hb := below_stepO hb (Own.nil w864 w.heap.size 35 1) hRA hb.size (by omega)
       have hl := hl.keep0 hRA
       have hO845 := hO845.keep0 hRA
       have hcvA : (Value.slice none 0 0) = cvA := (hcv0A rfl).symm
       subst hcvA
       have hCA : Own wA w.heap.size 35 1 (Value.slice none 0 0) 0 ([]) := hCA
       clear hbsA hdpA
       refine op_bslice (e := 35) (pv := []) (cs := []) trivial (by kernel_rfl) ?_
       intro w918 b919 lo_b919 hi_b919 hB921 E920
       have ne_b919_r : r.ownBlock ≠ some b919 := fun hh => by have := (hO845.lt _ hh).2; omega
       have z_w918 := E920.size
       have hl := hl.keep0 E920
       have hO845 := hO845.keep0 E920
       have hCA := hCA.keep0 E920
       have hb := below_step0 hb E920 hb.size
       exact obCc_end rfl rfl (chP_now (w := w918)) (Own.ofBx (base := w.heap.size) (sz := 1) (n := 0) hB921 rfl (by decide) (by omega)) ⟨E920, .inr (fun k hk => by simp [Value.ownBlock] at hk; omega)⟩
      ·
       intro o_ ho_; obtain rfl := Option.some.inj ho_; intro aA wA cvA hNA hRA hcv0A hbsA hdpA hCA
       have hRA : w864.grownBy wA (Value.slice none 0 0).ownBlock := hRA
       have hnil_o := (Own.nil w864 w.heap.size 35 1)
       have z_wA := hRA.size
       have hb := below_stepO hb (Own.nil w864 w.heap.size 35 1) hRA hb.size (by omega)
       have hl := hl.keep0 hRA
       have hO845 := hO845.keep0 hRA
       have hCA : Own wA w.heap.size 35 1 cvA 0 ([]) := hCA
       have qA_44 : aA.tmps.getD 44 undef = cvA := (show chP 0 1 cvA (aA.tmps.getD 44 undef) wA from hdpA 0 _ 44 (by kernel_rfl) rfl rfl).2 rfl
       obtain ⟨v910, qA_47, hR911, xqA_47_0⟩ := hdpA 3 _ 47 (by kernel_rfl) rfl rfl
       have hR911 : RdC wA w.heap.size w864.heap.size 1 v910 jj ((((nrm (l.take i)).take jj)).map u16v) := hR911
       clear hbsA hdpA
       have hP927 := hCA
       refine op_append slt23 (ev_base hNA rfl qA_44) hP927 (ev_base hNA rfl qA_47) (Src.ofRd Try.underlying23 (by decide) hR911 (one_u16 _)) (by unfold maxLen; omega) (by omega) hb.size ?_
       intro v922 w923 hO925 E924 hm926
       have z_w923 := E924.size
       have hl := hl.keepO hP927 E924 (by omega)
       have hR911 := hR911.keep E924 (fun k hk => .inr (xqA_47_0.2 k hk))
       have hb := below_stepO hb hP927 E924 hb.size (by omega)
       have hO925 : Own w923 w.heap.size 35 1 v922 (0 + jj) ((((nrm (l.take i)).take jj)).map u16v) := by simpa [u8v, u16v, cellsV] using hO925
       exact obCc_end rfl rfl (chP_now (w := w923)) hO925 ⟨E924, hm926⟩
      ·
       intro o_ ho_; obtain rfl := Option.some.inj ho_; intro aA wA cvA hNA hRA hcv0A hbsA hdpA hCA
       have hRA : w864.grownBy wA (Value.slice none 0 0).ownBlock := hRA
       have hnil_o := (Own.nil w864 w.heap.size 35 1)
       have z_wA := hRA.size
       have hb := below_stepO hb (Own.nil w864 w.heap.size 35 1) hRA hb.size (by omega)
       have hl := hl.keep0 hRA
       have hO845 := hO845.keep0 hRA
       have hCA : Own wA w.heap.size 35 1 cvA (0 + jj) ((((nrm (l.take i)).take jj)).map u16v) := hCA
       have qA_48 : aA.tmps.getD 48 undef = cvA := (show chP 1 2 cvA (aA.tmps.getD 48 undef) wA from hdpA 4 _ 48 (by kernel_rfl) rfl rfl).2 rfl
       obtain ⟨b924, qA_53, loA_0, hB926, xqA_53_0⟩ := hdpA 9 _ 53 (by kernel_rfl) rfl rfl
       have hB926 : Bx wA b924 35 [(Value.int .u16 ((l.getD i 0).toNat : Int))] := hB926
       clear hbsA hdpA
       have hP933 := hCA
       refine op_append slt23 (ev_base hNA rfl qA_48) hP933 (ev_base hNA rfl qA_53) (Src.ofRd Try.underlying23 (by decide) (RdC.ofBx (sz := 1) (n := 1) hB926 rfl (by decide)) (by simp [Value.oneCell', u8v])) (by unfold maxLen; omega) (by omega) hb.size ?_
       intro v928 w929 hO931 E930 hm932
       have z_w929 := E930.size
       have hl := hl.keepO hP933 E930 (by omega)
       have hB926 := hB926.keep E930 (fun hh => xqA_53_0 hh.symm)
       have hb := below_stepO hb hP933 E930 hb.size (by omega)
       have hO931 : Own w929 w.heap.size 35 1 v928 ((0 + jj) + 1) (((((nrm (l.take i)).take jj) ++ [(l.getD i 0)])).map u16v) := by simpa [u8v, u16v, cellsV] using hO931
       exact obCc_end rfl rfl (chP_now (w := w929)) hO931 ⟨E930, hm932⟩
      ·
       intro o_ ho_; obtain rfl := Option.some.inj ho_; intro aA wA cvA hNA hRA hcv0A hbsA hdpA hCA
       have hRA : w864.grownBy wA (Value.slice none 0 0).ownBlock := hRA
       have hnil_o := (Own.nil w864 w.heap.size 35 1)
       have z_wA := hRA.size
       have hb := below_stepO hb (Own.nil w864 w.heap.size 35 1) hRA hb.size (by omega)
       have hl := hl.keep0 hRA
       have hO845 := hO845.keep0 hRA
       have hCA : Own wA w.heap.size 35 1 cvA ((0 + jj) + 1) (((((nrm (l.take i)).take jj) ++ [(l.getD i 0)])).map u16v) := hCA
       have qA_54 : aA.tmps.getD 54 undef = cvA := (show chP 2 3 cvA (aA.tmps.getD 54 undef) wA from hdpA 10 _ 54 (by kernel_rfl) rfl rfl).2 rfl
       obtain ⟨v934, qA_57, hR935, xqA_57_0⟩ := hdpA 13 _ 57 (by kernel_rfl) rfl rfl
       have hR935 : RdC wA w.heap.size w864.heap.size 1 v934 ((nrm (l.take i)).length - jj) ((((nrm (l.take i)).drop jj)).map u16v) := hR935
       clear hbsA hdpA
       have hP939 := hCA
       refine op_append slt23 (ev_base hNA rfl qA_54) hP939 (ev_base hNA rfl qA_57) (Src.ofRd Try.underlying23 (by decide) hR935 (one_u16 _)) (by unfold maxLen; omega) (by omega) hb.size ?_
       intro v934 w935 hO937 E936 hm938
       have z_w935 := E936.size
       have hl := hl.keepO hP939 E936 (by omega)
       have hR935 := hR935.keep E936 (fun k hk => .inr (xqA_57_0.2 k hk))
       have hb := below_stepO hb hP939 E936 hb.size (by omega)
       have hO937 : Own w935 w.heap.size 35 1 v934 (((0 + jj) + 1) + ((nrm (l.take i)).length - jj)) ((((((nrm (l.take i)).take jj) ++ [(l.getD i 0)]) ++ ((nrm (l.take i)).drop jj))).map u16v) := by simpa [u8v, u16v, cellsV] using hO937
       exact obCc_end rfl rfl (chP_now (w := w935)) hO937 ⟨E936, hm938⟩
      ·
       intro a940 w940 v936 hN940 hd940 hbs940 hph940 hC940 E940 hm940
       have hd940 := hd940.trans hd851
       have s940_0 := (hbs940 0 rfl).trans (sl_base hN851 rfl s851_0)
       have s940_2 := (hbs940 2 rfl).trans (sl_base hN851 rfl s851_2)
       have s940_3 : a940.tmps.getD 3 undef = v936 := (show chP 3 4 v936 (a940.tmps.getD 3 undef) w940 from hph940 15 _ 3 rfl rfl).2 rfl
       have s940_4 := (hbs940 4 rfl).trans (sl_base hN851 rfl s851_4)
       clear hbs940 hph940
       have E940 : w864.grownBy w940 (Value.slice none 0 0).ownBlock := E940
       have hC940 : Own w940 w.heap.size 35 1 v936 (((0 + jj) + 1) + ((nrm (l.take i)).length - jj)) ((((((nrm (l.take i)).take jj) ++ [(l.getD i 0)]) ++ ((nrm (l.take i)).drop jj))).map u16v) := hC940
       have z_w940 := E940.size
       have hl := hl.keepO (Own.nil w864 w.heap.size 35 1) E940 (by omega)
       have hb := below_stepO hb (Own.nil w864 w.heap.size 35 1) E940 hb.size (by omega)
       refine hK848 _ _ ?_
       refine one_reg ?_
       refine op_move (ev_base hN940 rfl s940_4) ?_
       refine op_add (ev_hit hN940 rfl) rfl (add64 (by omega)) ?_
       refine op_assign (ev_hit hN940 rfl) ?_
       refine reg_nil ?_
       -- round 9T 15T 26F 32F 43T
       have hins := insT_at (x := l.getD i 0) (acc := (nrm (l.take i))) (j := jj) hlt (by omega) (by omega)
       exact loop_next _ hN940 hd940 ⟨i + 1, _, rfl, (sl_base hN940 rfl s940_0), (sl_base hN940 rfl s940_2), (sl_hit hN940 rfl).trans (congrArg (Value.int .i64) (by omega)), (sl_base hN940 rfl s940_3), (by omega), (nrm_len (by omega)), hb, (by omega), hl, (hC940.cast (by rw [take_nrm (by omega), hins.2 (.inr (fun e => c43 (by rw [e])))]; simp; omega) (by rw [take_nrm (by omega), hins.2 (.inr (fun e => c43 (by rw [e])))]; try simp [u16v]))⟩ (by omega)
     · -- 43F
      have c43 := of_decide_eq_false c43
      refine wp_skip ?_
      refine hK848 _ _ ?_
      refine one_reg ?_
      refine op_move (ev_base hN851 rfl s851_4) ?_
      refine op_add (ev_hit hN851 rfl) rfl (add64 (by omega)) ?_
      refine op_assign (ev_hit hN851 rfl) ?_
      refine reg_nil ?_
      -- round 9T 15T 26F 32F 43F
      have hins := insT_at (x := l.getD i 0) (acc := (nrm (l.take i))) (j := jj) hlt (by omega) (by omega)
      exact loop_next _ hN851 hd851 ⟨i + 1, _, rfl, (sl_base hN851 rfl s851_0), (sl_base hN851 rfl s851_2), (sl_hit hN851 rfl).trans (congrArg (Value.int .i64) (by omega)), (sl_base hN851 rfl s851_3), (by omega), (nrm_len (by omega)), hb, (by omega), hl, (hO845.cast (by rw [take_nrm (by omega), hins.1 ⟨by omega, u16_eq (by omega)⟩]) (by rw [take_nrm (by omega), hins.1 ⟨by omega, u16_eq (by omega)⟩]))⟩ (by omega)
  · -- 15F
   refine st_step rfl (fun _ h9 => op_cmp (b := false) (ev_hit hN851 rfl) (ev_hit hN851 rfl) (b_lss (decide_eq_false g15)) h9) ?_
   refine st_step rfl (fun _ h9 => op_move (ev_hit hN851 rfl) h9) ?_
   refine st_g_false (j := 4) (dj := 16) (b := true) rfl rfl rfl (ev_hit hN851 rfl) rfl rfl ?_
   refine st_g_false (j := 4) (dj := 16) (b := true) rfl rfl rfl (ev_hit hN851 rfl) rfl rfl ?_
   refine st_g_false (j := 4) (dj := 16) (b := true) rfl rfl rfl (ev_hit hN851 rfl) rfl rfl ?_
   refine st_g_false (j := 4) (dj := 16) (b := true) rfl rfl rfl (ev_hit hN851 rfl) rfl rfl ?_
   refine st_g_false (j := 4) (dj := 16) (b := true) rfl rfl rfl (ev_hit hN851 rfl) rfl rfl ?_
   refine st_g_false (j := 4) (dj := 16) (b := true) rfl rfl rfl (ev_hit hN851 rfl) rfl rfl ?_
   refine st_g_false (j := 4) (dj := 16) (b := true) rfl rfl rfl (ev_hit hN851 rfl) rfl rfl ?_
   refine st_g_false (j := 4) (dj := 16) (b := true) rfl rfl rfl (ev_hit hN851 rfl) rfl rfl ?_
   refine st_g_false (j := 4) (dj := 16) (b := true) rfl rfl rfl (ev_hit hN851 rfl) rfl rfl ?_
   refine st_step rfl (fun _ h9 => op_pick_f (ev_hit hN851 rfl) rfl h9) ?_
   refine st_nil ?_
   refine hK853 _ _ ?_
   refine wp_cond_false (ev_hit hN851 rfl) ?_
   refine wp_exit (then_exit (then_exit (blk_hit ?_)))
   refine hK850 _ _ ?_
   refine seq_any fun K941 hK941 => ?_
   refine reg_still mixed (by kernel_rfl) ?_
   intro w943 E942
   have z_w943 := E942.size
   have hl := hl.keep0 E942
   have hO845 := hO845.keep0 E942
   have hb := below_step0 hb E942 hb.size
   refine st_step rfl (fun _ h9 => op_move (ev_base hN851 rfl s851_5) h9) ?_
   refine st_step rfl (fun _ h9 => op_move (ev_base hN851 rfl s851_3) h9) ?_
   refine st_step rfl (fun _ h9 => op_len_rd Try.underlying23 (ev_hit hN851 rfl) hO845.rdw h9) ?_
   by_cases g32 : ((jj : Nat) : Int) = (((nrm (l.take i)).length : Nat) : Int)
   · -- 32T
    refine st_step rfl (fun _ h9 => op_cmp (b := true) (ev_hit hN851 rfl) (ev_hit hN851 rfl) (b_eql (decide_eq_true g32)) h9) ?_
    refine st_step rfl (fun _ h9 => op_move (ev_hit hN851 rfl) h9) ?_
    refine st_g_false (j := 4) (dj := 33) (b := false) rfl rfl rfl (ev_hit hN851 rfl) rfl rfl ?_
    refine st_g_false (j := 4) (dj := 33) (b := false) rfl rfl rfl (ev_hit hN851 rfl) rfl rfl ?_
    refine st_g_false (j := 4) (dj := 33) (b := false) rfl rfl rfl (ev_hit hN851 rfl) rfl rfl ?_
    refine st_g_false (j := 4) (dj := 33) (b := false) rfl rfl rfl (ev_hit hN851 rfl) rfl rfl ?_
    refine st_g_false (j := 4) (dj := 33) (b := false) rfl rfl rfl (ev_hit hN851 rfl) rfl rfl ?_
    refine st_g_false (j := 4) (dj := 33) (b := false) rfl rfl rfl (ev_hit hN851 rfl) rfl rfl ?_
    refine st_g_false (j := 4) (dj := 33) (b := false) rfl rfl rfl (ev_hit hN851 rfl) rfl rfl ?_
    refine st_g_false (j := 4) (dj := 33) (b := false) rfl rfl rfl (ev_hit hN851 rfl) rfl rfl ?_
    refine st_g_false (j := 4) (dj := 33) (b := false) rfl rfl rfl (ev_hit hN851 rfl) rfl rfl ?_
    refine st_step rfl (fun _ h9 => op_pick_t (ev_hit hN851 rfl) rfl h9) ?_
    refine st_nil ?_
    refine hK941 _ _ ?_
    refine wp_cond_true (ev_hit hN851 rfl) ?_
    have hO845_s := hO845
    refine reg_chain (Φ := phiC [chP 0, (fun _ _ uz _ => uz = r), (fun _ _ uz _ => uz = (Value.int .i64 ((jj : Nat) : Int))), (fun _ vz uz w' => ∃ (v948 : Value), uz = v948 ∧ RdC w' w.heap.size w943.heap.size 1 v948 jj ((((nrm (l.take i)).take jj)).map u16v) ∧ (w943.heap.size ≤ w'.heap.size ∧ ∀ k, vz.ownBlock = some k → w943.heap.size ≤ k)), chP 1, (fun _ _ uz _ => uz = v), (fun _ _ uz _ => uz = (Value.int .i64 ((i : Nat) : Int))), (fun _ vz uz w' => ∃ (b957 : (Nat)) (o958 : (Nat)), uz = (ptr b957 o958) ∧ PtC w' 0 w.heap.size b957 o958 [(Value.int .u16 ((l.getD i 0).toNat : Int))] ∧ (w.heap.size ≤ w'.heap.size ∧ ∀ k, vz.ownBlock = some k → w.heap.size ≤ k)), (fun _ _ uz _ => uz = (Value.int .u16 ((l.getD i 0).toNat : Int))), (fun _ vz uz w' => ∃ (b962 : Nat), uz = (Value.slice (some ⟨b962, 0, none⟩) 1 1) ∧ w943.heap.size ≤ b962 ∧ Bx w' b962 35 [(Value.int .u16 ((l.getD i 0).toNat : Int))] ∧ vz.ownBlock ≠ some b962), chP 2, (fun _ _ uz _ => uz = r), (fun _ _ uz _ => uz = (Value.int .i64 ((jj : Nat) : Int))), (fun _ vz uz w' => ∃ (v972 : Value), uz = v972 ∧ RdC w' w.heap.size w943.heap.size 1 v972 ((nrm (l.take i)).length - jj) ((((nrm (l.take i)).drop jj)).map u16v) ∧ (w943.heap.size ≤ w'.heap.size ∧ ∀ k, vz.ownBlock = some k → w943.heap.size ≤ k)), chP 3, chP 3]) (C := CL [(fun vz w' => Own w' w.heap.size 35 1 vz 0 ([])), (fun vz w' => Own w' w.heap.size 35 1 vz 0 ([])), (fun vz w' => Own w' w.heap.size 35 1 vz (0 + jj) ((((nrm (l.take i)).take jj)).map u16v)), (fun vz w' => Own w' w.heap.size 35 1 vz ((0 + jj) + 1) (((((nrm (l.take i)).take jj) ++ [(l.getD i 0)])).map u16v)), (fun vz w' => Own w' w.heap.size 35 1 vz (((0 + jj) + 1) + ((nrm (l.take i)).length - jj)) ((((((nrm (l.take i)).take jj) ++ [(l.getD i 0)]) ++ ((nrm (l.take i)).drop jj))).map u16v))]) ⟨[0, 4, 10, 14], fun c => [60, 44, 48, 54, 58].getD c 60⟩ (Value.slice none 0 0) mixed (by kernel_rfl) (by kernel_rfl) (by kernel_rfl) (by kernel_rfl) hN851 (StK.get0 (n := 4) (StK.ch (StK.eq (StK.eq (StK.cons (fun c v u w1 w2 E h => by obtain ⟨x0, hv, f0, q0⟩ := h; exact ⟨x0, hv, f0.keep0 E, ⟨Nat.le_trans q0.1 E.size, q0.2⟩⟩) (fun c v v' u w1 w2 _ E h => by obtain ⟨x0, hv, f0, q0⟩ := h; exact ⟨x0, hv, f0.keep E.1 (fun k hk => .inr (q0.2 k hk)), ⟨Nat.le_trans q0.1 E.1.size, ge_step E q0.1 q0.2⟩⟩) (StK.ch (StK.eq (StK.eq (StK.cons (fun c v u w1 w2 E h => by obtain ⟨x0, x1, hv, f0, q0⟩ := h; exact ⟨x0, x1, hv, f0.keep0 E, ⟨Nat.le_trans q0.1 E.size, q0.2⟩⟩) (fun c v v' u w1 w2 _ E h => by obtain ⟨x0, x1, hv, f0, q0⟩ := h; exact ⟨x0, x1, hv, f0.keep E.1 (fun k hk => .inr (q0.2 k hk)), ⟨Nat.le_trans q0.1 E.1.size, ge_step E q0.1 q0.2⟩⟩) (StK.eq (StK.cons (fun c v u w1 w2 E h => by obtain ⟨x0, hv, l0, f0, q0⟩ := h; exact ⟨x0, hv, l0, f0.keep0 E, q0⟩) (fun c v v' u w1 w2 _ E h => by obtain ⟨x0, hv, l0, f0, q0⟩ := h; exact ⟨x0, hv, l0, f0.keep E.1 (fun hh => q0 hh.symm), ne_step E f0.lt q0⟩) (StK.ch (StK.eq (StK.eq (StK.cons (fun c v u w1 w2 E h => by obtain ⟨x0, hv, f0, q0⟩ := h; exact ⟨x0, hv, f0.keep0 E, ⟨Nat.le_trans q0.1 E.size, q0.2⟩⟩) (fun c v v' u w1 w2 _ E h => by obtain ⟨x0, hv, f0, q0⟩ := h; exact ⟨x0, hv, f0.keep E.1 (fun k hk => .inr (q0.2 k hk)), ⟨Nat.le_trans q0.1 E.1.size, ge_step E q0.1 q0.2⟩⟩) (StK.ch (StK.ch (StK.nil)))))))))))))))))) (StK.get1 (n := 4) (StK.ch (StK.eq (StK.eq (StK.cons (fun c v u w1 w2 E h => by obtain ⟨x0, hv, f0, q0⟩ := h; exact ⟨x0, hv, f0.keep0 E, ⟨Nat.le_trans q0.1 E.size, q0.2⟩⟩) (fun c v v' u w1 w2 _ E h => by obtain ⟨x0, hv, f0, q0⟩ := h; exact ⟨x0, hv, f0.keep E.1 (fun k hk => .inr (q0.2 k hk)), ⟨Nat.le_trans q0.1 E.1.size, ge_step E q0.1 q0.2⟩⟩) (StK.ch (StK.eq (StK.eq (StK.cons (fun c v u w1 w2 E h => by obtain ⟨x0, x1, hv, f0, q0⟩ := h; exact ⟨x0, x1, hv, f0.keep0 E, ⟨Nat.le_trans q0.1 E.size, q0.2⟩⟩) (fun c v v' u w1 w2 _ E h => by obtain ⟨x0, x1, hv, f0, q0⟩ := h; exact ⟨x0, x1, hv, f0.keep E.1 (fun k hk => .inr (q0.2 k hk)), ⟨Nat.le_trans q0.1 E.1.size, ge_step E q0.1 q0.2⟩⟩) (StK.eq (StK.cons (fun c v u w1 w2 E h => by obtain ⟨x0, hv, l0, f0, q0⟩ := h; exact ⟨x0, hv, l0, f0.keep0 E, q0⟩) (fun c v v' u w1 w2 _ E h => by obtain ⟨x0, hv, l0, f0, q0⟩ := h; exact ⟨x0, hv, l0, f0.keep E.1 (fun hh => q0 hh.symm), ne_step E f0.lt q0⟩) (StK.ch (StK.eq (StK.eq (StK.cons (fun c v u w1 w2 E h => by obtain ⟨x0, hv, f0, q0⟩ := h; exact ⟨x0, hv, f0.keep0 E, ⟨Nat.le_trans q0.1 E.size, q0.2⟩⟩) (fun c v v' u w1 w2 _ E h => by obtain ⟨x0, hv, f0, q0⟩ := h; exact ⟨x0, hv, f0.keep E.1 (fun k hk => .inr (q0.2 k hk)), ⟨Nat.le_trans q0.1 E.1.size, ge_step E q0.1 q0.2⟩⟩) (StK.ch (StK.ch (StK.nil)))))))))))))))))) (StL2.get0 (StL2.own (StL2.own (StL2.own (StL2.own (StL2.own (StL2.nil))))))) (StL2.get1 (StL2.own (StL2.own (StL2.own (StL2.own (StL2.own (StL2.nil))))))) (Own.nil w943 w.heap.size 35 1) (ObLn.get (ObLn.pass rfl (ObLn.cons ?_ (ObLn.cons ?_ (ObLn.cons ?_ (ObLn.pass rfl (ObLn.cons ?_ (ObLn.cons ?_ (ObLn.cons ?_ (ObLn.cons ?_ (ObLn.cons ?_ (ObLn.pass rfl (ObLn.cons ?_ (ObLn.cons ?_ (ObLn.cons ?_ (ObLn.pass rfl (ObLn.cons ?_ (ObLn.nil)))))))))))))))))) (ObLc.get (ObLc.cons ?_ (ObLc.cons ?_ (ObLc.cons ?_ (ObLc.cons ?_ (ObLc.nil)))))) ?_
    ·
     intro aA wA ccA cvA hNA hclA hRA hltA hvoA hbsA hdpA
     have qA_3 := (hbsA 3 (by kernel_rfl)).trans (sl_base hN851 rfl s851_3)
     refine op_move (ev_base hNA rfl qA_3) ?_
     exact obNc_end rfl rfl (grown_refl _ _)
    ·
     intro aA wA ccA cvA hNA hclA hRA hltA hvoA hbsA hdpA
     have qA_5 := (hbsA 5 rfl).trans (sl_base hN851 rfl s851_5)
     refine op_move (ev_base hNA rfl qA_5) ?_
     exact obNc_end rfl rfl (grown_refl _ _)
    ·
     intro aA wA ccA cvA hNA hclA hRA hltA hvoA hbsA hdpA
     have hRA : w943.grownBy wA (Value.slice none 0 0).ownBlock := hRA
     have hnil_o := (Own.nil w943 w.heap.size 35 1)
     have z_wA := hRA.size
     have hb := below_stepO hb (Own.nil w943 w.heap.size 35 1) hRA hb.size (by omega)
     have hl := hl.keep0 hRA
     have hO845 := hO845.keep0 hRA
     have qA_45 : Sl aA 45 r := hdpA 1 _ 45 (by kernel_rfl) rfl rfl
     have qA_46 : Sl aA 46 (Value.int .i64 ((jj : Nat) : Int)) := hdpA 2 _ 46 (by kernel_rfl) rfl rfl
     clear hbsA hdpA
     refine op_slice_rd (lo := 0) (hi := jj) slt23 (ev_base hNA rfl qA_45) (Own.rdB hO845 hO845_s) (.inl ⟨rfl, rfl⟩) (.inr ⟨_, _, rfl, (ev_base hNA rfl qA_46)⟩) (by omega) (by omega) ?_
     intro v944 hR945
     have hR945 : RdC wA w.heap.size w943.heap.size 1 v944 jj ((((nrm (l.take i)).take jj)).map u16v) := by simpa [List.map_drop, List.map_take] using hR945
     exact obNc_end rfl ⟨v944, rfl, hR945, ⟨by omega, ge_of hvoA (fun k hk => by simp [Value.ownBlock] at hk) (by omega)⟩⟩ (grown_refl _ _)
    ·
     intro aA wA ccA cvA hNA hclA hRA hltA hvoA hbsA hdpA
     have qA_0 := (hbsA 0 rfl).trans (sl_base hN851 rfl s851_0)
     refine op_move (ev_base hNA rfl qA_0) ?_
     exact obNc_end rfl rfl (grown_refl _ _)
    ·
     intro aA wA ccA cvA hNA hclA hRA hltA hvoA hbsA hdpA
     have qA_4 := (hbsA 4 rfl).trans (sl_base hN851 rfl s851_4)
     refine op_move (ev_base hNA rfl qA_4) ?_
     exact obNc_end rfl rfl (grown_refl _ _)
    ·
     intro aA wA ccA cvA hNA hclA hRA hltA hvoA hbsA hdpA
     have hRA : w943.grownBy wA (Value.slice none 0 0).ownBlock := hRA
     have hnil_o := (Own.nil w943 w.heap.size 35 1)
     have z_wA := hRA.size
     have hb := below_stepO hb (Own.nil w943 w.heap.size 35 1) hRA hb.size (by omega)
     have hl := hl.keep0 hRA
     have hO845 := hO845.keep0 hRA
     have qA_49 : Sl aA 49 v := hdpA 5 _ 49 (by kernel_rfl) rfl rfl
     have qA_50 : Sl aA 50 (Value.int .i64 ((i : Nat) : Int)) := hdpA 6 _ 50 (by kernel_rfl) rfl rfl
     clear hbsA hdpA
     refine op_index_rd slt22 (ev_base hNA rfl qA_49) hl (ev_base hNA rfl qA_50) (by omega) (by omega) ?_
     intro b946 o947 h0b946 h1b946 hc948
     have hp949 : PtC wA 0 w.heap.size b946 o947 [(Value.int .u16 ((l.getD i 0).toNat : Int))] := ⟨by omega, by omega, fun j u hu => hc948 j u (by have := (List.getElem?_eq_some_iff.1 hu).1; simpa using this) ((fun j u hu => one_at (el_u16 (i := i) (by omega) (by omega)) hu) j u hu)⟩
     exact obNc_end rfl ⟨b946, o947, rfl, hp949, ⟨by omega, ge_of hvoA (fun k hk => by simp [Value.ownBlock] at hk) (by omega)⟩⟩ (grown_refl _ _)
    ·
     intro aA wA ccA cvA hNA hclA hRA hltA hvoA hbsA hdpA
     have hRA : w943.grownBy wA (Value.slice none 0 0).ownBlock := hRA
     have hnil_o := (Own.nil w943 w.heap.size 35 1)
     have z_wA := hRA.size
     have hb := below_stepO hb (Own.nil w943 w.heap.size 35 1) hRA hb.size (by omega)
     have hl := hl.keep0 hRA
     have hO845 := hO845.keep0 hRA
     obtain ⟨b957, o958, qA_51, hp960, xqA_51_0⟩ := hdpA 7 _ 51 (by kernel_rfl) rfl rfl
     have hp960 : PtC wA 0 w.heap.size b957 o958 [(Value.int .u16 ((l.getD i 0).toNat : Int))] := hp960
     clear hbsA hdpA
     refine op_load1 (v := (Value.int .u16 ((l.getD i 0).toNat : Int))) one35 (ev_base hNA rfl qA_51) (hp960.2.2 0 _ rfl) ?_
     exact obNc_end rfl rfl (grown_refl _ _)
    ·
     intro aA wA ccA cvA hNA hclA hRA hltA hvoA hbsA hdpA
     have hRA : w943.grownBy wA (Value.slice none 0 0).ownBlock := hRA
     have hnil_o := (Own.nil w943 w.heap.size 35 1)
     have z_wA := hRA.size
     have hb := below_stepO hb (Own.nil w943 w.heap.size 35 1) hRA hb.size (by omega)
     have hl := hl.keep0 hRA
     have hO845 := hO845.keep0 hRA
     have qA_52 : Sl aA 52 (Value.int .u16 ((l.getD i 0).toNat : Int)) := hdpA 8 _ 52 (by kernel_rfl) rfl rfl
     clear hbsA hdpA
     refine op_bslice (e := 35) (pv := [(0, (Value.int .u16 ((l.getD i 0).toNat : Int)))]) (cs := [(Value.int .u16 ((l.getD i 0).toNat : Int))]) ⟨rfl, (ev_base hNA rfl qA_52), trivial⟩ (by kernel_rfl) ?_
     intro w950 b951 lo_b951 hi_b951 hB953 E952
     have ne_b951_r : r.ownBlock ≠ some b951 := fun hh => by have := (hO845.lt _ hh).2; omega
     have z_w950 := E952.size
     have hl := hl.keep0 E952
     have hO845 := hO845.keep0 E952
     have hb := below_step0 hb E952 hb.size
     exact obNc_end rfl ⟨b951, rfl, (by omega), hB953, (fun hh => by have := hltA _ hh; omega)⟩ (E952)
    ·
     intro aA wA ccA cvA hNA hclA hRA hltA hvoA hbsA hdpA
     have qA_3 := (hbsA 3 (by kernel_rfl)).trans (sl_base hN851 rfl s851_3)
     refine op_move (ev_base hNA rfl qA_3) ?_
     exact obNc_end rfl rfl (grown_refl _ _)
    ·
     intro aA wA ccA cvA hNA hclA hRA hltA hvoA hbsA hdpA
     have qA_5 := (hbsA 5 rfl).trans (sl_base hN851 rfl s851_5)
     refine op_move (ev_base hNA rfl qA_5) ?_
     exact obNc_end rfl rfl (grown_refl _ _)
    ·
     intro aA wA ccA cvA hNA hclA hRA hltA hvoA hbsA hdpA
     have hRA : w943.grownBy wA (Value.slice none 0 0).ownBlock := hRA
     have hnil_o := (Own.nil w943 w.heap.size 35 1)
     have z_wA := hRA.size
     have hb := below_stepO hb (Own.nil w943 w.heap.size 35 1) hRA hb.size (by omega)
     have hl := hl.keep0 hRA
     have hO845 := hO845.keep0 hRA
     have qA_55 : Sl aA 55 r := hdpA 11 _ 55 (by kernel_rfl) rfl rfl
     have qA_56 : Sl aA 56 (Value.int .i64 ((jj : Nat) : Int)) := hdpA 12 _ 56 (by kernel_rfl) rfl rfl
     clear hbsA hdpA
     refine op_slice_rd (lo := jj) (hi := (nrm (l.take i)).length) slt23 (ev_base hNA rfl qA_55) (Own.rdB hO845 hO845_s) (.inr ⟨_, _, rfl, (ev_base hNA rfl qA_56)⟩) (.inl ⟨rfl, rfl⟩) (by omega) (by omega) ?_
     intro v954 hR955
     have hR955 : RdC wA w.heap.size w943.heap.size 1 v954 ((nrm (l.take i)).length - jj) ((((nrm (l.take i)).drop jj)).map u16v) := by simpa [List.map_drop, List.map_take, List.take_of_length_le] using hR955
     exact obNc_end rfl ⟨v954, rfl, hR955, ⟨by omega, ge_of hvoA (fun k hk => by simp [Value.ownBlock] at hk) (by omega)⟩⟩ (grown_refl _ _)
    ·
     intro aA wA ccA cvA hNA hclA hRA hltA hvoA hbsA hdpA
     have hchA : chP 3 ccA cvA (aA.tmps.getD 58 undef) wA := hdpA 14 _ 58 (by kernel_rfl) rfl rfl
     have hccA : ccA = 4 := Nat.le_antisymm hclA hchA.1
     have qA_58 := hchA.2 hccA
     refine op_assign (ev_base hNA rfl qA_58) ?_
     exact obNc_end rfl ⟨by omega, fun _ => rfl⟩ (grown_refl _ _)
    ·
     intro o_ ho_; obtain rfl := Option.some.inj ho_; intro aA wA cvA hNA hRA hcv0A hbsA hdpA hCA
     have hRA : w943.grownBy wA (Value.slice none 0 0).ownBlock := hRA
     have hnil_o := (Own.nil w943 w.heap.size 35 1)
     have z_wA := hRA.size
     have hb := below_stepO hb (Own.nil w943 w.heap.size 35 1) hRA hb.size (by omega)
     have hl := hl.keep0 hRA
     have hO845 := hO845.keep0 hRA
     have hcvA : (Value.slice none 0 0) = cvA := (hcv0A rfl).symm
     subst hcvA
     have hCA : Own wA w.heap.size 35 1 (Value.slice none 0 0) 0 ([]) := hCA
     clear hbsA hdpA
     refine op_bslice (e := 35) (pv := []) (cs := []) trivial (by kernel_rfl) ?_
     intro w956 b957 lo_b957 hi_b957 hB959 E958
     have ne_b957_r : r.ownBlock ≠ some b957 := fun hh => by have := (hO845.lt _ hh).2; omega
     have z_w956 := E958.size
     have hl := hl.keep0 E958
     have hO845 := hO845.keep0 E958
     have hCA := hCA.keep0 E958
     have hb := below_step0 hb E958 hb.size
     exact obCc_end rfl rfl (chP_now (w := w956)) (Own.ofBx (base := w.heap.size) (sz := 1) (n := 0) hB959 rfl (by decide) (by omega)) ⟨E958, .inr (fun k hk => by simp [Value.ownBlock] at hk; omega)⟩
    ·
     intro o_ ho_; obtain rfl := Option.some.inj ho_; intro aA wA cvA hNA hRA hcv0A hbsA hdpA hCA
     have hRA : w943.grownBy wA (Value.slice none 0 0).ownBlock := hRA
     have hnil_o := (Own.nil w943 w.heap.size 35 1)
     have z_wA := hRA.size
     have hb := below_stepO hb (Own.nil w943 w.heap.size 35 1) hRA hb.size (by omega)
     have hl := hl.keep0 hRA
     have hO845 := hO845.keep0 hRA
     have hCA : Own wA w.heap.size 35 1 cvA 0 ([]) := hCA
     have qA_44 : aA.tmps.getD 44 undef = cvA := (show chP 0 1 cvA (aA.tmps.getD 44 undef) wA from hdpA 0 _ 44 (by kernel_rfl) rfl rfl).2 rfl
     obtain ⟨v948, qA_47, hR949, xqA_47_0⟩ := hdpA 3 _ 47 (by kernel_rfl) rfl rfl
     have hR949 : RdC wA w.heap.size w943.heap.size 1 v948 jj ((((nrm (l.take i)).take jj)).map u16v) := hR949
     clear hbsA hdpA
     have hP965 := hCA
     refine op_append slt23 (ev_base hNA rfl qA_44) hP965 (ev_base hNA rfl qA_47) (Src.ofRd Try.underlying23 (by decide) hR949 (one_u16 _)) (by unfold maxLen; omega) (by omega) hb.size ?_
     intro v960 w961 hO963 E962 hm964
     have z_w961 := E962.size
     have hl := hl.keepO hP965 E962 (by omega)
     have hR949 := hR949.keep E962 (fun k hk => .inr (xqA_47_0.2 k hk))
     have hb := below_stepO hb hP965 E962 hb.size (by omega)
     have hO963 : Own w961 w.heap.size 35 1 v960 (0 + jj) ((((nrm (l.take i)).take jj)).map u16v) := by simpa [u8v, u16v, cellsV] using hO963
     exact obCc_end rfl rfl (chP_now (w := w961)) hO963 ⟨E962, hm964⟩
    ·
     intro o_ ho_; obtain rfl := Option.some.inj ho_; intro aA wA cvA hNA hRA hcv0A hbsA hdpA hCA
     have hRA : w943.grownBy wA (Value.slice none 0 0).ownBlock := hRA
     have hnil_o := (Own.nil w943 w.heap.size 35 1)
     have z_wA := hRA.size
     have hb := below_stepO hb (Own.nil w943 w.heap.size 35 1) hRA hb.size (by omega)
     have hl := hl.keep0 hRA
     have hO845 := hO845.keep0 hRA
     have hCA : Own wA w.heap.size 35 1 cvA (0 + jj) ((((nrm (l.take i)).take jj)).map u16v) := hCA
     have qA_48 : aA.tmps.getD 48 undef = cvA := (show chP 1 2 cvA (aA.tmps.getD 48 undef) wA from hdpA 4 _ 48 (by kernel_rfl) rfl rfl).2 rfl
     obtain ⟨b962, qA_53, loA_0, hB964, xqA_53_0⟩ := hdpA 9 _ 53 (by kernel_rfl) rfl rfl
     have hB964 : Bx wA b962 35 [(Value.int .u16 ((l.getD i 0).toNat : Int))] := hB964
     clear hbsA hdpA
     have hP971 := hCA
     refine op_append slt23 (ev_base hNA rfl qA_48) hP971 (ev_base hNA rfl qA_53) (Src.ofRd Try.underlying23 (by decide) (RdC.ofBx (sz := 1) (n := 1) hB964 rfl (by decide)) (by simp [Value.oneCell', u8v])) (by unfold maxLen; omega) (by omega) hb.size ?_
     intro v966 w967 hO969 E968 hm970
     have z_w967 := E968.size
     have hl := hl.keepO hP971 E968 (by omega)
     have hB964 := hB964.keep E968 (fun hh => xqA_53_0 hh.symm)
     have hb := below_stepO hb hP971 E968 hb.size (by omega)
     have hO969 : Own w967 w.heap.size 35 1 v966 ((0 + jj) + 1) (((((nrm (l.take i)).take jj) ++ [(l.getD i 0)])).map u16v) := by simpa [u8v, u16v, cellsV] using hO969
     exact obCc_end rfl rfl (chP_now (w := w967)) hO969 ⟨E968, hm970⟩
    ·
     intro o_ ho_; obtain rfl := Option.some.inj ho_; intro aA wA cvA hNA hRA hcv0A hbsA hdpA hCA
     have hRA : w943.grownBy wA (Value.slice none 0 0).ownBlock := hRA
     have hnil_o := (Own.nil w943 w.heap.size 35 1)
     have z_wA := hRA.size
     have hb := below_stepO hb (Own.nil w943 w.heap.size 35 1) hRA hb.size (by omega)
     have hl := hl.keep0 hRA
     have hO845 := hO845.keep0 hRA
     have hCA : Own wA w.heap.size 35 1 cvA ((0 + jj) + 1) (((((nrm (l.take i)).take jj) ++ [(l.getD i 0)])).map u16v) := hCA
     have qA_54 : aA.tmps.getD 54 undef = cvA := (show chP 2 3 cvA (aA.tmps.getD 54 undef) wA from hdpA 10 _ 54 (by kernel_rfl) rfl rfl).2 rfl
     obtain ⟨v972, qA_57, hR973, xqA_57_0⟩ := hdpA 13 _ 57 (by kernel_rfl) rfl rfl
     have hR973 : RdC wA w.heap.size w943.heap.size 1 v972 ((nrm (l.take i)).length - jj) ((((nrm (l.take i)).drop jj)).map u16v) := hR973
     clear hbsA hdpA
     have hP977 := hCA
     refine op_append slt23 (ev_base hNA rfl qA_54) hP977 (ev_base hNA rfl qA_57) (Src.ofRd Try.underlying23 (by decide) hR973 (one_u16 _)) (by unfold maxLen; omega) (by omega) hb.size ?_
     intro v972 w973 hO975 E974 hm976
     have z_w973 := E974.size
     have hl := hl.keepO hP977 E974 (by omega)
     have hR973 := hR973.keep E974 (fun k hk => .inr (xqA_57_0.2 k hk))
     have hb := below_stepO hb hP977 E974 hb.size (by omega)
     have hO975 : Own w973 w.heap.size 35 1 v972 (((0 + jj) + 1) + ((nrm (l.take i)).length - jj)) ((((((nrm (l.take i)).take jj) ++ [(l.getD i 0)]) ++ ((nrm (l.take i)).drop jj))).map u16v) := by simpa [u8v, u16v, cellsV] using hO975
     exact obCc_end rfl rfl (chP_now (w := w973)) hO975 ⟨E974, hm976⟩
    ·
     intro a978 w978 v974 hN978 hd978 hbs978 hph978 hC978 E978 hm978
     have hd978 := hd978.trans hd851
     have s978_0 := (hbs978 0 rfl).trans (sl_base hN851 rfl s851_0)
     have s978_2 := (hbs978 2 rfl).trans (sl_base hN851 rfl s851_2)
     have s978_3 : a978.tmps.getD 3 undef = v974 := (show chP 3 4 v974 (a978.tmps.getD 3 undef) w978 from hph978 15 _ 3 rfl rfl).2 rfl
     have s978_4 := (hbs978 4 rfl).trans (sl_base hN851 rfl s851_4)
     clear hbs978 hph978
     have E978 : w943.grownBy w978 (Value.slice none 0 0).ownBlock := E978
     have hC978 : Own w978 w.heap.size 35 1 v974 (((0 + jj) + 1) + ((nrm (l.take i)).length - jj)) ((((((nrm (l.take i)).take jj) ++ [(l.getD i 0)]) ++ ((nrm (l.take i)).drop jj))).map u16v) := hC978
     have z_w978 := E978.size
     have hl := hl.keepO (Own.nil w943 w.heap.size 35 1) E978 (by omega)
     have hb := below_stepO hb (Own.nil w943 w.heap.size 35 1) E978 hb.size (by omega)
     refine hK848 _ _ ?_
     refine one_reg ?_
     refine op_move (ev_base hN978 rfl s978_4) ?_
     refine op_add (ev_hit hN978 rfl) rfl (add64 (by omega)) ?_
     refine op_assign (ev_hit hN978 rfl) ?_
     refine reg_nil ?_
     -- round 9T 15F 32T
     have hins := insT_at (x := l.getD i 0) (acc := (nrm (l.take i))) (j := jj) hlt (by omega) (by omega)
     exact loop_next _ hN978 hd978 ⟨i + 1, _, rfl, (sl_base hN978 rfl s978_0), (sl_base hN978 rfl s978_2), (sl_hit hN978 rfl).trans (congrArg (Value.int .i64) (by omega)), (sl_base hN978 rfl s978_3), (by omega), (nrm_len (by omega)), hb, (by omega), hl, (hC978.cast (by rw [take_nrm (by omega), hins.2 (.inl (by omega))]; simp; omega) (by rw [take_nrm (by omega), hins.2 (.inl (by omega))]; try simp [u16v]))⟩ (by omega)
   · -- 32F
    refine st_step rfl (fun _ h9 => op_cmp (b := false) (ev_hit hN851 rfl) (ev_hit hN851 rfl) (b_eql (decide_eq_false g32)) h9) ?_
    refine st_step rfl (fun _ h9 => op_move (ev_hit hN851 rfl) h9) ?_
    refine st_g_true (j := 4) (dj := 33) (b := false) rfl rfl rfl (ev_hit hN851 rfl) ?_
    refine st_step rfl (fun _ h9 => op_move (ev_base hN851 rfl s851_3) h9) ?_
    refine st_g_true (j := 4) (dj := 33) (b := false) rfl rfl rfl (ev_hit hN851 rfl) ?_
    refine st_step rfl (fun _ h9 => op_move (ev_base hN851 rfl s851_5) h9) ?_
    refine st_g_true (j := 4) (dj := 33) (b := false) rfl rfl rfl (ev_hit hN851 rfl) ?_
    refine st_index_rd slt23 (ev_hit hN851 rfl) hO845.rdw (ev_hit hN851 rfl) (by omega) (by omega) ?_
    intro b979 o980 h0b979 h1b979 hc981
    refine st_g_true (j := 4) (dj := 33) (b := false) rfl rfl rfl (ev_hit hN851 rfl) ?_
    refine st_step rfl (fun _ h9 => op_load1 (v := (Value.int .u16 (((nrm (l.take i)).getD jj 0).toNat : Int))) one35 (ev_hit hN851 rfl) (by have := hc981 0 (Value.int .u16 (((nrm (l.take i)).getD jj 0).toNat : Int)) (by decide) (el_u16 (i := jj) (by omega) (by omega)); simpa using this) h9) ?_
    refine st_g_true (j := 4) (dj := 33) (b := false) rfl rfl rfl (ev_hit hN851 rfl) ?_
    refine st_step rfl (fun _ h9 => op_move (ev_base hN851 rfl s851_0) h9) ?_
    refine st_g_true (j := 4) (dj := 33) (b := false) rfl rfl rfl (ev_hit hN851 rfl) ?_
    refine st_step rfl (fun _ h9 => op_move (ev_base hN851 rfl s851_4) h9) ?_
    refine st_g_true (j := 4) (dj := 33) (b := false) rfl rfl rfl (ev_hit hN851 rfl) ?_
    refine st_index_rd slt22 (ev_hit hN851 rfl) hl (ev_hit hN851 rfl) (by omega) (by omega) ?_
    intro b982 o983 h0b982 h1b982 hc984
    refine st_g_true (j := 4) (dj := 33) (b := false) rfl rfl rfl (ev_hit hN851 rfl) ?_
    refine st_step rfl (fun _ h9 => op_load1 (v := (Value.int .u16 ((l.getD i 0).toNat : Int))) one35 (ev_hit hN851 rfl) (by have := hc984 0 (Value.int .u16 ((l.getD i 0).toNat : Int)) (by decide) (el_u16 (i := i) (by omega) (by omega)); simpa using this) h9) ?_
    refine st_g_true (j := 4) (dj := 33) (b := false) rfl rfl rfl (ev_hit hN851 rfl) ?_
    refine st_step rfl (fun _ h9 => op_cmp (b := (decide ((((nrm (l.take i)).getD jj 0).toNat : Int) ≠ ((l.getD i 0).toNat : Int)))) (ev_hit hN851 rfl) (ev_hit hN851 rfl) (b_neq rfl) h9) ?_
    refine st_step rfl (fun _ h9 => op_pick_f (ev_hit hN851 rfl) (ev_hit hN851 rfl) h9) ?_
    refine st_nil ?_
    refine hK941 _ _ ?_
    refine wp_cond_split (ev_hit hN851 rfl) (fun c43 => ?_) (fun c43 => ?_)
    · -- 43T
     have c43 := of_decide_eq_true c43
     have hO845_s := hO845
     refine reg_chain (Φ := phiC [chP 0, (fun _ _ uz _ => uz = r), (fun _ _ uz _ => uz = (Value.int .i64 ((jj : Nat) : Int))), (fun _ vz uz w' => ∃ (v989 : Value), uz = v989 ∧ RdC w' w.heap.size w943.heap.size 1 v989 jj ((((nrm (l.take i)).take jj)).map u16v) ∧ (w943.heap.size ≤ w'.heap.size ∧ ∀ k, vz.ownBlock = some k → w943.heap.size ≤ k)), chP 1, (fun _ _ uz _ => uz = v), (fun _ _ uz _ => uz = (Value.int .i64 ((i : Nat) : Int))), (fun _ vz uz w' => ∃ (b998 : (Nat)) (o999 : (Nat)), uz = (ptr b998 o999) ∧ PtC w' 0 w.heap.size b998 o999 [(Value.int .u16 ((l.getD i 0).toNat : Int))] ∧ (w.heap.size ≤ w'.heap.size ∧ ∀ k, vz.ownBlock = some k → w.heap.size ≤ k)), (fun _ _ uz _ => uz = (Value.int .u16 ((l.getD i 0).toNat : Int))), (fun _ vz uz w' => ∃ (b1003 : Nat), uz = (Value.slice (some ⟨b1003, 0, none⟩) 1 1) ∧ w943.heap.size ≤ b1003 ∧ Bx w' b1003 35 [(Value.int .u16 ((l.getD i 0).toNat : Int))] ∧ vz.ownBlock ≠ some b1003), chP 2, (fun _ _ uz _ => uz = r), (fun _ _ uz _ => uz = (Value.int .i64 ((jj : Nat) : Int))), (fun _ vz uz w' => ∃ (v1013 : Value), uz = v1013 ∧ RdC w' w.heap.size w943.heap.size 1 v1013 ((nrm (l.take i)).length - jj) ((((nrm (l.take i)).drop jj)).map u16v) ∧ (w943.heap.size ≤ w'.heap.size ∧ ∀ k, vz.ownBlock = some k → w943.heap.size ≤ k)), chP 3, chP 3]) (C := CL [(fun vz w' => Own w' w.heap.size 35 1 vz 0 ([])), (fun vz w' => Own w' w.heap.size 35 1 vz 0 ([])), (fun vz w' => Own w' w.heap.size 35 1 vz (0 + jj) ((((nrm (l.take i)).take jj)).map u16v)), (fun vz w' => Own w' w.heap.size 35 1 vz ((0 + jj) + 1) (((((nrm (l.take i)).take jj) ++ [(l.getD i 0)])).map u16v)), (fun vz w' => Own w' w.heap.size 35 1 vz (((0 + jj) + 1) + ((nrm (l.take i)).length - jj)) ((((((nrm (l.take i)).take jj) ++ [(l.getD i 0)]) ++ ((nrm (l.take i)).drop jj))).map u16v))]) ⟨[0, 4, 10, 14], fun c => [60, 44, 48, 54, 58].getD c 60⟩ (Value.slice none 0 0) mixed (by kernel_rfl) (by kernel_rfl) (by kernel_rfl) (by kernel_rfl) hN851 (StK.get0 (n := 4) (StK.ch (StK.eq (StK.eq (StK.cons (fun c v u w1 w2 E h => by obtain ⟨x0, hv, f0, q0⟩ := h; exact ⟨x0, hv, f0.keep0 E, ⟨Nat.le_trans q0.1 E.size, q0.2⟩⟩) (fun c v v' u w1 w2 _ E h => by obtain ⟨x0, hv, f0, q0⟩ := h; exact ⟨x0, hv, f0.keep E.1 (fun k hk => .inr (q0.2 k hk)), ⟨Nat.le_trans q0.1 E.1.size, ge_step E q0.1 q0.2⟩⟩) (StK.ch (StK.eq (StK.eq (StK.cons (fun c v u w1 w2 E h => by obtain ⟨x0, x1, hv, f0, q0⟩ := h; exact ⟨x0, x1, hv, f0.keep0 E, ⟨Nat.le_trans q0.1 E.size, q0.2⟩⟩) (fun c v v' u w1 w2 _ E h => by obtain ⟨x0, x1, hv, f0, q0⟩ := h; exact ⟨x0, x1, hv, f0.keep E.1 (fun k hk => .inr (q0.2 k hk)), ⟨Nat.le_trans q0.1 E.1.size, ge_step E q0.1 q0.2⟩⟩) (StK.eq (StK.cons (fun c v u w1 w2 E h => by obtain ⟨x0, hv, l0, f0, q0⟩ := h; exact ⟨x0, hv, l0, f0.keep0 E, q0⟩) (fun c v v' u w1 w2 _ E h => by obtain ⟨x0, hv, l0, f0, q0⟩ := h; exact ⟨x0, hv, l0, f0.keep E.1 (fun hh => q0 hh.symm), ne_step E f0.lt q0⟩) (StK.ch (StK.eq (StK.eq (StK.cons (fun c v u w1 w2 E h => by obtain ⟨x0, hv, f0, q0⟩ := h; exact ⟨x0, hv, f0.keep0 E, ⟨Nat.le_trans q0.1 E.size, q0.2⟩⟩) (fun c v v' u w1 w2 _ E h => by obtain ⟨x0, hv, f0, q0⟩ := h; exact ⟨x0, hv, f0.keep E.1 (fun k hk => .inr (q0.2 k hk)), ⟨Nat.le_trans q0.1 E.1.size, ge_step E q0.1 q0.2⟩⟩) (StK.ch (StK.ch (StK.nil)))))))))))))))))) (StK.get1 (n := 4) (StK.ch (StK.eq (StK.eq (StK.cons (fun c v u w1 w2 E h => by obtain ⟨x0, hv, f0, q0⟩ := h; exact ⟨x0, hv, f0.keep0 E, ⟨Nat.le_trans q0.1 E.size, q0.2⟩⟩) (fun c v v' u w1 w2 _ E h => by obtain ⟨x0, hv, f0, q0⟩ := h; exact ⟨x0, hv, f0.keep E.1 (fun k hk => .inr (q0.2 k hk)), ⟨Nat.le_trans q0.1 E.1.size, ge_step E q0.1 q0.2⟩⟩) (StK.ch (StK.eq (StK.eq (StK.cons (fun c v u w1 w2 E h => by obtain ⟨x0, x1, hv, f0, q0⟩ := h; exact ⟨x0, x1, hv, f0.keep0 E, ⟨Nat.le_trans q0.1 E.size, q0.2⟩⟩) (fun c v v' u w1 w2 _ E h => by obtain ⟨x0, x1, hv, f0, q0⟩ := h; exact ⟨x0, x1, hv, f0.keep E.1 (fun k hk => .inr (q0.2 k hk)), ⟨Nat.le_trans q0.1 E.1.size, ge_step E q0.1 q0.2⟩⟩) (StK.eq (StK.cons (fun c v u w1 w2 E h => by obtain ⟨x0, hv, l0, f0, q0⟩ := h; exact ⟨x0, hv, l0, f0.keep0 E, q0⟩) (fun c v v' u w1 w2 _ E h => by obtain ⟨x0, hv, l0, f0, q0⟩ := h; exact ⟨x0, hv, l0, f0.keep E.1 (fun hh => q0 hh.symm), ne_step E f0.lt q0⟩) (StK.ch (StK.eq (StK.eq (StK.cons (fun c v u w1 w2 E h => by obtain ⟨x0, hv, f0, q0⟩ := h; exact ⟨x0, hv, f0.keep0 E, ⟨Nat.le_trans q0.1 E.size, q0.2⟩⟩) (fun c v v' u w1 w2 _ E h => by obtain ⟨x0, hv, f0, q0⟩ := h; exact ⟨x0, hv, f0.keep E.1 (fun k hk => .inr (q0.2 k hk)), ⟨Nat.le_trans q0.1 E.1.size, ge_step E q0.1 q0.2⟩⟩) (StK.ch (StK.ch (StK.nil)))))))))))))))))) (StL2.get0 (StL2.own (StL2.own (StL2.own (StL2.own (StL2.own (StL2.nil))))))) (StL2.get1 (StL2.own (StL2.own (StL2.own (StL2.own (StL2.own (StL2.nil))))))) (Own.nil w943 w.heap.size 35 1) (ObLn.get (ObLn.pass rfl (ObLn.cons ?_ (ObLn.cons ?_ (ObLn.cons ?_ (ObLn.pass rfl (ObLn.cons ?_ (ObLn.cons ?_ (ObLn.cons ?_ (ObLn.cons ?_ (ObLn.cons ?_ (ObLn.pass rfl (ObLn.cons ?_ (ObLn.cons ?_ (ObLn.cons ?_ (ObLn.pass rfl (ObLn.cons ?_ (ObLn.nil)))))))))))))))))) (ObLc.get (ObLc.cons ?_ (ObLc.cons ?_ (ObLc.cons ?_ (ObLc.cons ?_ (ObLc.nil)))))) ?_
     ·
      intro aA wA ccA cvA hNA hclA hRA hltA hvoA hbsA hdpA
      have qA_3 := (hbsA 3 (by kernel_rfl)).trans (sl_base hN851 rfl s851_3)
      refine op_move (ev_base hNA rfl qA_3) ?_
      exact obNc_end rfl rfl (grown_refl _ _)
     ·
      intro aA wA ccA cvA hNA hclA hRA hltA hvoA hbsA hdpA
      have qA_5 := (hbsA 5 rfl).trans (sl_base hN851 rfl s851_5)
      refine op_move (ev_base hNA rfl qA_5) ?_
      exact obNc_end rfl rfl (grown_refl _ _)
     ·
      intro aA wA ccA cvA hNA hclA hRA hltA hvoA hbsA hdpA
      have hRA : w943.grownBy wA (Value.slice none 0 0).ownBlock := hRA
      have hnil_o := (Own.nil w943 w.heap.size 35 1)
      have z_wA := hRA.size
      have hb := below_stepO hb (Own.nil w943 w.heap.size 35 1) hRA hb.size (by omega)
      have hl := hl.keep0 hRA
      have hO845 := hO845.keep0 hRA
      have qA_45 : Sl aA 45 r := hdpA 1 _ 45 (by kernel_rfl) rfl rfl
      have qA_46 : Sl aA 46 (Value.int .i64 ((jj : Nat) : Int)) := hdpA 2 _ 46 (by kernel_rfl) rfl rfl
      clear hbsA hdpA
      refine op_slice_rd (lo := 0) (hi := jj) slt23 (ev_base hNA rfl qA_45) (Own.rdB hO845 hO845_s) (.inl ⟨rfl, rfl⟩) (.inr ⟨_, _, rfl, (ev_base hNA rfl qA_46)⟩) (by omega) (by omega) ?_
      intro v985 hR986
      have hR986 : RdC wA w.heap.size w943.heap.size 1 v985 jj ((((nrm (l.take i)).take jj)).map u16v) := by simpa [List.map_drop, List.map_take] using hR986
      exact obNc_end rfl ⟨v985, rfl, hR986, ⟨by omega, ge_of hvoA (fun k hk => by simp [Value.ownBlock] at hk) (by omega)⟩⟩ (grown_refl _ _)
     ·
      intro aA wA ccA cvA hNA hclA hRA hltA hvoA hbsA hdpA
      have qA_0 := (hbsA 0 rfl).trans (sl_base hN851 rfl s851_0)
      refine op_move (ev_base hNA rfl qA_0) ?_
      exact obNc_end rfl rfl (grown_refl _ _)
     ·
      intro aA wA ccA cvA hNA hclA hRA hltA hvoA hbsA hdpA
      have qA_4 := (hbsA 4 rfl).trans (sl_base hN851 rfl s851_4)
      refine op_move (ev_base hNA rfl qA_4) ?_
      exact obNc_end rfl rfl (grown_refl _ _)
     ·
      intro aA wA ccA cvA hNA hclA hRA hltA hvoA hbsA hdpA
      have hRA : w943.grownBy wA (Value.slice none 0 0).ownBlock := hRA
      have hnil_o := (Own.nil w943 w.heap.size 35 1)
      have z_wA := hRA.size
      have hb := below_stepO hb (Own.nil w943 w.heap.size 35 1) hRA hb.size (by omega)
      have hl := hl.keep0 hRA
      have hO845 := hO845.keep0 hRA
      have qA_49 : Sl aA 49 v := hdpA 5 _ 49 (by kernel_rfl) rfl rfl
      have qA_50 : Sl aA 50 (Value.int .i64 ((i : Nat) : Int)) := hdpA 6 _ 50 (by kernel_rfl) rfl rfl
      clear hbsA hdpA
      refine op_index_rd slt22 (ev_base hNA rfl qA_49) hl (ev_base hNA rfl qA_50) (by omega) (by omega) ?_
      intro b987 o988 h0b987 h1b987 hc989
      have hp990 : PtC wA 0 w.heap.size b987 o988 [(Value.int .u16 ((l.getD i 0).toNat : Int))] := ⟨by omega, by omega, fun j u hu => hc989 j u (by have := (List.getElem?_eq_some_iff.1 hu).1; simpa using this) ((fun j u hu => one_at (el_u16 (i := i) (by omega) (by omega)) hu) j u hu)⟩
      exact obNc_end rfl ⟨b987, o988, rfl, hp990, ⟨by omega, ge_of hvoA (fun k hk => by simp [Value.ownBlock] at hk) (by omega)⟩⟩ (grown_refl _ _)
     ·
      intro aA wA ccA cvA hNA hclA hRA hltA hvoA hbsA hdpA
      have hRA : w943.grownBy wA (Value.slice none 0 0).ownBlock := hRA
      have hnil_o := (Own.nil w943 w.heap.size 35 1)
      have z_wA := hRA.size
      have hb := below_stepO hb (Own.nil w943 w.heap.size 35 1) hRA hb.size (by omega)
      have hl := hl.keep0 hRA
      have hO845 := hO845.keep0 hRA
      obtain ⟨b998, o999, qA_51, hp1001, xqA_51_0⟩ := hdpA 7 _ 51 (by kernel_rfl) rfl rfl
      have hp1001 : PtC wA 0 w.heap.size b998 o999 [(Value.int .u16 ((l.getD i 0).toNat : Int))] := hp1001
      clear hbsA hdpA
      refine op_load1 (v := (Value.int .u16 ((l.getD i 0).toNat : Int))) one35 (ev_base hNA rfl qA_51) (hp1001.2.2 0 _ rfl) ?_
      exact obNc_end rfl rfl (grown_refl _ _)
     ·
      intro aA wA ccA cvA hNA hclA hRA hltA hvoA hbsA hdpA
      have hRA : w943.grownBy wA (Value.slice none 0 0).ownBlock := hRA
      have hnil_o := (Own.nil w943 w.heap.size 35 1)
      have z_wA := hRA.size
      have hb := below_stepO hb (Own.nil w943 w.heap.size 35 1) hRA hb.size (by omega)
      have hl := hl.keep0 hRA
      have hO845 := hO845.keep0 hRA
      have qA_52 : Sl aA 52 (Value.int .u16 ((l.getD i 0).toNat : Int)) := hdpA 8 _ 52 (by kernel_rfl) rfl rfl
      clear hbsA hdpA
      refine op_bslice (e := 35) (pv := [(0, (Value.int .u16 ((l.getD i 0).toNat : Int)))]) (cs := [(Value.int .u16 ((l.getD i 0).toNat : Int))]) ⟨rfl, (ev_base hNA rfl qA_52), trivial⟩ (by kernel_rfl) ?_
      intro w991 b992 lo_b992 hi_b992 hB994 E993
      have ne_b992_r : r.ownBlock ≠ some b992 := fun hh => by have := (hO845.lt _ hh).2; omega
      have z_w991 := E993.size
      have hl := hl.keep0 E993
      have hO845 := hO845.keep0 E993
      have hb := below_step0 hb E993 hb.size
      exact obNc_end rfl ⟨b992, rfl, (by omega), hB994, (fun hh => by have := hltA _ hh; omega)⟩ (E993)
     ·
      intro aA wA ccA cvA hNA hclA hRA hltA hvoA hbsA hdpA
      have qA_3 := (hbsA 3 (by kernel_rfl)).trans (sl_base hN851 rfl s851_3)
      refine op_move (ev_base hNA rfl qA_3) ?_
      exact obNc_end rfl rfl (grown_refl _ _)
     ·
      intro aA wA ccA cvA hNA hclA hRA hltA hvoA hbsA hdpA
      have qA_5 := (hbsA 5 rfl).trans (sl_base hN851 rfl s851_5)
      refine op_move (ev_base hNA rfl qA_5) ?_
      exact obNc_end rfl rfl (grown_refl _ _)
     ·
      intro aA wA ccA cvA hNA hclA hRA hltA hvoA hbsA hdpA
      have hRA : w943.grownBy wA (Value.slice none 0 0).ownBlock := hRA
      have hnil_o := (Own.nil w943 w.heap.size 35 1)
      have z_wA := hRA.size
      have hb := below_stepO hb (Own.nil w943 w.heap.size 35 1) hRA hb.size (by omega)
      have hl := hl.keep0 hRA
      have hO845 := hO845.keep0 hRA
      have qA_55 : Sl aA 55 r := hdpA 11 _ 55 (by kernel_rfl) rfl rfl
      have qA_56 : Sl aA 56 (Value.int .i64 ((jj : Nat) : Int)) := hdpA 12 _ 56 (by kernel_rfl) rfl rfl
      clear hbsA hdpA
      refine op_slice_rd (lo := jj) (hi := (nrm (l.take i)).length) slt23 (ev_base hNA rfl qA_55) (Own.rdB hO845 hO845_s) (.inr ⟨_, _, rfl, (ev_base hNA rfl qA_56)⟩) (.inl ⟨rfl, rfl⟩) (by omega) (by omega) ?_
      intro v995 hR996
      have hR996 : RdC wA w.heap.size w943.heap.size 1 v995 ((nrm (l.take i)).length - jj) ((((nrm (l.take i)).drop jj)).map u16v) := by simpa [List.map_drop, List.map_take, List.take_of_length_le] using hR996
      exact obNc_end rfl ⟨v995, rfl, hR996, ⟨by omega, ge_of hvoA (fun k hk => by simp [Value.ownBlock] at hk) (by omega)⟩⟩ (grown_refl _ _)
     ·
      intro aA wA ccA cvA hNA hclA hRA hltA hvoA hbsA hdpA
      have hchA : chP 3 ccA cvA (aA.tmps.getD 58 undef) wA := hdpA 14 _ 58 (by kernel_rfl) rfl rfl
      have hccA : ccA = 4 := Nat.le_antisymm hclA hchA.1
      have qA_58 := hchA.2 hccA
      refine op_assign (ev_base hNA rfl qA_58) ?_
      exact obNc_end rfl ⟨by omega, fun _ => rfl⟩ (grown_refl _ _)
     ·
      intro o_ ho_; obtain rfl := Option.some.inj ho_; intro aA wA cvA hNA hRA hcv0A hbsA hdpA hCA
      have hRA : w943.grownBy wA (Value.slice none 0 0).ownBlock := hRA
      have hnil_o := (Own.nil w943 w.heap.size 35 1)
      have z_wA := hRA.size
      have hb := below_stepO hb (Own.nil w943 w.heap.size 35 1) hRA hb.size (by omega)
      have hl := hl.keep0 hRA
      have hO845 := hO845.keep0 hRA
      have hcvA : (Value.slice none 0 0) = cvA := (hcv0A rfl).symm
      subst hcvA
      have hCA : Own wA w.heap.size 35 1 (Value.slice none 0 0) 0 ([]) := hCA
      clear hbsA hdpA
      refine op_bslice (e := 35) (pv := []) (cs := []) trivial (by kernel_rfl) ?_
      intro w997 b998 lo_b998 hi_b998 hB1000 E999
      have ne_b998_r : r.ownBlock ≠ some b998 := fun hh => by have := (hO845.lt _ hh).2; omega
      have z_w997 := E999.size
      have hl := hl.keep0 E999
      have hO845 := hO845.keep0 E999
      have hCA := hCA.keep0 E999
      have hb := below_step0 hb E999 hb.size
      exact obCc_end rfl rfl (chP_now (w := w997)) (Own.ofBx (base := w.heap.size) (sz := 1) (n := 0) hB1000 rfl (by decide) (by omega)) ⟨E999, .inr (fun k hk => by simp [Value.ownBlock] at hk; omega)⟩
     ·
      intro o_ ho_; obtain rfl := Option.some.inj ho_; intro aA wA cvA hNA hRA hcv0A hbsA hdpA hCA
      have hRA : w943.grownBy wA (Value.slice none 0 0).ownBlock := hRA
      have hnil_o := (Own.nil w943 w.heap.size 35 1)
      have z_wA := hRA.size
      have hb := below_stepO hb (Own.nil w943 w.heap.size 35 1) hRA hb.size (by omega)
      have hl := hl.keep0 hRA
      have hO845 := hO845.keep0 hRA
      have hCA : Own wA w.heap.size 35 1 cvA 0 ([]) := hCA
      have qA_44 : aA.tmps.getD 44 undef = cvA := (show chP 0 1 cvA (aA.tmps.getD 44 undef) wA from hdpA 0 _ 44 (by kernel_rfl) rfl rfl).2 rfl
      obtain ⟨v989, qA_47, hR990, xqA_47_0⟩ := hdpA 3 _ 47 (by kernel_rfl) rfl rfl
      have hR990 : RdC wA w.heap.size w943.heap.size 1 v989 jj ((((nrm (l.take i)).take jj)).map u16v) := hR990
      clear hbsA hdpA
      have hP1006 := hCA
      refine op_append slt23 (ev_base hNA rfl qA_44) hP1006 (ev_base hNA rfl qA_47) (Src.ofRd Try.underlying23 (by decide) hR990 (one_u16 _)) (by unfold maxLen; omega) (by omega) hb.size ?_
      intro v1001 w1002 hO1004 E1003 hm1005
      have z_w1002 := E1003.size
      have hl := hl.keepO hP1006 E1003 (by omega)
      have hR990 := hR990.keep E1003 (fun k hk => .inr (xqA_47_0.2 k hk))
      have hb := below_stepO hb hP1006 E1003 hb.size (by omega)
      have hO1004 : Own w1002 w.heap.size 35 1 v1001 (0 + jj) ((((nrm (l.take i)).take jj)).map u16v) := by simpa [u8v, u16v, cellsV] using hO1004
      exact obCc_end rfl rfl (chP_now (w := w1002)) hO1004 ⟨E1003, hm1005⟩
     ·
      intro o_ ho_; obtain rfl := Option.some.inj ho_; intro aA wA cvA hNA hRA hcv0A hbsA hdpA hCA
      have hRA : w943.grownBy wA (Value.slice none 0 0).ownBlock := hRA
      have hnil_o := (Own.nil w943 w.heap.size 35 1)
      have z_wA := hRA.size
      have hb := below_stepO hb (Own.nil w943 w.heap.size 35 1) hRA hb.size (by omega)
      have hl := hl.keep0 hRA
      have hO845 := hO845.keep0 hRA
      have hCA : Own wA w.heap.size 35 1 cvA (0 + jj) ((((nrm (l.take i)).take jj)).map u16v) := hCA
      have qA_48 : aA.tmps.getD 48 undef = cvA := (show chP 1 2 cvA (aA.tmps.getD 48 undef) wA from hdpA 4 _ 48 (by kernel_rfl) rfl rfl).2 rfl
      obtain ⟨b1003, qA_53, loA_0, hB1005, xqA_53_0⟩ := hdpA 9 _ 53 (by kernel_rfl) rfl rfl
      have hB1005 : Bx wA b1003 35 [(Value.int .u16 ((l.getD i 0).toNat : Int))] := hB1005
      clear hbsA hdpA
      have hP1012 := hCA
      refine op_append slt23 (ev_base hNA rfl qA_48) hP1012 (ev_base hNA rfl qA_53) (Src.ofRd Try.underlying23 (by decide) (RdC.ofBx (sz := 1) (n := 1) hB1005 rfl (by decide)) (by simp [Value.oneCell', u8v])) (by unfold maxLen; omega) (by omega) hb.size ?_
      intro v1007 w1008 hO1010 E1009 hm1011
      have z_w1008 := E1009.size
      have hl := hl.keepO hP1012 E1009 (by omega)
      have hB1005 := hB1005.keep E1009 (fun hh => xqA_53_0 hh.symm)
      have hb := below_stepO hb hP1012 E1009 hb.size (by omega)
      have hO1010 : Own w1008 w.heap.size 35 1 v1007 ((0 + jj) + 1) (((((nrm (l.take i)).take jj) ++ [(l.getD i 0)])).map u16v) := by simpa [u8v, u16v, cellsV] using hO1010
      exact obCc_end rfl rfl (chP_now (w := w1008)) hO1010 ⟨E1009, hm1011⟩
     ·
      intro o_ ho_; obtain rfl := Option.some.inj ho_; intro aA wA cvA hNA hRA hcv0A hbsA hdpA hCA
      have hRA : w943.grownBy wA (Value.slice none 0 0).ownBlock := hRA
      have hnil_o := (Own.nil w943 w.heap.size 35 1)
      have z_wA := hRA.size
      have hb := below_stepO hb (Own.nil w943 w.heap.size 35 1) hRA hb.size (by omega)
      have hl := hl.keep0 hRA
      have hO845 := hO845.keep0 hRA
      have hCA : Own wA w.heap.size 35 1 cvA ((0 + jj) + 1) (((((nrm (l.take i)).take jj) ++ [(l.getD i 0)])).map u16v) := hCA
      have qA_54 : aA.tmps.getD 54 undef = cvA := (show chP 2 3 cvA (aA.tmps.getD 54 undef) wA from hdpA 10 _ 54 (by kernel_rfl) rfl rfl).2 rfl
      obtain ⟨v1013, qA_57, hR1014, xqA_57_0⟩ := hdpA 13 _ 57 (by kernel_rfl) rfl rfl
      have hR1014 : RdC wA w.heap.size w943.heap.size 1 v1013 ((nrm (l.take i)).length - jj) ((((nrm (l.take i)).drop jj)).map u16v) := hR1014
      clear hbsA hdpA
      have hP1018 := hCA
      refine op_append slt23 (ev_base hNA rfl qA_54) hP1018 (ev_base hNA rfl qA_57) (Src.ofRd Try.underlying23 (by decide) hR1014 (one_u16 _)) (by unfold maxLen; omega) (by omega) hb.size ?_
      intro v1013 w1014 hO1016 E1015 hm1017
      have z_w1014 := E1015.size
      have hl := hl.keepO hP1018 E1015 (by omega)
      have hR1014 := hR1014.keep E1015 (fun k hk => .inr (xqA_57_0.2 k hk))
      have hb := below_stepO hb hP1018 E1015 hb.size (by omega)
      have hO1016 : Own w1014 w.heap.size 35 1 v1013 (((0 + jj) + 1) + ((nrm (l.take i)).length - jj)) ((((((nrm (l.take i)).take jj) ++ [(l.getD i 0)]) ++ ((nrm (l.take i)).drop jj))).map u16v) := by simpa [u8v, u16v, cellsV] using hO1016
      exact obCc_end rfl rfl (chP_now (w := w1014)) hO1016 ⟨E1015, hm1017⟩
     ·
      intro a1019 w1019 v1015 hN1019 hd1019 hbs1019 hph1019 hC1019 E1019 hm1019
      have hd1019 := hd1019.trans hd851
      have s1019_0 := (hbs1019 0 rfl).trans (sl_base hN851 rfl s851_0)
      have s1019_2 := (hbs1019 2 rfl).trans (sl_base hN851 rfl s851_2)
      have s1019_3 : a1019.tmps.getD 3 undef = v1015 := (show chP 3 4 v1015 (a1019.tmps.getD 3 undef) w1019 from hph1019 15 _ 3 rfl rfl).2 rfl
      have s1019_4 := (hbs1019 4 rfl).trans (sl_base hN851 rfl s851_4)
      clear hbs1019 hph1019
      have E1019 : w943.grownBy w1019 (Value.slice none 0 0).ownBlock := E1019
      have hC1019 : Own w1019 w.heap.size 35 1 v1015 (((0 + jj) + 1) + ((nrm (l.take i)).length - jj)) ((((((nrm (l.take i)).take jj) ++ [(l.getD i 0)]) ++ ((nrm (l.take i)).drop jj))).map u16v) := hC1019
      have z_w1019 := E1019.size
      have hl := hl.keepO (Own.nil w943 w.heap.size 35 1) E1019 (by omega)
      have hb := below_stepO hb (Own.nil w943 w.heap.size 35 1) E1019 hb.size (by omega)
      refine hK848 _ _ ?_
      refine one_reg ?_
      refine op_move (ev_base hN1019 rfl s1019_4) ?_
      refine op_add (ev_hit hN1019 rfl) rfl (add64 (by omega)) ?_
      refine op_assign (ev_hit hN1019 rfl) ?_
      refine reg_nil ?_
      -- round 9T 15F 32F 43T
      have hins := insT_at (x := l.getD i 0) (acc := (nrm (l.take i))) (j := jj) hlt (by omega) (by omega)
      exact loop_next _ hN1019 hd1019 ⟨i + 1, _, rfl, (sl_base hN1019 rfl s1019_0), (sl_base hN1019 rfl s1019_2), (sl_hit hN1019 rfl).trans (congrArg (Value.int .i64) (by omega)), (sl_base hN1019 rfl s1019_3), (by omega), (nrm_len (by omega)), hb, (by omega), hl, (hC1019.cast (by rw [take_nrm (by omega), hins.2 (.inr (fun e => c43 (by rw [e])))]; simp; omega) (by rw [take_nrm (by omega), hins.2 (.inr (fun e => c43 (by rw [e])))]; try simp [u16v]))⟩ (by omega)
    · -- 43F
     have c43 := of_decide_eq_false c43
     refine wp_skip ?_
     refine hK848 _ _ ?_
     refine one_reg ?_
     refine op_move (ev_base hN851 rfl s851_4) ?_
     refine op_add (ev_hit hN851 rfl) rfl (add64 (by omega)) ?_
     refine op_assign (ev_hit hN851 rfl) ?_
     refine reg_nil ?_
     -- round 9T 15F 32F 43F
     have hins := insT_at (x := l.getD i 0) (acc := (nrm (l.take i))) (j := jj) hlt (by omega) (by omega)
     exact loop_next _ hN851 hd851 ⟨i + 1, _, rfl, (sl_base hN851 rfl s851_0), (sl_base hN851 rfl s851_2), (sl_hit hN851 rfl).trans (congrArg (Value.int .i64) (by omega)), (sl_base hN851 rfl s851_3), (by omega), (nrm_len (by omega)), hb, (by omega), hl, (hO845.cast (by rw [take_nrm (by omega), hins.1 ⟨by omega, u16_eq (by omega)⟩]) (by rw [take_nrm (by omega), hins.1 ⟨by omega, u16_eq (by omega)⟩]))⟩ (by omega)
 · -- 9F
  refine reg_nil ?_
  refine hK847 _ _ ?_
  refine wp_cond_false (ev_hit hN844 rfl) ?_
  refine wp_exit (then_exit (then_exit (blk_hit ?_)))
  refine hK842 _ _ ?_
  refine seq_any fun K1020 hK1020 => ?_
  refine one_reg ?_
  refine op_move (ev_base hN844 rfl s844_3) ?_
  refine op_assign (ev_hit hN844 rfl) ?_
  refine reg_nil ?_
  refine hK1020 _ _ ?_
  refine wp_ret ?_
  refine ret1 rfl hd844 (ev_hit hN844 rfl) ⟨_, rfl, ?_⟩
  -- path 9F
  rw [take_all l (by omega)] at hO845
  exact ⟨hb, hO845⟩

end Go.Proofs.Ytpmnljffdofkeaa

/- How lists of tags stand, plainly; labels made together. -/
namespace Go.Proofs.Ytpmnljffdofkeaa
open Go.Gx Go.RowKit
theorem cmpG_gt {a b : Lb} {i : Nat} (ha : i < a.length) (hb : b.length ≤ i) : cmpG (a.drop i) (b.drop i) = 1 := by
  rw [List.drop_eq_getElem_cons ha, List.drop_of_length_le hb]; rfl
theorem cmpG_lt {a b : Lb} {i : Nat} (ha : a.length ≤ i) (hb : i < b.length) : cmpG (a.drop i) (b.drop i) = -1 := by
  rw [List.drop_eq_getElem_cons hb, List.drop_of_length_le ha]; rfl
theorem cmpL_or {a b : Lb} : (if cmpI (a.length : Int) (b.length : Int) = 0 then cmpG a b else cmpI (a.length : Int) (b.length : Int)) = cmpL a b := by
  unfold cmpI cmpL; (repeat' split) <;> omega
def joinL (a b : Lb) : Lb := nrm (a ++ b)
/-- the label of tags, or why there is none -/
def normE (l : Lb) : Int := if 8 < (nrm l).length then 7 else 0
def normL (l : Lb) : Lb := if 8 < (nrm l).length then [] else nrm l
theorem normE_bad {l : Lb} (h : 8 < (nrm l).length) : normE l = 7 := if_pos h
theorem normE_ok {l : Lb} (h : ¬ 8 < (nrm l).length) : normE l = 0 := if_neg h
theorem normL_bad {l : Lb} (h : 8 < (nrm l).length) : normL l = [] := if_pos h
theorem normL_ok {l : Lb} (h : ¬ 8 < (nrm l).length) : normL l = nrm l := if_neg h
theorem mayL_nrm (l : Lb) : mayL (nrm l) = decide ((nrm l).length ≤ 8) := by unfold mayL; rw [decide_eq_true (nrm_rise l), Bool.true_and]
/-- whether a door may be made -/
def ownE (owns l : Lb) : Int := if normE l ≠ 0 then normE l else if flowsL (normL l) owns then 0 else 17
theorem ownE_bad {o l : Lb} (h : normE l ≠ 0) : ownE o l = normE l := if_pos h
theorem ownE_ok {o l : Lb} (h : ¬ normE l ≠ 0) (hf : flowsL (normL l) o = true) : ownE o l = 0 := by rw [ownE, if_neg h, if_pos hf]
theorem ownE_not {o l : Lb} (h : ¬ normE l ≠ 0) (hf : flowsL (normL l) o = false) : ownE o l = 17 := by rw [ownE, if_neg h, if_neg (by rw [hf]; decide)]
theorem flows_one (x : UInt16) (o : Lb) : flowsL [x] o = inL x o := by simp [flowsL]
theorem normL_len (l : Lb) : (normL l).length ≤ 8 := by
  unfold normL
  split
  · simp
  · omega
end Go.Proofs.Ytpmnljffdofkeaa

/- Plain laws of rows: what is written is read, cut off it is short, with more behind it is none, and what is read is what is written. -/
namespace Go.Proofs.Ytpmnljffdofkeaa
open Go.Gx
theorem be8_of : ∀ {l : List UInt8}, l.length = 8 → be8 (ofBe l) = l := by
  intro l h
  match l, h with
  | [a, b, c, d, e, f, g, i], _ =>
    have ha := a.toNat_lt; have hb := b.toNat_lt; have hc := c.toNat_lt; have hd := d.toNat_lt; have he := e.toNat_lt; have hf := f.toNat_lt; have hg := g.toNat_lt; have hi := i.toNat_lt
    have e1 : be8 (ofBe [a, b, c, d, e, f, g, i]) = (List.range 8).map fun k => UInt8.ofNat (ofBe [a, b, c, d, e, f, g, i] / 2 ^ (56 - 8 * k)) := rfl
    rw [e1]
    have e2 : ofBe [a, b, c, d, e, f, g, i] = ((((((a.toNat * 256 + b.toNat) * 256 + c.toNat) * 256 + d.toNat) * 256 + e.toNat) * 256 + f.toNat) * 256 + g.toNat) * 256 + i.toNat := by simp [ofBe]
    generalize ofBe [a, b, c, d, e, f, g, i] = m at e2
    have key : ∀ (x : UInt8) (k : Nat), k % 256 = x.toNat → UInt8.ofNat k = x := by
      intro x k hk
      apply UInt8.toNat_inj.1
      rw [UInt8.toNat_ofNat']; omega
    have h0 := key a (m / 2 ^ 56) (by have : (2 : Nat) ^ 56 = 72057594037927936 := by decide
                                      omega)
    have h1 := key b (m / 2 ^ 48) (by have : (2 : Nat) ^ 48 = 281474976710656 := by decide
                                      omega)
    have h2 := key c (m / 2 ^ 40) (by have : (2 : Nat) ^ 40 = 1099511627776 := by decide
                                      omega)
    have h3 := key d (m / 2 ^ 32) (by have : (2 : Nat) ^ 32 = 4294967296 := by decide
                                      omega)
    have h4 := key e (m / 2 ^ 24) (by have : (2 : Nat) ^ 24 = 16777216 := by decide
                                      omega)
    have h5 := key f (m / 2 ^ 16) (by have : (2 : Nat) ^ 16 = 65536 := by decide
                                      omega)
    have h6 := key g (m / 2 ^ 8) (by have : (2 : Nat) ^ 8 = 256 := by decide
                                     omega)
    have h7 := key i (m / 2 ^ 0) (by have : (2 : Nat) ^ 0 = 1 := by decide
                                     omega)
    simp only [List.range, List.range.loop, List.map_cons, List.map_nil]
    rw [show 56 - 8 * 0 = 56 from rfl, show 56 - 8 * 1 = 48 from rfl, show 56 - 8 * 2 = 40 from rfl, show 56 - 8 * 3 = 32 from rfl, show 56 - 8 * 4 = 24 from rfl, show 56 - 8 * 5 = 16 from rfl, show 56 - 8 * 6 = 8 from rfl, show 56 - 8 * 7 = 0 from rfl, h0, h1, h2, h3, h4, h5, h6, h7]
theorem scanT_inr : ∀ {b : List UInt8} {i j : Nat}, i ≤ 30 → scanT b i = .inr j → i ≤ j ∧ j ≤ 30 ∧ (b.take (j - i)).all okB = true ∧ b.take (j - i + 1) = b.take (j - i) ++ [0]
  | [], i, j, _, h => by simp [scanT] at h
  | c :: r, i, j, hi, h => by
    unfold scanT at h
    split at h
    · rename_i hc
      have : i = j := by simpa using h
      subst this
      have hc0 : c = 0 := UInt8.toNat_inj.1 (by simpa using hc)
      exact ⟨Nat.le_refl _, hi, by simp, by simp [hc0]⟩
    · split at h
      · cases h
      · rename_i hz hn
        obtain ⟨h1, h2, h3, h4⟩ := scanT_inr (by omega) h
        have e : j - i = (j - (i + 1)) + 1 := by omega
        have ho : okB c = true := by
          rcases hq : okB c with _ | _
          · exact absurd (.inr hq) hn
          · rfl
        refine ⟨by omega, h2, ?_, ?_⟩
        · rw [e, List.take_succ_cons, List.all_cons, ho, h3]; rfl
        · rw [e, List.take_succ_cons, List.take_succ_cons, h4]; rfl
/-- What is read of bytes is a value that may be, and the bytes are its key. -/
theorem takeV_back {b : List UInt8} (h : (takeV b).2.2 = 0) : mayV (takeV b).1 = true ∧ OkV (takeV b).1 ∧ 0 < (takeV b).2.1 ∧ b = keyV (takeV b).1 ++ b.drop (takeV b).2.1.toNat := by
  cases b with
  | nil => simp [takeV] at h
  | cons c r =>
    have h' := h
    unfold takeV at h' ⊢
    simp only at h' ⊢
    by_cases h1 : c.toNat = 1
    · rw [if_pos h1] at h' ⊢
      by_cases h2 : (c :: r).length < 9
      · rw [if_pos h2] at h'; simp at h'
      · rw [if_neg h2]
        have hl : (r.take 8).length = 8 := by simp at h2 ⊢; omega
        have hb := ofBe_8 (l := r.take 8) (by omega)
        have hc1 : c = 1 := UInt8.toNat_inj.1 (by simpa using h1)
        refine ⟨by simp [mayV], ⟨by simp, by simp only; omega, by simp⟩, by simp, ?_⟩
        have e : upN ((ofBe (r.take 8) : Int) - 9223372036854775808) = ofBe (r.take 8) := by unfold upN; omega
        simp only [keyV, if_true, e, be8_of hl, hc1]
        show (1 : UInt8) :: r = 1 :: r.take 8 ++ (1 :: r).drop 9
        simp
    · rw [if_neg h1] at h' ⊢
      by_cases h2 : c.toNat = 2
      · rw [if_pos h2] at h' ⊢
        have hc2 : c = 2 := UInt8.toNat_inj.1 (by simpa using h2)
        unfold textR at h' ⊢
        rcases hs : scanT r 0 with e | i
        · rcases scanT_val r 0 with ⟨j, g1, _, _⟩ | g | g
          · rw [g1] at hs; cases hs
          · rw [g] at h'; simp [triT] at h'
          · rw [g] at h'; simp [triT] at h'
        · obtain ⟨g1, g2, g3, g4⟩ := scanT_inr (by omega) hs
          simp only [Nat.sub_zero] at g3 g4
          simp only [triT]
          have hil : i < r.length := by
            have := congrArg List.length g4
            simp at this
            omega
          have hlen : (r.take i).length = i := by simp; omega
          refine ⟨by simp [mayV, g3]; omega, ⟨by simp, by simp, by simp; omega⟩, by omega, ?_⟩
          have en : ((i : Int) + 2).toNat = i + 2 := by omega
          rw [en]
          simp only [keyV, hc2]
          rw [if_neg (by decide), ← g4]
          simp
      · rw [if_neg h2] at h'; simp at h'
theorem keyV_pos (x : Vl) : 0 < (keyV x).length := by unfold keyV; split <;> simp
theorem keyV_32 {x : Vl} (h : mayV x = true) : (keyV x).length ≤ 32 := by
  have := may_len h
  unfold keyV; split
  · simp [be8_len]
  · simp; omega
theorem scan_cut : ∀ {s : List UInt8} {i k : Nat}, s.all okB = true → i + s.length ≤ 30 → scanT (s.take k) i = .inl 2
  | [], i, k, _, _ => by simp [scanT]
  | c :: s, i, 0, _, _ => by simp [scanT]
  | c :: s, i, k + 1, h, hl => by
    simp only [List.all_cons, Bool.and_eq_true] at h
    have hc : 32 ≤ c.toNat ∧ c.toNat ≤ 126 := of_decide_eq_true h.1
    simp only [List.length_cons] at hl
    rw [List.take_succ_cons, scanT, if_neg (by omega), if_neg (fun hh => by rcases hh with hh | hh; · omega
                                                                            · rw [h.1] at hh; cases hh)]
    exact scan_cut h.2 (by omega)
/-- A key that is cut off is short. -/
theorem takeV_cut {x : Vl} (hx : mayV x = true) {k : Nat} (hk : k < (keyV x).length) : (takeV ((keyV x).take k)).2.2 = 2 := by
  cases k with
  | zero => simp [takeV]
  | succ k =>
    rcases may_cases hx with ⟨h1, h2⟩ | ⟨h1, h2, h3, h4⟩
    · have e : keyV x = 1 :: be8 (upN x.n) := by rw [keyV, if_pos h1]
      rw [e] at hk ⊢
      rw [List.take_succ_cons, takeV, if_pos (by decide), if_pos (by simp [be8_len] at hk ⊢; omega)]
    · have e : keyV x = 2 :: (x.s ++ [0]) := by rw [keyV, if_neg (by omega)]
      rw [e] at hk ⊢
      rw [List.take_succ_cons, takeV, if_neg (by decide), if_pos (by decide)]
      have hk' : k ≤ x.s.length := by simp at hk; omega
      rw [List.take_append_of_le_length hk', textR, scan_cut h3 (by omega)]
      rfl
theorem many_put : ∀ (l acc : List Vl) (r : List UInt8), (∀ x ∈ l, mayV x = true) → (∀ x ∈ l, OkV x) → manyA acc l.length (l.flatMap keyV ++ r) = (acc ++ l, r, 0)
  | [], acc, r, _, _ => by simp [manyA]
  | x :: l, acc, r, hm, ho => by
    have h := take_key (hm x (by simp)) (ho x (by simp)) (l.flatMap keyV ++ r)
    have e : (x :: l).flatMap keyV ++ r = keyV x ++ (l.flatMap keyV ++ r) := by rw [List.flatMap_cons, List.append_assoc]
    rw [e, List.length_cons, manyA, h]
    simp only [ne_eq, not_true_eq_false, if_false, Int.toNat_natCast, List.drop_left']
    rw [many_put l (acc ++ [x]) r (fun y hy => hm y (by simp [hy])) (fun y hy => ho y (by simp [hy]))]
    simp
theorem many_cut : ∀ (l acc : List Vl) (k : Nat), (∀ x ∈ l, mayV x = true) → (∀ x ∈ l, OkV x) → k < (l.flatMap keyV).length → (manyA acc l.length ((l.flatMap keyV).take k)).2.2 = 2
  | [], acc, k, _, _, hk => by simp at hk
  | x :: l, acc, k, hm, ho, hk => by
    have hx := hm x (by simp)
    rw [List.flatMap_cons, List.length_cons, manyA]
    by_cases hlt : k < (keyV x).length
    · have e : (keyV x ++ l.flatMap keyV).take k = (keyV x).take k := List.take_append_of_le_length (by omega)
      have h2 := takeV_cut hx hlt
      rw [e, if_pos (by rw [h2]; decide), h2]
    · have e : (keyV x ++ l.flatMap keyV).take k = keyV x ++ (l.flatMap keyV).take (k - (keyV x).length) := by
        rw [List.take_append, List.take_of_length_le (by omega)]
      have h := take_key hx (ho x (by simp)) ((l.flatMap keyV).take (k - (keyV x).length))
      rw [e, h]
      simp only [ne_eq, not_true_eq_false, if_false, Int.toNat_natCast]
      rw [List.drop_left]
      refine many_cut l _ _ (fun y hy => hm y (by simp [hy])) (fun y hy => ho y (by simp [hy])) ?_
      rw [List.flatMap_cons, List.length_append] at hk
      omega
theorem many_back : ∀ (n : Nat) (acc : List Vl) (b : List UInt8), (manyA acc n b).2.2 = 0 → ∃ l, (manyA acc n b).1 = acc ++ l ∧ l.length = n ∧ (∀ x ∈ l, mayV x = true) ∧ b = l.flatMap keyV ++ (manyA acc n b).2.1
  | 0, acc, b, _ => ⟨[], by simp [manyA]⟩
  | n + 1, acc, b, h => by
    rw [manyA] at h ⊢
    by_cases he : (takeV b).2.2 ≠ 0
    · rw [if_pos he] at h; exact absurd h he
    · rw [if_neg he] at h ⊢
      have he0 : (takeV b).2.2 = 0 := by simpa using he
      obtain ⟨g1, _, _, g4⟩ := takeV_back he0
      obtain ⟨l, h1, h2, h3, h4⟩ := many_back n _ _ h
      refine ⟨(takeV b).1 :: l, by rw [h1]; simp, by simp [h2], ?_, ?_⟩
      · intro x hx
        rcases List.mem_cons.1 hx with rfl | hx
        · exact g1
        · exact h3 x hx
      · rw [List.flatMap_cons, List.append_assoc, ← h4]; exact g4
theorem putR_eq {l : List Vl} (h : mayR l = true) : putR l = UInt8.ofNat l.length :: l.flatMap keyV := by rw [putR, h]; rfl
theorem ofNat_len {l : List Vl} (h : mayR l = true) : (UInt8.ofNat l.length).toNat = l.length := by
  have := mayR_len h
  rw [UInt8.toNat_ofNat']; omega
/-- What is written is read. -/
theorem take_put {l : List Vl} (h : mayR l = true) (ho : ∀ x ∈ l, OkV x) (r : List UInt8) : takeR (putR l ++ r) = if r.length = 0 then (l, 0) else ([], 3) := by
  have hl := mayR_len h
  have hn := ofNat_len h
  have hm := many_put l [] r (may_of h) ho
  rw [putR_eq h, takeR]
  have e0 : ((UInt8.ofNat l.length :: l.flatMap keyV) ++ r).getD 0 0 = UInt8.ofNat l.length := rfl
  have e1 : ((UInt8.ofNat l.length :: l.flatMap keyV) ++ r).drop 1 = l.flatMap keyV ++ r := rfl
  rw [if_neg (by simp), e0, e1, hn, hm, if_neg (by omega), if_neg (by simp)]
  by_cases hr : r.length = 0
  · rw [if_pos hr, if_neg (by simp only; omega)]; rfl
  · rw [if_neg hr, if_pos (by simp only; omega)]
theorem take_put0 {l : List Vl} (h : mayR l = true) (ho : ∀ x ∈ l, OkV x) : takeR (putR l) = (l, 0) := by
  have := take_put h ho []
  simpa using this
theorem take_more {l : List Vl} (h : mayR l = true) (ho : ∀ x ∈ l, OkV x) (c : UInt8) : (takeR (putR l ++ [c])).2 = 3 := by
  rw [take_put h ho [c]]; rfl
theorem take_cut {l : List Vl} (h : mayR l = true) (ho : ∀ x ∈ l, OkV x) {k : Nat} (hk : k < (putR l).length) : (takeR ((putR l).take k)).2 = 2 := by
  rw [putR_eq h] at hk ⊢
  cases k with
  | zero => rfl
  | succ k =>
    have hl := mayR_len h
    have hn := ofNat_len h
    have hm := many_cut l [] k (may_of h) ho (by simpa using hk)
    rw [List.take_succ_cons, takeR, if_neg (by simp)]
    have e0 : (UInt8.ofNat l.length :: (l.flatMap keyV).take k).getD 0 0 = UInt8.ofNat l.length := rfl
    have e1 : (UInt8.ofNat l.length :: (l.flatMap keyV).take k).drop 1 = (l.flatMap keyV).take k := rfl
    rw [e0, e1, hn, if_neg (by omega), if_pos (by rw [hm]; decide), hm]
/-- What is read is what is written. -/
theorem put_take {b : List UInt8} (h : (takeR b).2 = 0) : putR (takeR b).1 = b := by
  unfold takeR at h ⊢
  by_cases h0 : b.length = 0
  · rw [if_pos h0] at h; simp at h
  · rw [if_neg h0] at h ⊢
    by_cases h1 : (b.getD 0 0).toNat < 1 ∨ 6 < (b.getD 0 0).toNat
    · rw [if_pos h1] at h; simp at h
    · rw [if_neg h1] at h ⊢
      by_cases h2 : (manyA [] (b.getD 0 0).toNat (b.drop 1)).2.2 ≠ 0
      · rw [if_pos h2] at h; exact absurd h h2
      · rw [if_neg h2] at h ⊢
        by_cases h3 : 0 < (manyA [] (b.getD 0 0).toNat (b.drop 1)).2.1.length
        · rw [if_pos h3] at h; simp at h
        · rw [if_neg h3]
          obtain ⟨l, g1, g2, g3, g4⟩ := many_back (b.getD 0 0).toNat [] (b.drop 1) (Decidable.not_not.1 h2)
          have e : (manyA [] (b.getD 0 0).toNat (b.drop 1)).2.1 = [] := List.length_eq_zero_iff.1 (by omega)
          rw [e, List.append_nil] at g4
          rw [List.nil_append] at g1
          show putR (manyA [] (b.getD 0 0).toNat (b.drop 1)).1 = b
          rw [g1]
          have hm : mayR l = true := by
            unfold mayR
            simp only [Bool.and_eq_true, List.all_eq_true, decide_eq_true_eq]
            exact ⟨g3, by omega⟩
          rw [putR_eq hm, ← g4, g2]
          cases b with
          | nil => simp at h0
          | cons c r => simp
theorem putR_200 {l : List Vl} (h : mayR l = true) : (putR l).length < 200 := by
  have h1 := flat_le (key := keyV) (n := 32) (l := l) fun x hx => keyV_32 (may_of h x hx)
  have h2 := mayR_len h
  rw [putR_eq h, List.length_cons]
  omega
theorem putR_inj {a b : List Vl} (ha : mayR a = true) (hb : mayR b = true) (oa : ∀ x ∈ a, OkV x) (ob : ∀ x ∈ b, OkV x) (h : putR a = putR b) : a = b := by
  have h1 := take_put0 ha oa
  have h2 := take_put0 hb ob
  rw [h, h2] at h1
  exact (congrArg Prod.fst h1).symm
theorem mayR_set {a : List Vl} {v : Vl} {k : Nat} (ha : mayR a = true) (hv : mayV v = true) : mayR (a.set k v) = true := by
  have h1 := may_of ha
  have h2 := mayR_len ha
  unfold mayR
  simp only [Bool.and_eq_true, List.all_eq_true, decide_eq_true_eq, List.length_set]
  refine ⟨fun x hx => ?_, h2⟩
  rcases List.mem_or_eq_of_mem_set hx with h | rfl
  · exact h1 x h
  · exact hv
theorem ok_set {a : List Vl} {v : Vl} {k : Nat} (ha : ∀ x ∈ a, OkV x) (hv : OkV v) : ∀ x ∈ a.set k v, OkV x := by
  intro x hx
  rcases List.mem_or_eq_of_mem_set hx with h | rfl
  · exact ha x h
  · exact hv
theorem set_same {a : List Vl} {v : Vl} {k : Nat} (hk : k < a.length) : a = a.set k v ↔ a.getD k V0 = v := by
  constructor
  · intro h
    rw [h, List.getD_eq_getElem?_getD, List.getElem?_set_self hk]; rfl
  · intro h
    rw [List.getD_eq_getElem?_getD, List.getElem?_eq_getElem hk] at h
    have h : a[k] = v := h
    rw [← h, List.set_getElem_self]
theorem putR_pos {l : List Vl} (h : mayR l = true) : 1 ≤ ((putR l).length : Int) := by rw [putR_eq h, List.length_cons]; omega
def placeI (k n : Int) : Int := if n < 1 then 0 else k % n
theorem place_rng (k n : Int) (h : 1 ≤ n) : 0 ≤ placeI k n ∧ placeI k n < n := by
  unfold placeI; rw [if_neg (by omega)]
  exact ⟨Int.emod_nonneg _ (by omega), Int.emod_lt_of_pos _ (by omega)⟩
theorem tmod_rng {k n : Int} (h : 1 ≤ n) : -n < k.tmod n ∧ k.tmod n < n := by
  rcases Int.le_total 0 k with hk | hk
  · have h1 := Int.tmod_nonneg n hk
    have h2 := Int.tmod_lt_of_pos k (show 0 < n by omega)
    omega
  · have h1 := Int.tmod_nonneg n (show 0 ≤ -k by omega)
    have h2 := Int.tmod_lt_of_pos (-k) (show 0 < n by omega)
    rw [Int.neg_tmod] at h1 h2
    omega
theorem wrap_tmod {k n : Int} (hk : -9223372036854775808 ≤ k ∧ k ≤ 9223372036854775807) (hn : n ≤ 9223372036854775807) (h : 1 ≤ n) : IntKind.i64.wrap (k.tmod n) = k.tmod n := by
  have := tmod_rng (k := k) h
  rw [IntKind.wrap_i64]; omega
theorem tmod_pos {k n : Int} (h : 1 ≤ n) (h2 : 0 ≤ k.tmod n) : k.tmod n = k % n := by
  have h3 := tmod_rng (k := k) h
  have e := Int.mul_tdiv_add_tmod k n
  rw [← Int.emod_eq_of_lt h2 h3.2]
  conv => rhs; rw [← e]
  simp
theorem tmod_neg {k n : Int} (h : 1 ≤ n) (h2 : k.tmod n < 0) : k.tmod n + n = k % n := by
  have h3 := tmod_rng (k := k) h
  have e := Int.mul_tdiv_add_tmod k n
  rw [← Int.emod_eq_of_lt (show 0 ≤ k.tmod n + n by omega) (show k.tmod n + n < n by omega)]
  conv => rhs; rw [← e]
  simp
theorem flat_set {a : List Vl} {v : Vl} {k : Nat} (hk : k < a.length) : (a.flatMap cellsV).take (k * 3) ++ cellsV v ++ (a.flatMap cellsV).drop (k * 3 + 3) = (a.set k v).flatMap cellsV := by
  have hl : ∀ (l : List Vl), (l.flatMap cellsV).length = l.length * 3 := fun l => flat_len l fun _ _ => rfl
  have e : a = a.take k ++ a[k] :: a.drop (k + 1) := by rw [List.getElem_cons_drop, List.take_append_drop]
  have h1 : ((a.take k).flatMap cellsV).length = k * 3 := by rw [hl]; simp; omega
  have h2 : (a.flatMap cellsV).take (k * 3) = (a.take k).flatMap cellsV := by
    conv => lhs; rw [e]
    rw [List.flatMap_append, List.take_append_of_le_length (by omega), List.take_of_length_le (by omega)]
  have h3 : (a.flatMap cellsV).drop (k * 3 + 3) = (a.drop (k + 1)).flatMap cellsV := by
    conv => lhs; rw [e]
    rw [List.flatMap_append, List.flatMap_cons, ← List.append_assoc, List.drop_append_of_le_length (by simp [h1, cellsV]), List.drop_of_length_le (by simp [h1, cellsV]), List.nil_append]
  rw [h2, h3, List.set_eq_take_append_cons_drop, if_pos hk, List.flatMap_append, List.flatMap_cons, List.append_assoc]
theorem eqd {p q : Prop} [Decidable p] [Decidable q] (h : p ↔ q) : (decide p == decide q) = true := by
  by_cases hp : p
  · simp [hp, h.1 hp]
  · have hq : ¬q := fun hq => hp (h.2 hq)
    simp [hp, hq]
theorem tmod_nat {m n : Nat} : ((m : Int).tmod (n : Int)) = ((m % n : Nat) : Int) := by
  rw [Int.tmod_eq_emod_of_nonneg (by omega)]; simp
theorem putR_iff {a b : List Vl} (ha : mayR a = true) (hb : mayR b = true) (oa : ∀ x ∈ a, OkV x) (ob : ∀ x ∈ b, OkV x) : putR a = putR b ↔ a = b := ⟨putR_inj ha hb oa ob, congrArg putR⟩
theorem putR_set {a : List Vl} {v : Vl} {k : Nat} (ha : mayR a = true) (hv : mayV v = true) (oa : ∀ x ∈ a, OkV x) (ov : OkV v) (hk : k < a.length) :
    putR a = putR (a.set k v) ↔ (a.getD k V0).k = v.k ∧ (a.getD k V0).n = v.n ∧ (a.getD k V0).s = v.s := by
  rw [putR_iff ha (mayR_set ha hv) oa (ok_set oa ov), set_same hk]
  exact ⟨veq_of, vl_ext⟩
end Go.Proofs.Ytpmnljffdofkeaa

/- Plain laws of labels' bytes and of index keys. -/
namespace Go.Proofs.Ytpmnljffdofkeaa
open Go.Gx
theorem flat_be2_get : ∀ (l : Lb) (r : List UInt8) (i : Nat), i < l.length → (l.flatMap be2 ++ r).getD (2 * i) 0 = UInt8.ofNat ((l.getD i 0).toNat / 256) ∧ (l.flatMap be2 ++ r).getD (2 * i + 1) 0 = UInt8.ofNat (l.getD i 0).toNat
  | [], r, i, h => by simp at h
  | a :: l, r, 0, _ => ⟨rfl, rfl⟩
  | a :: l, r, i + 1, h => by
    have := flat_be2_get l r i (by simpa using h)
    rw [show 2 * (i + 1) = 2 * i + 1 + 1 by omega]
    exact this
theorem of_be2 (t : UInt16) : UInt16.ofNat ((UInt8.ofNat (t.toNat / 256)).toNat * 256 + (UInt8.ofNat t.toNat).toNat) = t := by
  apply UInt16.toNat_inj.1
  have := t.toNat_lt
  rw [UInt16.toNat_ofNat', UInt8.toNat_ofNat', UInt8.toNat_ofNat']; omega
theorem tags_put (l : Lb) (r : List UInt8) : tagsL l.length (putL l ++ r) = l := by
  apply List.ext_getElem
  · rw [tags_len]
  · intro i h1 h2
    obtain ⟨g1, g2⟩ := flat_be2_get l r i h2
    have e1 : (putL l ++ r).getD (1 + 2 * i) 0 = (l.flatMap be2 ++ r).getD (2 * i) 0 := by rw [show 1 + 2 * i = 2 * i + 1 by omega]; rfl
    have e2 : (putL l ++ r).getD (2 + 2 * i) 0 = (l.flatMap be2 ++ r).getD (2 * i + 1) 0 := by rw [show 2 + 2 * i = 2 * i + 1 + 1 by omega]; rfl
    simp only [tagsL, List.getElem_map, List.getElem_range]
    rw [e1, e2, g1, g2, of_be2]
    simp [List.getD_eq_getElem?_getD, h2]
theorem putL_head {l : Lb} (h : l.length ≤ 255) (r : List UInt8) : ((putL l ++ r).getD 0 0).toNat = l.length := by
  show (UInt8.ofNat l.length).toNat = l.length
  rw [UInt8.toNat_ofNat']; omega
theorem takeL_put {l : Lb} (h : mayL l = true) (r : List UInt8) : takeL (putL l ++ r) = (l, (((putL l).length : Nat) : Int), 0) := by
  have h8 := mayL_len h
  have hn := putL_head (l := l) (by omega) r
  have hl : (putL l ++ r).length = 1 + l.length * 2 + r.length := by rw [List.length_append, putL_len]
  rw [takeL, if_neg (by omega), if_neg (by omega), if_neg (by omega), hn, tags_put, if_pos (mayL_rise h), putL_len, Nat.mul_comm]
theorem takeL_cut {l : Lb} (h : mayL l = true) {k : Nat} (hk : k < (putL l).length) : (takeL ((putL l).take k)).2.2 = 2 := by
  have h8 := mayL_len h
  rw [putL_len] at hk
  cases k with
  | zero => rfl
  | succ k =>
    have e0 : (((putL l).take (k + 1)).getD 0 0).toNat = l.length := by
      show (UInt8.ofNat l.length).toNat = l.length
      rw [UInt8.toNat_ofNat']; omega
    have el : ((putL l).take (k + 1)).length = k + 1 := by rw [List.length_take, putL_len]; omega
    rw [takeL, if_neg (by omega), if_neg (by omega), if_pos (by omega)]
theorem keyX_len (x : Vl) (l : Lb) (n : Nat) : (keyX x l n).length = (keyV x).length + (1 + l.length * 2) + 8 := by
  simp only [keyX, List.length_append, be8_len, putL_len]
theorem takeX_put {x : Vl} {l : Lb} {n : Nat} (hx : mayV x = true) (ox : OkV x) (hl : mayL l = true) (r : List UInt8) :
    takeX (keyX x l n ++ r) = if r.length = 0 then (x, l, ofBe (be8 n), 0) else (V0, [], 0, 3) := by
  have e : keyX x l n ++ r = keyV x ++ (putL l ++ (be8 n ++ r)) := by simp only [keyX, List.append_assoc]
  have h1 := take_key hx ox (putL l ++ (be8 n ++ r))
  have h2 := takeL_put hl (be8 n ++ r)
  have d1 : (keyV x ++ (putL l ++ (be8 n ++ r))).drop (keyV x).length = putL l ++ (be8 n ++ r) := List.drop_left
  have d2 : (keyV x ++ (putL l ++ (be8 n ++ r))).drop ((keyV x).length + (putL l).length) = be8 n ++ r := by
    rw [← List.drop_drop, List.drop_left, List.drop_left]
  rw [e, takeX, h1]
  simp only [ne_eq, not_true_eq_false, if_false, Int.toNat_natCast]
  rw [d1, h2]
  simp only [ne_eq, not_true_eq_false, if_false, Int.toNat_natCast]
  rw [d2]
  have hb := be8_len n
  rw [if_neg (by rw [List.length_append]; omega)]
  by_cases hr : r.length = 0
  · have : r = [] := List.length_eq_zero_iff.1 hr
    subst this
    rw [if_neg (by rw [List.length_append]; simp; omega), if_pos hr, List.append_nil]
  · rw [if_pos (by rw [List.length_append]; omega), if_neg hr]
theorem takeX_put0 {x : Vl} {l : Lb} {n : Nat} (hx : mayV x = true) (ox : OkV x) (hl : mayL l = true) (hn : n < 18446744073709551616) : takeX (keyX x l n) = (x, l, n, 0) := by
  have := takeX_put (n := n) hx ox hl []
  rw [List.append_nil, if_pos (show ([] : List UInt8).length = 0 from rfl), ofBe_be8 hn] at this
  exact this
theorem takeX_more {x : Vl} {l : Lb} {n : Nat} (hx : mayV x = true) (ox : OkV x) (hl : mayL l = true) (c : UInt8) : (takeX (keyX x l n ++ [c])).2.2.2 = 3 := by
  rw [takeX_put hx ox hl [c]]; rfl
theorem takeX_cut {x : Vl} {l : Lb} {n : Nat} (hx : mayV x = true) (ox : OkV x) (hl : mayL l = true) {k : Nat} (hk : k < (keyX x l n).length) : (takeX ((keyX x l n).take k)).2.2.2 = 2 := by
  have e : keyX x l n = keyV x ++ (putL l ++ be8 n) := by simp only [keyX, List.append_assoc]
  have hb := be8_len n
  rw [e] at hk ⊢
  simp only [List.length_append] at hk
  by_cases h1 : k < (keyV x).length
  · rw [List.take_append_of_le_length (by omega)]
    have h2 := takeV_cut hx h1
    rw [takeX, if_pos (by rw [h2]; decide), h2]
  · have e1 : (keyV x ++ (putL l ++ be8 n)).take k = keyV x ++ (putL l ++ be8 n).take (k - (keyV x).length) := by
      rw [List.take_append, List.take_of_length_le (by omega)]
    have t1 := take_key hx ox ((putL l ++ be8 n).take (k - (keyV x).length))
    have d1 : (keyV x ++ (putL l ++ be8 n).take (k - (keyV x).length)).drop (keyV x).length = (putL l ++ be8 n).take (k - (keyV x).length) := List.drop_left
    rw [e1, takeX, t1]
    simp only [ne_eq, not_true_eq_false, if_false, Int.toNat_natCast]
    rw [d1]
    by_cases h2 : k - (keyV x).length < (putL l).length
    · rw [List.take_append_of_le_length (by omega)]
      have h3 := takeL_cut hl h2
      rw [if_pos (by rw [h3]; decide), h3]
    · have e2 : (putL l ++ be8 n).take (k - (keyV x).length) = putL l ++ (be8 n).take (k - (keyV x).length - (putL l).length) := by
        rw [List.take_append, List.take_of_length_le (by omega)]
      have t2 := takeL_put hl ((be8 n).take (k - (keyV x).length - (putL l).length))
      rw [e2, t2]
      simp only [ne_eq, not_true_eq_false, if_false, Int.toNat_natCast]
      rw [← List.drop_drop, List.drop_left, List.drop_left, if_pos (by rw [List.length_take]; omega)]
/-! how keys stand -/
theorem cmpT_left : ∀ (a p q : List UInt8), cmpT (a ++ p) (a ++ q) = cmpT p q
  | [], p, q => rfl
  | c :: a, p, q => by rw [List.cons_append, List.cons_append, cmpT_cons, cmpT_left a p q]
theorem cmpT_apart : ∀ {a b : List UInt8} (p q : List UInt8), ¬ a <+: b → ¬ b <+: a → cmpT (a ++ p) (b ++ q) = cmpT a b
  | [], b, p, q, h, _ => absurd (List.nil_prefix) h
  | a :: l, [], p, q, _, h => absurd (List.nil_prefix) h
  | a :: l, b :: m, p, q, h1, h2 => by
    by_cases hab : a = b
    · subst hab
      rw [List.cons_append, List.cons_append, cmpT_cons, cmpT_cons]
      exact cmpT_apart p q (fun h => h1 (by simpa [List.cons_prefix_cons] using h)) (fun h => h2 (by simpa [List.cons_prefix_cons] using h))
    · have : a.toNat ≠ b.toNat := fun h => hab (UInt8.toNat_inj.1 h)
      simp only [List.cons_append, cmpT]
      split
      · rfl
      · split
        · rfl
        · omega
theorem prefix_take {a b : List UInt8} (h : a <+: b) : b.take a.length = a := by
  obtain ⟨t, rfl⟩ := h; simp
theorem keys_begin {x y : Vl} (hx : mayV x = true) (hy : mayV y = true) (ox : OkV x) (oy : OkV y) (h : keyV x <+: keyV y) : x = y := key_prefix hx hy ox oy (prefix_take h)
theorem cmp_keys {x y : Vl} (hx : mayV x = true) (hy : mayV y = true) (ox : OkV x) (oy : OkV y) (p q : List UInt8) : cmpT (keyV x ++ p) (keyV y ++ q) = if cmpV x y = 0 then cmpT p q else cmpV x y := by
  have hw := cmpW_cmpV hx hy
  by_cases h : x = y
  · subst h
    have : cmpV x x = 0 := by rw [← hw]; exact cmpW_zero.2 rfl
    rw [if_pos this, cmpT_left]
  · have hne : cmpV x y ≠ 0 := by rw [← hw]; exact fun hh => h (cmpW_zero.1 hh)
    rw [if_neg hne, cmpT_apart p q (fun hh => h (keys_begin hx hy ox oy hh)) (fun hh => h (keys_begin hy hx oy ox hh).symm), keys_stand hx hy ox oy, hw]
theorem cmp_be2 : ∀ {a b : Lb} (p q : List UInt8), a.length = b.length → cmpT (a.flatMap be2 ++ p) (b.flatMap be2 ++ q) = if cmpG a b = 0 then cmpT p q else cmpG a b
  | [], [], p, q, _ => by simp [cmpG]
  | [], _ :: _, p, q, h => by simp at h
  | _ :: _, [], p, q, h => by simp at h
  | a :: l, b :: m, p, q, h => by
    have ih := cmp_be2 (a := l) (b := m) p q (by simpa using h)
    have ha := a.toNat_lt; have hb := b.toNat_lt
    have e : ∀ (t : UInt16) (l : Lb) (r : List UInt8), (t :: l).flatMap be2 ++ r = UInt8.ofNat (t.toNat / 256) :: UInt8.ofNat t.toNat :: (l.flatMap be2 ++ r) := fun _ _ _ => rfl
    rw [e, e]
    simp only [cmpT, UInt8.toNat_ofNat']
    by_cases h1 : a.toNat < b.toNat
    · have hv : cmpG (a :: l) (b :: m) = -1 := by rw [cmpG, if_pos h1]
      rw [hv, if_neg (show ¬ ((-1 : Int) = 0) by decide)]
      by_cases h2 : a.toNat / 256 % 2 ^ 8 < b.toNat / 256 % 2 ^ 8
      · rw [if_pos h2]
      · rw [if_neg h2, if_neg (by omega), if_pos (by omega)]
    · by_cases h3 : b.toNat < a.toNat
      · have hv : cmpG (a :: l) (b :: m) = 1 := by rw [cmpG, if_neg h1, if_pos h3]
        rw [hv, if_neg (show ¬ ((1 : Int) = 0) by decide)]
        by_cases h2 : b.toNat / 256 % 2 ^ 8 < a.toNat / 256 % 2 ^ 8
        · rw [if_neg (by omega), if_pos h2]
        · rw [if_neg (by omega), if_neg (by omega), if_neg (by omega), if_pos (by omega)]
      · have hv : cmpG (a :: l) (b :: m) = cmpG l m := by rw [cmpG, if_neg h1, if_neg h3]
        rw [hv, if_neg (by omega), if_neg (by omega), if_neg (by omega), if_neg (by omega), ih]
theorem cmp_labels {a b : Lb} (ha : a.length ≤ 255) (hb : b.length ≤ 255) (p q : List UInt8) : cmpT (putL a ++ p) (putL b ++ q) = if cmpL a b = 0 then cmpT p q else cmpL a b := by
  have e : ∀ (l : Lb) (r : List UInt8), putL l ++ r = UInt8.ofNat l.length :: (l.flatMap be2 ++ r) := fun _ _ => rfl
  rw [e, e]
  simp only [cmpT, UInt8.toNat_ofNat']
  by_cases h1 : a.length < b.length
  · have hv : cmpL a b = -1 := by rw [cmpL, if_pos h1]
    rw [hv, if_pos (by omega), if_neg (by decide)]
  · by_cases h2 : b.length < a.length
    · have hv : cmpL a b = 1 := by rw [cmpL, if_neg h1, if_pos h2]
      rw [hv, if_neg (by omega), if_pos (by omega), if_neg (by decide)]
    · have hv : cmpL a b = cmpG a b := by rw [cmpL, if_neg h1, if_neg h2]
      rw [hv, if_neg (by omega), if_neg (by omega), cmp_be2 p q (by omega)]
/-- How index keys stand: by value, then label, then number. -/
def wantX (x y : Vl) (a b : Lb) (i k : Nat) : Int := if cmpV x y ≠ 0 then cmpV x y else if cmpL a b ≠ 0 then cmpL a b else cmpI i k
theorem want1 {x y : Vl} {a b : Lb} {i k : Nat} (h : ¬ cmpV x y = 0) : cmpV x y = wantX x y a b i k := by rw [wantX, if_pos h]
theorem want2 {x y : Vl} {a b : Lb} {i k : Nat} (h : cmpV x y = 0) (h2 : ¬ cmpL a b = 0) : cmpL a b = wantX x y a b i k := by rw [wantX, if_neg (fun hh => hh h), if_pos h2]
theorem want3 {x y : Vl} {a b : Lb} {i k : Nat} (h : cmpV x y = 0) (h2 : cmpL a b = 0) (h3 : (i : Int) = (k : Int)) : cmpL a b = wantX x y a b i k := by
  rw [wantX, if_neg (fun hh => hh h), if_neg (fun hh => hh h2), h2]; unfold cmpI; rw [if_neg (by omega), if_neg (by omega)]
theorem want4 {x y : Vl} {a b : Lb} {i k : Nat} (h : cmpV x y = 0) (h2 : cmpL a b = 0) (h4 : (i : Int) < (k : Int)) : -1 = wantX x y a b i k := by
  rw [wantX, if_neg (fun hh => hh h), if_neg (fun hh => hh h2)]; unfold cmpI; rw [if_pos h4]
theorem want5 {x y : Vl} {a b : Lb} {i k : Nat} (h : cmpV x y = 0) (h2 : cmpL a b = 0) (h3 : (i : Int) ≠ (k : Int)) (h4 : ¬ (i : Int) < (k : Int)) : 1 = wantX x y a b i k := by
  rw [wantX, if_neg (fun hh => hh h), if_neg (fun hh => hh h2)]; unfold cmpI; rw [if_neg h4, if_pos (by omega)]
theorem cmp_index {x y : Vl} {a b : Lb} {i k : Nat} (hx : mayV x = true) (hy : mayV y = true) (ox : OkV x) (oy : OkV y) (ha : mayL a = true) (hb : mayL b = true) (hi : i < 18446744073709551616) (hk : k < 18446744073709551616) :
    cmpT (keyX x a i) (keyX y b k) = wantX x y a b i k := by
  have e : ∀ x l n, keyX x l n = keyV x ++ (putL l ++ be8 n) := fun x l n => by simp only [keyX, List.append_assoc]
  rw [e, e, cmp_keys hx hy ox oy, wantX]
  by_cases h1 : cmpV x y = 0
  · rw [if_pos h1, if_neg (fun h => h h1), cmp_labels (by have := mayL_len ha; omega) (by have := mayL_len hb; omega)]
    by_cases h2 : cmpL a b = 0
    · rw [if_pos h2, if_neg (fun h => h h2), cmpT_be8 hi hk]
    · rw [if_neg h2, if_pos h2]
  · rw [if_neg h1, if_pos h1]
theorem keyX_take (x : Vl) (l : Lb) (n : Nat) : (keyX x l n).take (keyV x).length = keyV x := by
  simp only [keyX, List.append_assoc]; exact List.take_left
theorem prefix_of_take {a b : List UInt8} (h : b.take a.length = a) : a <+: b := by
  have h2 := List.take_prefix a.length b
  rwa [h] at h2
/-- Whether another key begins with a value's bytes. -/
theorem begins_iff {x y : Vl} (hx : mayV x = true) (hy : mayV y = true) (ox : OkV x) (oy : OkV y) (l : Lb) (n : Nat) : (keyX y l n).take (keyV x).length = keyV x ↔ x = y := by
  constructor
  · intro h
    have h1 : keyV x <+: keyX y l n := prefix_of_take h
    have h2 : keyV y <+: keyX y l n := ⟨putL l ++ be8 n, by simp only [keyX, List.append_assoc]⟩
    rcases List.prefix_or_prefix_of_prefix h1 h2 with h | h
    · exact keys_begin hx hy ox oy h
    · exact (keys_begin hy hx oy ox h).symm
  · rintro rfl; exact keyX_take x l n
theorem begT {x y : Vl} (hx : mayV x = true) (hy : mayV y = true) (ox : OkV x) (oy : OkV y) (l : Lb) (n : Nat) : (decide ((keyX y l n).take (keyV x).length = keyV x) == decide (x.k = y.k ∧ x.n = y.n ∧ x.s = y.s)) = true :=
  eqd ((begins_iff hx hy ox oy l n).trans ⟨veq_of, vl_ext⟩)
theorem begF {x y : Vl} {l : Lb} {n : Nat} (h : ¬ ((keyV x).length : Int) ≤ ((keyX y l n).length : Int)) : (false == decide (x.k = y.k ∧ x.n = y.n ∧ x.s = y.s)) = true := by
  have : ¬ (x.k = y.k ∧ x.n = y.n ∧ x.s = y.s) := by
    intro hh
    have := vl_ext hh
    subst this
    have := keyX_len x l n
    omega
  rw [decide_eq_false this]; rfl
end Go.Proofs.Ytpmnljffdofkeaa

/- Walks, written by a program: what each function of the translation hands back. -/
namespace Go.Proofs.Ytpmnljffdofkeaa
open Go.Gx Go.RowKit
attribute [local irreducible] wpList wpStill Code.wp Calls

theorem refMay_ret (l : Lb) (v : Value) (w : World) (hl : l.length ≤ 9223372036854775807) (h : RdC w 0 w.heap.size 1 v l.length (l.map u16v)) : Ret Try.prog 13 #[v] w (fun v' w' => Below w.heap.size w w' ∧ v' = .bool (mayL l)) := by
 have hb := Below.refl w.heap.size w
 refine enter (N := 23) Try.func13 rfl rfl (by simp) fun a0 hN hd hA => ?_
 have s0 : a0.tmps.getD 0 undef = v := hA 0 (by simp)
 clear hA
 refine seq_any fun K1021 hK1021 => ?_
 refine one_reg ?_
 refine op_assign rfl ?_
 refine reg_nil ?_
 refine hK1021 _ _ ?_
 refine seq_any fun K1022 hK1022 => ?_
 refine seq_any fun K1023 hK1023 => ?_
 refine one_reg ?_
 refine op_assign rfl ?_
 refine reg_nil ?_
 refine hK1023 _ _ ?_
 refine wp_block ?_
 refine loop_m (fun mz_ az_ w' => ∃ (i : Nat), mz_ = l.length - i ∧ (az_.tmps.getD 0 undef = v) ∧ (az_.tmps.getD 3 undef = (Value.int .i64 ((i : Nat) : Int))) ∧ (1 ≤ i ∧ (i ≤ l.length ∨ i = 1)) ∧ (Rise (l.take i)) ∧ (Below w.heap.size w w') ∧ (w.heap.size ≤ w'.heap.size) ∧ (RdC w' 0 w.heap.size 1 v l.length (l.map u16v))) _ hN hd ⟨1, rfl, (sl_base hN rfl s0), (sl_hit hN rfl).trans (congrArg (Value.int .i64) (by omega)), ⟨Nat.le_refl _, .inr rfl⟩, rise_one, hb, (Nat.le_refl _), h⟩ ?_
 rintro _ a1024 w1024 hN1024 hd1024 ⟨i, rfl, s1024_0, s1024_3, hi, hr, hb, zl_w1024, h⟩
 have z_w1024 := hb.size
 refine seq_any fun K1025 hK1025 => ?_
 refine seq_any fun K1026 hK1026 => ?_
 refine one_reg ?_
 refine op_move (ev_base hN1024 rfl s1024_3) ?_
 refine op_move (ev_base hN1024 rfl s1024_0) ?_
 refine op_len_rd Try.underlying23 (ev_hit hN1024 rfl) h ?_
 refine op_lss (ev_hit hN1024 rfl) (ev_hit hN1024 rfl) (fun c7 => ?_) (fun c7 => ?_)
 · -- 7T
  refine reg_nil ?_
  refine hK1026 _ _ ?_
  refine wp_cond_true (ev_hit hN1024 rfl) ?_
  refine wp_skip ?_
  refine hK1025 _ _ ?_
  refine seq_any fun K1027 hK1027 => ?_
  refine wp_block ?_
  refine seq_any fun K1028 hK1028 => ?_
  refine reg_still mixed (by kernel_rfl) ?_
  intro w1030 E1029
  have z_w1030 := E1029.size
  have h := h.keep0 E1029
  have hb := below_step0 hb E1029 hb.size
  refine st_step rfl (fun _ h9 => op_move (ev_base hN1024 rfl s1024_0) h9) ?_
  refine st_step rfl (fun _ h9 => op_move (ev_base hN1024 rfl s1024_3) h9) ?_
  refine st_step rfl (fun _ h9 => op_sub (ev_hit hN1024 rfl) rfl (sub64 (by omega)) h9) ?_
  refine st_index_rd slt23 (ev_hit hN1024 rfl) h (ev_hit hN1024 rfl) (by omega) (by omega) ?_
  intro b1031 o1032 h0b1031 h1b1031 hc1033
  refine st_step rfl (fun _ h9 => op_load1 (v := (Value.int .u16 ((l.getD (i - 1) 0).toNat : Int))) one35 (ev_hit hN1024 rfl) (by have := hc1033 0 (Value.int .u16 ((l.getD (i - 1) 0).toNat : Int)) (by decide) (el_u16 (i := (i - 1)) (by omega) (by omega)); simpa using this) h9) ?_
  refine st_step rfl (fun _ h9 => op_move (ev_base hN1024 rfl s1024_0) h9) ?_
  refine st_step rfl (fun _ h9 => op_move (ev_base hN1024 rfl s1024_3) h9) ?_
  refine st_index_rd slt23 (ev_hit hN1024 rfl) h (ev_hit hN1024 rfl) (by omega) (by omega) ?_
  intro b1034 o1035 h0b1034 h1b1034 hc1036
  refine st_step rfl (fun _ h9 => op_load1 (v := (Value.int .u16 ((l.getD i 0).toNat : Int))) one35 (ev_hit hN1024 rfl) (by have := hc1036 0 (Value.int .u16 ((l.getD i 0).toNat : Int)) (by decide) (el_u16 (i := i) (by omega) (by omega)); simpa using this) h9) ?_
  refine st_step rfl (fun _ h9 => op_cmp (b := (decide (((l.getD i 0).toNat : Int) ≤ ((l.getD (i - 1) 0).toNat : Int)))) (ev_hit hN1024 rfl) (ev_hit hN1024 rfl) (b_geq rfl) h9) ?_
  refine st_nil ?_
  refine hK1028 _ _ ?_
  refine wp_cond_split (ev_hit hN1024 rfl) (fun c19 => ?_) (fun c19 => ?_)
  · -- 19T
   have c19 := of_decide_eq_true c19
   refine seq_any fun K1037 hK1037 => ?_
   refine one_reg ?_
   refine op_assign rfl ?_
   refine reg_nil ?_
   refine hK1037 _ _ ?_
   refine wp_ret (blk_ret (then_ret (then_ret (blk_ret (then_ret ( ?_))))))
   refine ret1 rfl hd1024 (ev_hit hN1024 rfl) ⟨_, rfl, ?_⟩
   -- path 7T 19T
   exact ⟨hb, congrArg Value.bool (by rw [mayL, decide_eq_false (rise_bad (i := i) (by omega) (by omega) (by omega)), Bool.false_and])⟩
  · -- 19F
   have c19 := of_decide_eq_false c19
   refine wp_skip ?_
   refine hK1027 _ _ ?_
   refine one_reg ?_
   refine op_move (ev_base hN1024 rfl s1024_3) ?_
   refine op_add (ev_hit hN1024 rfl) rfl (add64 (by omega)) ?_
   refine op_assign (ev_hit hN1024 rfl) ?_
   refine reg_nil ?_
   -- round 7T 19F
   exact loop_next _ hN1024 hd1024 ⟨i + 1, rfl, (sl_base hN1024 rfl s1024_0), (sl_hit hN1024 rfl).trans (congrArg (Value.int .i64) (by omega)), (by omega), (rise_step (by omega) (by omega) hr (by omega)), hb, (by omega), h⟩ (by omega)
 · -- 7F
  refine reg_nil ?_
  refine hK1026 _ _ ?_
  refine wp_cond_false (ev_hit hN1024 rfl) ?_
  refine wp_exit (then_exit (then_exit (blk_hit ?_)))
  refine hK1022 _ _ ?_
  refine seq_any fun K1038 hK1038 => ?_
  refine one_reg ?_
  refine op_move (ev_base hN1024 rfl s1024_0) ?_
  refine op_len_rd Try.underlying23 (ev_hit hN1024 rfl) h ?_
  refine op_leq (ev_hit hN1024 rfl) rfl (fun c22 => ?_) (fun c22 => ?_)
  · -- 22T
   refine op_assign (ev_hit hN1024 rfl) ?_
   refine reg_nil ?_
   refine hK1038 _ _ ?_
   refine wp_ret ?_
   refine ret1 rfl hd1024 (ev_hit hN1024 rfl) ⟨_, rfl, ?_⟩
   -- path 7F 22T
   have hr2 : Rise l := by rwa [List.take_of_length_le (by omega)] at hr
   exact ⟨hb, congrArg Value.bool (by rw [mayL, decide_eq_true hr2, Bool.true_and]; exact (decide_eq_true (by omega)).symm)⟩
  · -- 22F
   refine op_assign (ev_hit hN1024 rfl) ?_
   refine reg_nil ?_
   refine hK1038 _ _ ?_
   refine wp_ret ?_
   refine ret1 rfl hd1024 (ev_hit hN1024 rfl) ⟨_, rfl, ?_⟩
   -- path 7F 22F
   have hr2 : Rise l := by rwa [List.take_of_length_le (by omega)] at hr
   exact ⟨hb, congrArg Value.bool (by rw [mayL, decide_eq_true hr2, Bool.true_and]; exact (decide_eq_false (by omega)).symm)⟩

theorem rises_ret (l : Lb) (v : Value) (w : World) (hl : l.length ≤ 9223372036854775807) (h : RdC w 0 w.heap.size 1 v l.length (l.map u16v)) : Ret Try.prog 47 #[v] w (fun v' w' => Below w.heap.size w w' ∧ v' = .bool (decide (Rise l))) := by
 have hb := Below.refl w.heap.size w
 refine enter (N := 20) Try.func47 rfl rfl (by simp) fun a0 hN hd hA => ?_
 have s0 : a0.tmps.getD 0 undef = v := hA 0 (by simp)
 clear hA
 refine seq_any fun K1039 hK1039 => ?_
 refine one_reg ?_
 refine op_assign rfl ?_
 refine reg_nil ?_
 refine hK1039 _ _ ?_
 refine seq_any fun K1040 hK1040 => ?_
 refine seq_any fun K1041 hK1041 => ?_
 refine one_reg ?_
 refine op_assign rfl ?_
 refine reg_nil ?_
 refine hK1041 _ _ ?_
 refine wp_block ?_
 refine loop_m (fun mz_ az_ w' => ∃ (i : Nat), mz_ = l.length - i ∧ (az_.tmps.getD 0 undef = v) ∧ (az_.tmps.getD 3 undef = (Value.int .i64 ((i : Nat) : Int))) ∧ (1 ≤ i ∧ (i ≤ l.length ∨ i = 1)) ∧ (Rise (l.take i)) ∧ (Below w.heap.size w w') ∧ (w.heap.size ≤ w'.heap.size) ∧ (RdC w' 0 w.heap.size 1 v l.length (l.map u16v))) _ hN hd ⟨1, rfl, (sl_base hN rfl s0), (sl_hit hN rfl).trans (congrArg (Value.int .i64) (by omega)), ⟨Nat.le_refl _, .inr rfl⟩, rise_one, hb, (Nat.le_refl _), h⟩ ?_
 rintro _ a1042 w1042 hN1042 hd1042 ⟨i, rfl, s1042_0, s1042_3, hi, hr, hb, zl_w1042, h⟩
 have z_w1042 := hb.size
 refine seq_any fun K1043 hK1043 => ?_
 refine seq_any fun K1044 hK1044 => ?_
 refine one_reg ?_
 refine op_move (ev_base hN1042 rfl s1042_3) ?_
 refine op_move (ev_base hN1042 rfl s1042_0) ?_
 refine op_len_rd Try.underlying22 (ev_hit hN1042 rfl) h ?_
 refine op_lss (ev_hit hN1042 rfl) (ev_hit hN1042 rfl) (fun c7 => ?_) (fun c7 => ?_)
 · -- 7T
  refine reg_nil ?_
  refine hK1044 _ _ ?_
  refine wp_cond_true (ev_hit hN1042 rfl) ?_
  refine wp_skip ?_
  refine hK1043 _ _ ?_
  refine seq_any fun K1045 hK1045 => ?_
  refine wp_block ?_
  refine seq_any fun K1046 hK1046 => ?_
  refine reg_still mixed (by kernel_rfl) ?_
  intro w1048 E1047
  have z_w1048 := E1047.size
  have h := h.keep0 E1047
  have hb := below_step0 hb E1047 hb.size
  refine st_step rfl (fun _ h9 => op_move (ev_base hN1042 rfl s1042_0) h9) ?_
  refine st_step rfl (fun _ h9 => op_move (ev_base hN1042 rfl s1042_3) h9) ?_
  refine st_step rfl (fun _ h9 => op_sub (ev_hit hN1042 rfl) rfl (sub64 (by omega)) h9) ?_
  refine st_index_rd slt22 (ev_hit hN1042 rfl) h (ev_hit hN1042 rfl) (by omega) (by omega) ?_
  intro b1049 o1050 h0b1049 h1b1049 hc1051
  refine st_step rfl (fun _ h9 => op_load1 (v := (Value.int .u16 ((l.getD (i - 1) 0).toNat : Int))) one35 (ev_hit hN1042 rfl) (by have := hc1051 0 (Value.int .u16 ((l.getD (i - 1) 0).toNat : Int)) (by decide) (el_u16 (i := (i - 1)) (by omega) (by omega)); simpa using this) h9) ?_
  refine st_step rfl (fun _ h9 => op_move (ev_base hN1042 rfl s1042_0) h9) ?_
  refine st_step rfl (fun _ h9 => op_move (ev_base hN1042 rfl s1042_3) h9) ?_
  refine st_index_rd slt22 (ev_hit hN1042 rfl) h (ev_hit hN1042 rfl) (by omega) (by omega) ?_
  intro b1052 o1053 h0b1052 h1b1052 hc1054
  refine st_step rfl (fun _ h9 => op_load1 (v := (Value.int .u16 ((l.getD i 0).toNat : Int))) one35 (ev_hit hN1042 rfl) (by have := hc1054 0 (Value.int .u16 ((l.getD i 0).toNat : Int)) (by decide) (el_u16 (i := i) (by omega) (by omega)); simpa using this) h9) ?_
  refine st_step rfl (fun _ h9 => op_cmp (b := (decide (((l.getD i 0).toNat : Int) ≤ ((l.getD (i - 1) 0).toNat : Int)))) (ev_hit hN1042 rfl) (ev_hit hN1042 rfl) (b_geq rfl) h9) ?_
  refine st_nil ?_
  refine hK1046 _ _ ?_
  refine wp_cond_split (ev_hit hN1042 rfl) (fun c19 => ?_) (fun c19 => ?_)
  · -- 19T
   have c19 := of_decide_eq_true c19
   refine seq_any fun K1055 hK1055 => ?_
   refine one_reg ?_
   refine op_assign rfl ?_
   refine reg_nil ?_
   refine hK1055 _ _ ?_
   refine wp_ret (blk_ret (then_ret (then_ret (blk_ret (then_ret ( ?_))))))
   refine ret1 rfl hd1042 (ev_hit hN1042 rfl) ⟨_, rfl, ?_⟩
   -- path 7T 19T
   exact ⟨hb, congrArg Value.bool (by rw [decide_eq_false (rise_bad (i := i) (by omega) (by omega) (by omega))])⟩
  · -- 19F
   have c19 := of_decide_eq_false c19
   refine wp_skip ?_
   refine hK1045 _ _ ?_
   refine one_reg ?_
   refine op_move (ev_base hN1042 rfl s1042_3) ?_
   refine op_add (ev_hit hN1042 rfl) rfl (add64 (by omega)) ?_
   refine op_assign (ev_hit hN1042 rfl) ?_
   refine reg_nil ?_
   -- round 7T 19F
   exact loop_next _ hN1042 hd1042 ⟨i + 1, rfl, (sl_base hN1042 rfl s1042_0), (sl_hit hN1042 rfl).trans (congrArg (Value.int .i64) (by omega)), (by omega), (rise_step (by omega) (by omega) hr (by omega)), hb, (by omega), h⟩ (by omega)
 · -- 7F
  refine reg_nil ?_
  refine hK1044 _ _ ?_
  refine wp_cond_false (ev_hit hN1042 rfl) ?_
  refine wp_exit (then_exit (then_exit (blk_hit ?_)))
  refine hK1040 _ _ ?_
  refine seq_any fun K1056 hK1056 => ?_
  refine one_reg ?_
  refine op_assign rfl ?_
  refine reg_nil ?_
  refine hK1056 _ _ ?_
  refine wp_ret ?_
  refine ret1 rfl hd1042 (ev_hit hN1042 rfl) ⟨_, rfl, ?_⟩
  -- path 7F
  have hr2 : Rise l := by rwa [List.take_of_length_le (by omega)] at hr
  exact ⟨hb, congrArg Value.bool (by rw [decide_eq_true hr2])⟩

theorem cmpL_ret (l m : Lb) (v u : Value) (w : World) (hl : l.length ≤ 9223372036854775807) (hm : m.length ≤ 9223372036854775807) (h : RdC w 0 w.heap.size 1 v l.length (l.map u16v)) (h2 : RdC w 0 w.heap.size 1 u m.length (m.map u16v)) : Ret Try.prog 32 #[v, u] w (fun v' w' => Below w.heap.size w w' ∧ v' = .int .i64 (cmpL l m)) := by
 have hb := Below.refl w.heap.size w
 refine enter (N := 40) Try.func32 rfl rfl (by simp) fun a0 hN hd hA => ?_
 have s0 : a0.tmps.getD 0 undef = v := hA 0 (by simp)
 have s1 : a0.tmps.getD 1 undef = u := hA 1 (by simp)
 clear hA
 refine seq_any fun K1057 hK1057 => ?_
 refine one_reg ?_
 refine op_assign rfl ?_
 refine reg_nil ?_
 refine hK1057 _ _ ?_
 refine seq_any fun K1058 hK1058 => ?_
 refine seq_any fun K1059 hK1059 => ?_
 refine one_reg ?_
 refine op_move (ev_base hN rfl s0) ?_
 refine op_len_rd Try.underlying23 (ev_hit hN rfl) h ?_
 refine op_move (ev_base hN rfl s1) ?_
 refine op_len_rd Try.underlying23 (ev_hit hN rfl) h2 ?_
 refine op_neq (ev_hit hN rfl) (ev_hit hN rfl) (fun c10 => ?_) (fun c10 => ?_)
 · -- 10T
  refine reg_nil ?_
  refine hK1059 _ _ ?_
  refine wp_cond_true (ev_hit hN rfl) ?_
  refine seq_any fun K1060 hK1060 => ?_
  refine seq_any fun K1061 hK1061 => ?_
  refine one_reg ?_
  refine op_move (ev_base hN rfl s0) ?_
  refine op_len_rd Try.underlying23 (ev_hit hN rfl) h ?_
  refine op_move (ev_base hN rfl s1) ?_
  refine op_len_rd Try.underlying23 (ev_hit hN rfl) h2 ?_
  refine op_lss (ev_hit hN rfl) (ev_hit hN rfl) (fun c15 => ?_) (fun c15 => ?_)
  · -- 15T
   refine reg_nil ?_
   refine hK1061 _ _ ?_
   refine wp_cond_true (ev_hit hN rfl) ?_
   refine seq_any fun K1062 hK1062 => ?_
   refine one_reg ?_
   refine op_assign rfl ?_
   refine reg_nil ?_
   refine hK1062 _ _ ?_
   refine wp_ret (then_ret (then_ret ( ?_)))
   refine ret1 rfl hd (ev_hit hN rfl) ⟨_, rfl, ?_⟩
   -- path 10T 15T
   exact ⟨hb, congrArg (Value.int .i64) (by rw [cmpL, if_pos (by omega)])⟩
  · -- 15F
   refine reg_nil ?_
   refine hK1061 _ _ ?_
   refine wp_cond_false (ev_hit hN rfl) ?_
   refine wp_skip ?_
   refine hK1060 _ _ ?_
   refine seq_any fun K1063 hK1063 => ?_
   refine one_reg ?_
   refine op_assign rfl ?_
   refine reg_nil ?_
   refine hK1063 _ _ ?_
   refine wp_ret (then_ret ( ?_))
   refine ret1 rfl hd (ev_hit hN rfl) ⟨_, rfl, ?_⟩
   -- path 10T 15F
   exact ⟨hb, congrArg (Value.int .i64) (by rw [cmpL, if_neg (by omega), if_pos (by omega)])⟩
 · -- 10F
  refine reg_nil ?_
  refine hK1059 _ _ ?_
  refine wp_cond_false (ev_hit hN rfl) ?_
  refine wp_skip ?_
  refine hK1058 _ _ ?_
  refine seq_any fun K1064 hK1064 => ?_
  refine seq_any fun K1065 hK1065 => ?_
  refine one_reg ?_
  refine op_assign rfl ?_
  refine reg_nil ?_
  refine hK1065 _ _ ?_
  refine wp_block ?_
  refine loop_m (fun mz_ az_ w' => ∃ (i : Nat), mz_ = l.length - i ∧ (az_.tmps.getD 0 undef = v) ∧ (az_.tmps.getD 1 undef = u) ∧ (az_.tmps.getD 5 undef = (Value.int .i64 ((i : Nat) : Int))) ∧ (i ≤ l.length) ∧ (cmpG l m = cmpG (l.drop i) (m.drop i)) ∧ (Below w.heap.size w w') ∧ (w.heap.size ≤ w'.heap.size) ∧ (RdC w' 0 w.heap.size 1 v l.length (l.map u16v)) ∧ (RdC w' 0 w.heap.size 1 u m.length (m.map u16v))) _ hN hd ⟨0, rfl, (sl_base hN rfl s0), (sl_base hN rfl s1), (sl_hit hN rfl), Nat.zero_le _, rfl, hb, (Nat.le_refl _), h, h2⟩ ?_
  rintro _ a1066 w1066 hN1066 hd1066 ⟨i, rfl, s1066_0, s1066_1, s1066_5, hi, he, hb, zl_w1066, h, h2⟩
  have z_w1066 := hb.size
  refine seq_any fun K1067 hK1067 => ?_
  refine seq_any fun K1068 hK1068 => ?_
  refine one_reg ?_
  refine op_move (ev_base hN1066 rfl s1066_5) ?_
  refine op_move (ev_base hN1066 rfl s1066_0) ?_
  refine op_len_rd Try.underlying23 (ev_hit hN1066 rfl) h ?_
  refine op_lss (ev_hit hN1066 rfl) (ev_hit hN1066 rfl) (fun c19 => ?_) (fun c19 => ?_)
  · -- 19T
   refine reg_nil ?_
   refine hK1068 _ _ ?_
   refine wp_cond_true (ev_hit hN1066 rfl) ?_
   refine wp_skip ?_
   refine hK1067 _ _ ?_
   refine seq_any fun K1069 hK1069 => ?_
   refine wp_block ?_
   refine seq_any fun K1070 hK1070 => ?_
   refine seq_any fun K1071 hK1071 => ?_
   refine reg_still mixed (by kernel_rfl) ?_
   intro w1073 E1072
   have z_w1073 := E1072.size
   have h := h.keep0 E1072
   have h2 := h2.keep0 E1072
   have hb := below_step0 hb E1072 hb.size
   refine st_step rfl (fun _ h9 => op_move (ev_base hN1066 rfl s1066_0) h9) ?_
   refine st_step rfl (fun _ h9 => op_move (ev_base hN1066 rfl s1066_5) h9) ?_
   refine st_index_rd slt23 (ev_hit hN1066 rfl) h (ev_hit hN1066 rfl) (by omega) (by omega) ?_
   intro b1074 o1075 h0b1074 h1b1074 hc1076
   refine st_step rfl (fun _ h9 => op_load1 (v := (Value.int .u16 ((l.getD i 0).toNat : Int))) one35 (ev_hit hN1066 rfl) (by have := hc1076 0 (Value.int .u16 ((l.getD i 0).toNat : Int)) (by decide) (el_u16 (i := i) (by omega) (by omega)); simpa using this) h9) ?_
   refine st_step rfl (fun _ h9 => op_move (ev_base hN1066 rfl s1066_1) h9) ?_
   refine st_step rfl (fun _ h9 => op_move (ev_base hN1066 rfl s1066_5) h9) ?_
   refine st_index_rd slt23 (ev_hit hN1066 rfl) h2 (ev_hit hN1066 rfl) (by omega) (by omega) ?_
   intro b1077 o1078 h0b1077 h1b1077 hc1079
   refine st_step rfl (fun _ h9 => op_load1 (v := (Value.int .u16 ((m.getD i 0).toNat : Int))) one35 (ev_hit hN1066 rfl) (by have := hc1079 0 (Value.int .u16 ((m.getD i 0).toNat : Int)) (by decide) (el_u16 (i := i) (by omega) (by omega)); simpa using this) h9) ?_
   refine st_step rfl (fun _ h9 => op_cmp (b := (decide (((l.getD i 0).toNat : Int) < ((m.getD i 0).toNat : Int)))) (ev_hit hN1066 rfl) (ev_hit hN1066 rfl) (b_lss rfl) h9) ?_
   refine st_nil ?_
   refine hK1071 _ _ ?_
   refine wp_cond_split (ev_hit hN1066 rfl) (fun c30 => ?_) (fun c30 => ?_)
   · -- 30T
    have c30 := of_decide_eq_true c30
    refine seq_any fun K1080 hK1080 => ?_
    refine one_reg ?_
    refine op_assign rfl ?_
    refine reg_nil ?_
    refine hK1080 _ _ ?_
    refine wp_ret (then_ret (blk_ret (then_ret (then_ret (blk_ret (then_ret ( ?_)))))))
    refine ret1 rfl hd1066 (ev_hit hN1066 rfl) ⟨_, rfl, ?_⟩
    -- path 10F 19T 30T
    exact ⟨hb, congrArg (Value.int .i64) (by rw [cmpL, if_neg (by omega), if_neg (by omega), he, cmpG_step (by omega) (by omega), if_pos (by omega)])⟩
   · -- 30F
    have c30 := of_decide_eq_false c30
    refine wp_skip ?_
    refine hK1070 _ _ ?_
    refine seq_any fun K1081 hK1081 => ?_
    refine reg_still mixed (by kernel_rfl) ?_
    intro w1083 E1082
    have z_w1083 := E1082.size
    have h := h.keep0 E1082
    have h2 := h2.keep0 E1082
    have hb := below_step0 hb E1082 hb.size
    refine st_step rfl (fun _ h9 => op_move (ev_base hN1066 rfl s1066_0) h9) ?_
    refine st_step rfl (fun _ h9 => op_move (ev_base hN1066 rfl s1066_5) h9) ?_
    refine st_index_rd slt23 (ev_hit hN1066 rfl) h (ev_hit hN1066 rfl) (by omega) (by omega) ?_
    intro b1084 o1085 h0b1084 h1b1084 hc1086
    refine st_step rfl (fun _ h9 => op_load1 (v := (Value.int .u16 ((l.getD i 0).toNat : Int))) one35 (ev_hit hN1066 rfl) (by have := hc1086 0 (Value.int .u16 ((l.getD i 0).toNat : Int)) (by decide) (el_u16 (i := i) (by omega) (by omega)); simpa using this) h9) ?_
    refine st_step rfl (fun _ h9 => op_move (ev_base hN1066 rfl s1066_1) h9) ?_
    refine st_step rfl (fun _ h9 => op_move (ev_base hN1066 rfl s1066_5) h9) ?_
    refine st_index_rd slt23 (ev_hit hN1066 rfl) h2 (ev_hit hN1066 rfl) (by omega) (by omega) ?_
    intro b1087 o1088 h0b1087 h1b1087 hc1089
    refine st_step rfl (fun _ h9 => op_load1 (v := (Value.int .u16 ((m.getD i 0).toNat : Int))) one35 (ev_hit hN1066 rfl) (by have := hc1089 0 (Value.int .u16 ((m.getD i 0).toNat : Int)) (by decide) (el_u16 (i := i) (by omega) (by omega)); simpa using this) h9) ?_
    refine st_step rfl (fun _ h9 => op_cmp (b := (decide (((m.getD i 0).toNat : Int) < ((l.getD i 0).toNat : Int)))) (ev_hit hN1066 rfl) (ev_hit hN1066 rfl) (b_gtr rfl) h9) ?_
    refine st_nil ?_
    refine hK1081 _ _ ?_
    refine wp_cond_split (ev_hit hN1066 rfl) (fun c39 => ?_) (fun c39 => ?_)
    · -- 39T
     have c39 := of_decide_eq_true c39
     refine seq_any fun K1090 hK1090 => ?_
     refine one_reg ?_
     refine op_assign rfl ?_
     refine reg_nil ?_
     refine hK1090 _ _ ?_
     refine wp_ret (blk_ret (then_ret (then_ret (blk_ret (then_ret ( ?_))))))
     refine ret1 rfl hd1066 (ev_hit hN1066 rfl) ⟨_, rfl, ?_⟩
     -- path 10F 19T 30F 39T
     exact ⟨hb, congrArg (Value.int .i64) (by rw [cmpL, if_neg (by omega), if_neg (by omega), he, cmpG_step (by omega) (by omega), if_neg (by omega), if_pos (by omega)])⟩
    · -- 39F
     have c39 := of_decide_eq_false c39
     refine wp_skip ?_
     refine hK1069 _ _ ?_
     refine one_reg ?_
     refine op_move (ev_base hN1066 rfl s1066_5) ?_
     refine op_add (ev_hit hN1066 rfl) rfl (add64 (by omega)) ?_
     refine op_assign (ev_hit hN1066 rfl) ?_
     refine reg_nil ?_
     -- round 10F 19T 30F 39F
     exact loop_next _ hN1066 hd1066 ⟨i + 1, rfl, (sl_base hN1066 rfl s1066_0), (sl_base hN1066 rfl s1066_1), (sl_hit hN1066 rfl).trans (congrArg (Value.int .i64) (by omega)), (by omega), (he.trans ((cmpG_step (by omega) (by omega)).trans (by rw [if_neg (by omega), if_neg (by omega)]))), hb, (by omega), h, h2⟩ (by omega)
  · -- 19F
   refine reg_nil ?_
   refine hK1068 _ _ ?_
   refine wp_cond_false (ev_hit hN1066 rfl) ?_
   refine wp_exit (then_exit (then_exit (blk_hit ?_)))
   refine hK1064 _ _ ?_
   refine seq_any fun K1091 hK1091 => ?_
   refine one_reg ?_
   refine op_assign rfl ?_
   refine reg_nil ?_
   refine hK1091 _ _ ?_
   refine wp_ret ?_
   refine ret1 rfl hd1066 (ev_hit hN1066 rfl) ⟨_, rfl, ?_⟩
   -- path 10F 19F
   exact ⟨hb, congrArg (Value.int .i64) (by rw [cmpL, if_neg (by omega), if_neg (by omega), he, cmpG_end (by omega) (by omega)])⟩

theorem sameL_ret (l m : Lb) (v u : Value) (w : World) (hl : l.length ≤ 9223372036854775807) (hm : m.length ≤ 9223372036854775807) (h : RdC w 0 w.heap.size 1 v l.length (l.map u16v)) (h2 : RdC w 0 w.heap.size 1 u m.length (m.map u16v)) : Ret Try.prog 19 #[v, u] w (fun v' w' => Below w.heap.size w w' ∧ v' = .bool (decide (l = m))) := by
 have hb := Below.refl w.heap.size w
 refine enter (N := 9) Try.func19 rfl rfl (by simp) fun a0 hN hd hA => ?_
 have s0 : a0.tmps.getD 0 undef = v := hA 0 (by simp)
 have s1 : a0.tmps.getD 1 undef = u := hA 1 (by simp)
 clear hA
 refine seq_any fun K1092 hK1092 => ?_
 refine one_reg ?_
 refine op_assign rfl ?_
 refine reg_nil ?_
 refine hK1092 _ _ ?_
 refine seq_any fun K1093 hK1093 => ?_
 refine one_reg ?_
 refine op_move (ev_base hN rfl s0) ?_
 refine op_move (ev_base hN rfl s1) ?_
 refine op_fn (vs := [v, u]) ok32 ⟨(ev_hit hN rfl), ⟨(ev_hit hN rfl), trivial⟩⟩ (cmpL_ret l m _ _ _ (by first | assumption | omega | (simp only [List.length_append, List.length_cons, List.length_nil, List.length_drop, List.length_take]; omega) | (dsimp only; omega) | decide | (simp [keyV, be8_len]; done)) (by first | assumption | omega | (simp only [List.length_append, List.length_cons, List.length_nil, List.length_drop, List.length_take]; omega) | (dsimp only; omega) | decide | (simp [keyV, be8_len]; done)) (show RdC w 0 w.heap.size 1 v l.length (l.map u16v) from by have hh : RdC w 0 w.heap.size 1 _ _ _ := (h.mono (L' := 0) (B' := w.heap.size) (Nat.zero_le _) (by omega)); first | exact hh | exact hh.cast (by first | omega | (simp; try omega)) (by first | rfl | simp [u16v])) (show RdC w 0 w.heap.size 1 u m.length (m.map u16v) from by have hh : RdC w 0 w.heap.size 1 _ _ _ := (h2.mono (L' := 0) (B' := w.heap.size) (Nat.zero_le _) (by omega)); first | exact hh | exact hh.cast (by first | omega | (simp; try omega)) (by first | rfl | simp [u16v]))) ?_
 rintro _ w1094 ⟨E1095, rfl⟩
 have E1095 := grown_of_below E1095
 have z_w1094 := E1095.size
 have h := h.keep0 E1095
 have h2 := h2.keep0 E1095
 have hb := below_step0 hb E1095 hb.size
 refine op_eql (ev_hit hN rfl) rfl (fun c8 => ?_) (fun c8 => ?_)
 · -- 8T
  refine op_assign (ev_hit hN rfl) ?_
  refine reg_nil ?_
  refine hK1093 _ _ ?_
  refine wp_ret ?_
  refine ret1 rfl hd (ev_hit hN rfl) ⟨_, rfl, ?_⟩
  -- path 8T
  exact ⟨hb, congrArg Value.bool (decide_eq_true (cmpL_zero.1 c8)).symm⟩
 · -- 8F
  refine op_assign (ev_hit hN rfl) ?_
  refine reg_nil ?_
  refine hK1093 _ _ ?_
  refine wp_ret ?_
  refine ret1 rfl hd (ev_hit hN rfl) ⟨_, rfl, ?_⟩
  -- path 8F
  exact ⟨hb, congrArg Value.bool (decide_eq_false (fun hh => c8 (cmpL_zero.2 hh))).symm⟩

end Go.Proofs.Ytpmnljffdofkeaa
