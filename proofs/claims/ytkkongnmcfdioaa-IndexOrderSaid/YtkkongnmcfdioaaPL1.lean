/- Walks, written by a program: what each function of the translation hands back. -/
import Derived.Test.YtkkongnmcfdioaaV7
import Derived.Test.YtkkongnmcfdioaaRPlain
namespace Go.Proofs.Ytkkongnmcfdioaa
open Go.Gx Go.RowKit
attribute [local irreducible] wpList Code.wp Calls

theorem Place_ret (k n : Int) (w : World) (hk : -9223372036854775808 ≤ k ∧ k ≤ 9223372036854775807) (hn : n ≤ 9223372036854775807) : Ret Try.prog 52 #[(Value.int .i64 k), (Value.int .i64 n)] w (fun v' w' => Below w.heap.size w w' ∧ v' = .int .i64 (placeI k n)) := by
  have hb := Below.refl w.heap.size w
  refine enter (N := 16) Try.func52 rfl rfl (by simp) fun a0 hN hd hA => ?_
  have s0 : a0.tmps.getD 0 undef = (Value.int .i64 k) := hA 0 (by simp)
  have s1 : a0.tmps.getD 1 undef = (Value.int .i64 n) := hA 1 (by simp)
  clear hA
  refine seq_any fun K1 hK1 => ?_
  refine one_reg ?_
  refine op_assign rfl ?_
  refine reg_nil ?_
  refine hK1 _ _ ?_
  refine seq_any fun K2 hK2 => ?_
  refine seq_any fun K3 hK3 => ?_
  refine one_reg ?_
  refine op_move (ev_base hN rfl s1) ?_
  refine op_lss (ev_hit hN rfl) rfl (fun c6 => ?_) (fun c6 => ?_)
  · -- 6 True
    refine reg_nil ?_
    refine hK3 _ _ ?_
    refine wp_cond_true (ev_hit hN rfl) ?_
    refine seq_any fun K4 hK4 => ?_
    refine one_reg ?_
    refine op_assign rfl ?_
    refine reg_nil ?_
    refine hK4 _ _ ?_
    refine wp_ret (then_ret ( ?_))
    refine ret1 rfl hd (ev_hit hN rfl) ⟨_, rfl, ?_⟩
    -- path 6T
    exact ⟨hb, congrArg (Value.int .i64) (by rw [placeI, if_pos (by omega)])⟩
  · -- 6 False
    refine reg_nil ?_
    refine hK3 _ _ ?_
    refine wp_cond_false (ev_hit hN rfl) ?_
    refine wp_skip ?_
    refine hK2 _ _ ?_
    refine seq_any fun K5 hK5 => ?_
    refine one_reg ?_
    refine op_move (ev_base hN rfl s0) ?_
    refine op_move (ev_base hN rfl s1) ?_
    refine op_rem (r := (k.tmod n)) (ev_hit hN rfl) (ev_hit hN rfl) (by omega) rfl ?_
    refine op_assign (ev_hit hN rfl) ?_
    refine reg_nil ?_
    refine hK5 _ _ ?_
    refine seq_any fun K6 hK6 => ?_
    refine seq_any fun K7 hK7 => ?_
    refine one_reg ?_
    have htm := tmod_rng (k := k) (n := n) (by omega)
    refine op_move (ev_hit hN rfl) ?_
    refine op_lss (ev_hit hN rfl) rfl (fun c11 => ?_) (fun c11 => ?_)
    · -- 11 True
      refine reg_nil ?_
      refine hK7 _ _ ?_
      refine wp_cond_true (ev_hit hN rfl) ?_
      refine one_reg ?_
      refine op_move (ev_hit hN rfl) ?_
      refine op_move (ev_base hN rfl s1) ?_
      refine op_add (ev_hit hN rfl) (ev_hit hN rfl) (add64 (by omega)) ?_
      refine op_assign (ev_hit hN rfl) ?_
      refine reg_nil ?_
      refine hK6 _ _ ?_
      refine seq_any fun K8 hK8 => ?_
      refine one_reg ?_
      refine op_move (ev_hit hN rfl) ?_
      refine op_assign (ev_hit hN rfl) ?_
      refine reg_nil ?_
      refine hK8 _ _ ?_
      refine wp_ret ?_
      refine ret1 rfl hd (ev_hit hN rfl) ⟨_, rfl, ?_⟩
      -- path 6F 11T
      exact ⟨hb, congrArg (Value.int .i64) (by rw [placeI, if_neg (by omega)]; exact tmod_neg (by omega) (by omega))⟩
    · -- 11 False
      refine reg_nil ?_
      refine hK7 _ _ ?_
      refine wp_cond_false (ev_hit hN rfl) ?_
      refine wp_skip ?_
      refine hK6 _ _ ?_
      refine seq_any fun K9 hK9 => ?_
      refine one_reg ?_
      refine op_move (ev_hit hN rfl) ?_
      refine op_assign (ev_hit hN rfl) ?_
      refine reg_nil ?_
      refine hK9 _ _ ?_
      refine wp_ret ?_
      refine ret1 rfl hd (ev_hit hN rfl) ⟨_, rfl, ?_⟩
      -- path 6F 11F
      exact ⟨hb, congrArg (Value.int .i64) (by rw [placeI, if_neg (by omega)]; exact tmod_pos (by omega) (by omega))⟩

end Go.Proofs.Ytkkongnmcfdioaa
