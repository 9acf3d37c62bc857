/- Walks, written by a program: what each function of the translation hands back. -/
import Derived.Test.YtkkongnmcfdioaaV3
namespace Go.Proofs.Ytkkongnmcfdioaa
open Go.Gx Go.RowKit
attribute [local irreducible] wpList Code.wp Calls

theorem Twin_ret (bl : List UInt8) (v : Value) (w : World) (hl : bl.length ≤ 140000000000000) (hv : RdC w 0 w.heap.size 1 v bl.length (bl.map u8v)) : Ret Try.prog 33 #[v] w (fun v' w' => Below w.heap.size w w' ∧ ∃ g, v' = .slice (some ⟨g, 0, none⟩) bl.length (bl.length + 3) ∧ w.heap.size ≤ g ∧ g < w'.heap.size ∧ Bx w' g 5 ((bl ++ [229, 229, 229]).map u8v)) := by
  have hb := Below.refl w.heap.size w
  refine enter (N := 27) Try.func33 rfl rfl (by simp) fun a0 hN hd hA => ?_
  have s0 : a0.tmps.getD 0 undef = v := hA 0 (by simp)
  clear hA
  refine seq_any fun K57 hK57 => ?_
  refine one_reg ?_
  refine op_assign rfl ?_
  refine reg_nil ?_
  refine hK57 _ _ ?_
  refine seq_any fun K58 hK58 => ?_
  refine one_reg ?_
  refine op_move (ev_base hN rfl s0) ?_
  refine op_len_rd Try.underlying22 (ev_hit hN rfl) hv ?_
  refine op_add (ev_hit hN rfl) rfl (add64 (by omega)) ?_
  refine op_make_row (n := (bl.length + 3)) slt22 ((ev_hit hN rfl).trans (congrArg (Value.int _) (by omega))) ((ev_hit hN rfl).trans (congrArg (Value.int _) (by omega))) rfl (by omega) (by omega) ?_
  intro w59 b64 lo_b64 hi_b64 hB65 E60
  have z_w59 := E60.size
  have hv := hv.keep0 E60
  have hb := below_step0 hb E60 hb.size
  have hB65 : Bx w59 b64 5 (((List.replicate (bl.length + 3) (0 : UInt8)).map u8v)) := by simpa [u8v] using hB65
  refine op_assign (ev_hit hN rfl) ?_
  refine reg_nil ?_
  refine hK58 _ _ ?_
  refine seq_any fun K66 hK66 => ?_
  refine one_reg ?_
  refine op_move (ev_hit hN rfl) ?_
  refine op_move (ev_base hN rfl s0) ?_
  have hB65_old := hB65
  refine op_copy_row slt22 (ev_hit hN rfl) hB65 (by simp) (ev_hit hN rfl) (m := ((bl.length : Nat) : Int)) hv (by simp) (by simp [Value.oneCell', u8v]) ?_
  intro w67 hB65 E68
  have z_w67 := E68.size
  have hv := hv.keep E68 (fun k hk => .inr (by simp at hk; omega))
  have hb := below_step1 hb E68 hb.size (by omega)
  have hB65 : Bx w67 b64 5 (((bl ++ [0, 0, 0]).map u8v)) := by rw [twin_copy] at hB65; exact hB65
  refine reg_nil ?_
  refine hK66 _ _ ?_
  refine seq_any fun K69 hK69 => ?_
  refine seq_any fun K70 hK70 => ?_
  refine one_reg ?_
  refine op_move (ev_base hN rfl s0) ?_
  refine op_len_rd Try.underlying22 (ev_hit hN rfl) hv ?_
  refine op_assign (ev_hit hN rfl) ?_
  refine reg_nil ?_
  refine hK70 _ _ ?_
  refine wp_block ?_
  refine wp_loop_rounds 4 ?_
  refine rounds_any fun K71 hK71 => ?_
  refine seq_any fun K72 hK72 => ?_
  refine seq_any fun K73 hK73 => ?_
  refine one_reg ?_
  refine op_move (ev_hit hN rfl) ?_
  refine op_move (ev_hit hN rfl) ?_
  refine op_len_rd Try.underlying22 (ev_hit hN rfl) (show RdC w67 b64 (b64 + 1) 1 (Value.slice (some ⟨b64, 0, none⟩) (bl.length + 3) (bl.length + 3)) (bl.length + 3) (((bl ++ [0, 0, 0]).map u8v)) from RdC.ofRowAll (c := (bl.length + 3)) hB65 (by simp) (by omega) (by unfold maxLen; omega)) ?_
  refine op_lss (ev_hit hN rfl) (ev_hit hN rfl) (fun c17 => ?_) (fun c17 => ?_)
  · -- 17 True
    refine reg_nil ?_
    refine hK73 _ _ ?_
    refine wp_cond_true (ev_hit hN rfl) ?_
    refine wp_skip ?_
    refine hK72 _ _ ?_
    refine seq_any fun K74 hK74 => ?_
    refine wp_block ?_
    refine one_reg ?_
    refine op_move (ev_hit hN rfl) ?_
    refine op_move (ev_hit hN rfl) ?_
    refine op_index_row (i := (bl.length)) slt22 (ev_hit hN rfl) (ev_hit hN rfl) (by omega) (by omega) ?_
    have hB65_old := hB65
    refine op_store_row (v := (Value.int .u8 229)) size5 (ev_hit hN rfl) rfl rfl rfl hB65 (by first | (simp; done) | (simp; omega)) ?_
    intro w75 hB65 E76
    have z_w75 := E76.size
    have hv := hv.keep E76 (fun k hk => .inr (by simp at hk; omega))
    have hb := below_step1 hb E76 hb.size (by omega)
    have hB65 : Bx w75 b64 5 (((bl ++ [229, 0, 0]).map u8v)) := by exact (congrArg (Bx _ _ _) (set_tail bl [0, 0, 0] 0 229)).mp hB65
    refine reg_nil ?_
    refine hK74 _ _ ?_
    refine one_reg ?_
    refine op_move (ev_hit hN rfl) ?_
    refine op_add (ev_hit hN rfl) rfl (add64 (by omega)) ?_
    refine op_assign (ev_hit hN rfl) ?_
    refine reg_nil ?_
    refine hK71 _ _ ?_
    refine rounds_any fun K77 hK77 => ?_
    refine seq_any fun K78 hK78 => ?_
    refine seq_any fun K79 hK79 => ?_
    refine one_reg ?_
    refine op_move (ev_hit hN rfl) ?_
    refine op_move (ev_hit hN rfl) ?_
    refine op_len_rd Try.underlying22 (ev_hit hN rfl) (show RdC w75 b64 (b64 + 1) 1 (Value.slice (some ⟨b64, 0, none⟩) (bl.length + 3) (bl.length + 3)) (bl.length + 3) (((bl ++ [229, 0, 0]).map u8v)) from RdC.ofRowAll (c := (bl.length + 3)) hB65 (by simp) (by omega) (by unfold maxLen; omega)) ?_
    refine op_lss (ev_hit hN rfl) (ev_hit hN rfl) (fun c17 => ?_) (fun c17 => ?_)
    · -- 17 True
      refine reg_nil ?_
      refine hK79 _ _ ?_
      refine wp_cond_true (ev_hit hN rfl) ?_
      refine wp_skip ?_
      refine hK78 _ _ ?_
      refine seq_any fun K80 hK80 => ?_
      refine wp_block ?_
      refine one_reg ?_
      refine op_move (ev_hit hN rfl) ?_
      refine op_move (ev_hit hN rfl) ?_
      refine op_index_row (i := ((bl.length) + 1)) slt22 (ev_hit hN rfl) (ev_hit hN rfl) (by omega) (by omega) ?_
      have hB65_old := hB65
      refine op_store_row (v := (Value.int .u8 229)) size5 (ev_hit hN rfl) rfl rfl rfl hB65 (by first | (simp; done) | (simp; omega)) ?_
      intro w81 hB65 E82
      have z_w81 := E82.size
      have hv := hv.keep E82 (fun k hk => .inr (by simp at hk; omega))
      have hb := below_step1 hb E82 hb.size (by omega)
      have hB65 : Bx w81 b64 5 (((bl ++ [229, 229, 0]).map u8v)) := by exact (congrArg (Bx _ _ _) (set_tail bl [229, 0, 0] 1 229)).mp hB65
      refine reg_nil ?_
      refine hK80 _ _ ?_
      refine one_reg ?_
      refine op_move (ev_hit hN rfl) ?_
      refine op_add (ev_hit hN rfl) rfl (add64 (by omega)) ?_
      refine op_assign (ev_hit hN rfl) ?_
      refine reg_nil ?_
      refine hK77 _ _ ?_
      refine rounds_any fun K83 hK83 => ?_
      refine seq_any fun K84 hK84 => ?_
      refine seq_any fun K85 hK85 => ?_
      refine one_reg ?_
      refine op_move (ev_hit hN rfl) ?_
      refine op_move (ev_hit hN rfl) ?_
      refine op_len_rd Try.underlying22 (ev_hit hN rfl) (show RdC w81 b64 (b64 + 1) 1 (Value.slice (some ⟨b64, 0, none⟩) (bl.length + 3) (bl.length + 3)) (bl.length + 3) (((bl ++ [229, 229, 0]).map u8v)) from RdC.ofRowAll (c := (bl.length + 3)) hB65 (by simp) (by omega) (by unfold maxLen; omega)) ?_
      refine op_lss (ev_hit hN rfl) (ev_hit hN rfl) (fun c17 => ?_) (fun c17 => ?_)
      · -- 17 True
        refine reg_nil ?_
        refine hK85 _ _ ?_
        refine wp_cond_true (ev_hit hN rfl) ?_
        refine wp_skip ?_
        refine hK84 _ _ ?_
        refine seq_any fun K86 hK86 => ?_
        refine wp_block ?_
        refine one_reg ?_
        refine op_move (ev_hit hN rfl) ?_
        refine op_move (ev_hit hN rfl) ?_
        refine op_index_row (i := (((bl.length) + 1) + 1)) slt22 (ev_hit hN rfl) (ev_hit hN rfl) (by omega) (by omega) ?_
        have hB65_old := hB65
        refine op_store_row (v := (Value.int .u8 229)) size5 (ev_hit hN rfl) rfl rfl rfl hB65 (by first | (simp; done) | (simp; omega)) ?_
        intro w87 hB65 E88
        have z_w87 := E88.size
        have hv := hv.keep E88 (fun k hk => .inr (by simp at hk; omega))
        have hb := below_step1 hb E88 hb.size (by omega)
        have hB65 : Bx w87 b64 5 (((bl ++ [229, 229, 229]).map u8v)) := by exact (congrArg (Bx _ _ _) (set_tail bl [229, 229, 0] 2 229)).mp hB65
        refine reg_nil ?_
        refine hK86 _ _ ?_
        refine one_reg ?_
        refine op_move (ev_hit hN rfl) ?_
        refine op_add (ev_hit hN rfl) rfl (add64 (by omega)) ?_
        refine op_assign (ev_hit hN rfl) ?_
        refine reg_nil ?_
        refine hK83 _ _ ?_
        refine rounds_any fun K89 hK89 => ?_
        refine seq_any fun K90 hK90 => ?_
        refine seq_any fun K91 hK91 => ?_
        refine one_reg ?_
        refine op_move (ev_hit hN rfl) ?_
        refine op_move (ev_hit hN rfl) ?_
        refine op_len_rd Try.underlying22 (ev_hit hN rfl) (show RdC w87 b64 (b64 + 1) 1 (Value.slice (some ⟨b64, 0, none⟩) (bl.length + 3) (bl.length + 3)) (bl.length + 3) (((bl ++ [229, 229, 229]).map u8v)) from RdC.ofRowAll (c := (bl.length + 3)) hB65 (by simp) (by omega) (by unfold maxLen; omega)) ?_
        refine op_lss (ev_hit hN rfl) (ev_hit hN rfl) (fun c17 => ?_) (fun c17 => ?_)
        · -- 17 True
          exfalso; omega
        · -- 17 False
          refine reg_nil ?_
          refine hK91 _ _ ?_
          refine wp_cond_false (ev_hit hN rfl) ?_
          refine wp_exit (then_exit (then_exit (blk_hit ?_)))
          refine hK69 _ _ ?_
          refine seq_any fun K92 hK92 => ?_
          refine one_reg ?_
          refine op_move (ev_hit hN rfl) ?_
          refine op_move (ev_base hN rfl s0) ?_
          refine op_len_rd Try.underlying22 (ev_hit hN rfl) hv ?_
          refine op_slice_row (m := bl.length) slt22 (ev_hit hN rfl) (ev_hit hN rfl) (by omega) (by omega) ?_
          refine op_assign (ev_hit hN rfl) ?_
          refine reg_nil ?_
          refine hK92 _ _ ?_
          refine wp_ret ?_
          refine ret1 rfl hd (ev_hit hN rfl) ⟨_, rfl, ?_⟩
          -- path 17T 17T 17T 17F
          exact ⟨hb, _, rfl, by omega, by have := hB65.lt; omega, hB65⟩
      · -- 17 False
        exfalso; omega
    · -- 17 False
      exfalso; omega
  · -- 17 False
    exfalso; omega

theorem Kept_ret (tl bl : List UInt8) (g : Nat) (v : Value) (w : World) (htl : tl.length ≤ 140000000000000) (hl : bl.length ≤ 140000000000000) (hg : Bx w g 5 ((tl ++ [229, 229, 229]).map u8v)) (hv : RdC w 0 w.heap.size 1 v bl.length (bl.map u8v)) : Ret Try.prog 38 #[(Value.slice (some ⟨g, 0, none⟩) tl.length (tl.length + 3)), v] w (fun v' w' => Below w.heap.size w w' ∧ v' = .bool (decide (tl = bl))) := by
  have hg_lt := hg.lt
  have hlen : (tl ++ [229, 229, 229]).length = tl.length + 3 := by simp
  have hb := Below.refl w.heap.size w
  refine enter (N := 38) Try.func38 rfl rfl (by simp) fun a0 hN hd hA => ?_
  have s0 : a0.tmps.getD 0 undef = (Value.slice (some ⟨g, 0, none⟩) tl.length (tl.length + 3)) := hA 0 (by simp)
  have s1 : a0.tmps.getD 1 undef = v := hA 1 (by simp)
  clear hA
  refine seq_any fun K93 hK93 => ?_
  refine one_reg ?_
  refine op_assign rfl ?_
  refine reg_nil ?_
  refine hK93 _ _ ?_
  refine seq_any fun K94 hK94 => ?_
  refine one_reg ?_
  refine op_move (ev_base hN rfl s0) ?_
  refine op_move (ev_base hN rfl s0) ?_
  refine op_cap (c := (tl.length + 3)) Try.underlying22 (.inr ⟨_, _, (ev_hit hN rfl)⟩) ?_
  refine op_slice_row (m := (tl.length + 3)) slt22 (ev_hit hN rfl) (ev_hit hN rfl) (by omega) (by omega) ?_
  refine op_assign (ev_hit hN rfl) ?_
  refine reg_nil ?_
  refine hK94 _ _ ?_
  refine seq_any fun K95 hK95 => ?_
  refine seq_any fun K96 hK96 => ?_
  refine one_reg ?_
  refine op_move (ev_base hN rfl s0) ?_
  refine op_str_of (bl := tl) Try.underlying22 Try.underlying5 Try.underlying9 (ev_hit hN rfl) (show RdC w g (g + 1) 1 (Value.slice (some ⟨g, 0, none⟩) tl.length (tl.length + 3)) tl.length ((tl.map u8v)) from by simpa using (RdC.ofRow (sz := 1) (m := tl.length) (c := (tl.length + 3)) hg (by simp) (by omega) (by unfold maxLen; omega))) ?_
  refine op_move (ev_base hN rfl s1) ?_
  refine op_str_of (bl := bl) Try.underlying22 Try.underlying5 Try.underlying9 (ev_hit hN rfl) hv ?_
  refine op_sneq (ev_hit hN rfl) (ev_hit hN rfl) (fun c15 => ?_) (fun c15 => ?_)
  · -- 15 True
    refine op_move (ev_hit hN rfl) ?_
    refine g_false (j := 5) (dj := 16) (b := false) rfl rfl rfl (ev_hit hN rfl) rfl rfl ?_
    refine g_false (j := 5) (dj := 16) (b := false) rfl rfl rfl (ev_hit hN rfl) rfl rfl ?_
    refine g_false (j := 5) (dj := 16) (b := false) rfl rfl rfl (ev_hit hN rfl) rfl rfl ?_
    refine g_false (j := 5) (dj := 16) (b := false) rfl rfl rfl (ev_hit hN rfl) rfl rfl ?_
    refine g_false (j := 5) (dj := 16) (b := false) rfl rfl rfl (ev_hit hN rfl) rfl rfl ?_
    refine g_false (j := 5) (dj := 16) (b := false) rfl rfl rfl (ev_hit hN rfl) rfl rfl ?_
    refine op_pick_t (ev_hit hN rfl) rfl ?_
    refine reg_nil ?_
    refine hK96 _ _ ?_
    refine wp_cond_true (ev_hit hN rfl) ?_
    refine seq_any fun K97 hK97 => ?_
    refine one_reg ?_
    refine op_assign rfl ?_
    refine reg_nil ?_
    refine hK97 _ _ ?_
    refine wp_ret (then_ret ( ?_))
    refine ret1 rfl hd (ev_hit hN rfl) ⟨_, rfl, ?_⟩
    -- path 15T
    exact ⟨hb, congrArg Value.bool (by simp [*])⟩
  · -- 15 False
    refine op_move (ev_hit hN rfl) ?_
    refine g_true (j := 5) (dj := 16) (b := false) rfl rfl rfl (ev_hit hN rfl) ?_
    refine op_move (ev_hit hN rfl) ?_
    refine g_true (j := 5) (dj := 16) (b := false) rfl rfl rfl (ev_hit hN rfl) ?_
    refine op_len_rd Try.underlying22 (ev_hit hN rfl) (show RdC w g (g + 1) 1 (Value.slice (some ⟨g, 0, none⟩) (tl.length + 3) (tl.length + 3)) (tl.length + 3) (((tl ++ [229, 229, 229]).map u8v)) from RdC.ofRowAll (c := (tl.length + 3)) hg (by simp) (by omega) (by unfold maxLen; omega)) ?_
    refine g_true (j := 5) (dj := 16) (b := false) rfl rfl rfl (ev_hit hN rfl) ?_
    refine op_move (ev_base hN rfl s1) ?_
    refine g_true (j := 5) (dj := 16) (b := false) rfl rfl rfl (ev_hit hN rfl) ?_
    refine op_len_rd Try.underlying22 (ev_hit hN rfl) hv ?_
    refine g_true (j := 5) (dj := 16) (b := false) rfl rfl rfl (ev_hit hN rfl) ?_
    refine op_add (ev_hit hN rfl) rfl (add64 (by omega)) ?_
    refine g_true (j := 5) (dj := 16) (b := false) rfl rfl rfl (ev_hit hN rfl) ?_
    refine op_lss (ev_hit hN rfl) (ev_hit hN rfl) (fun c22 => ?_) (fun c22 => ?_)
    · -- 22 True
      exfalso; have := congrArg List.length c15; omega
    · -- 22 False
      refine op_pick_f (ev_hit hN rfl) (ev_hit hN rfl) ?_
      refine reg_nil ?_
      refine hK96 _ _ ?_
      refine wp_cond_false (ev_hit hN rfl) ?_
      refine wp_skip ?_
      refine hK95 _ _ ?_
      refine seq_any fun K98 hK98 => ?_
      refine seq_any fun K99 hK99 => ?_
      refine one_reg ?_
      refine op_move (ev_base hN rfl s1) ?_
      refine op_len_rd Try.underlying22 (ev_hit hN rfl) hv ?_
      refine op_assign (ev_hit hN rfl) ?_
      refine reg_nil ?_
      refine hK99 _ _ ?_
      refine wp_block ?_
      refine wp_loop_rounds 4 ?_
      refine rounds_any fun K100 hK100 => ?_
      refine seq_any fun K101 hK101 => ?_
      refine seq_any fun K102 hK102 => ?_
      refine one_reg ?_
      refine op_move (ev_hit hN rfl) ?_
      refine op_move (ev_base hN rfl s1) ?_
      refine op_len_rd Try.underlying22 (ev_hit hN rfl) hv ?_
      refine op_add (ev_hit hN rfl) rfl (add64 (by omega)) ?_
      refine op_lss (ev_hit hN rfl) (ev_hit hN rfl) (fun c30 => ?_) (fun c30 => ?_)
      · -- 30 True
        refine reg_nil ?_
        refine hK102 _ _ ?_
        refine wp_cond_true (ev_hit hN rfl) ?_
        refine wp_skip ?_
        refine hK101 _ _ ?_
        refine seq_any fun K103 hK103 => ?_
        refine wp_block ?_
        refine seq_any fun K104 hK104 => ?_
        refine one_reg ?_
        have hlen2 := congrArg List.length c15
        refine op_move (ev_hit hN rfl) ?_
        refine op_move (ev_hit hN rfl) ?_
        refine op_index_rd slt22 (ev_hit hN rfl) (show RdC w g (g + 1) 1 (Value.slice (some ⟨g, 0, none⟩) (tl.length + 3) (tl.length + 3)) (tl.length + 3) (((tl ++ [229, 229, 229]).map u8v)) from RdC.ofRowAll (c := (tl.length + 3)) hg (by simp) (by omega) (by unfold maxLen; omega)) (ev_hit hN rfl) (by omega) (by omega) ?_
        intro b105 o106 _ _ hc107
        refine op_load1 (v := (Value.int .u8 (((tl ++ [229, 229, 229]).getD (bl.length) 0).toNat : Int))) one5 (ev_hit hN rfl) (by have := hc107 0 (Value.int .u8 (((tl ++ [229, 229, 229]).getD (bl.length) 0).toNat : Int)) (by decide) (el_u8 (i := (bl.length)) (by omega) (by omega)); simpa using this) ?_
        refine op_neq (ev_hit hN rfl) rfl (fun c37 => ?_) (fun c37 => ?_)
        · -- 37 True
          exfalso; subst c15; exact c37 (congrArg (fun q : UInt8 => ((q.toNat : Nat) : Int)) (getD_tail tl [229, 229, 229] 0))
        · -- 37 False
          refine reg_nil ?_
          refine hK104 _ _ ?_
          refine wp_cond_false (ev_hit hN rfl) ?_
          refine wp_skip ?_
          refine hK103 _ _ ?_
          refine one_reg ?_
          have hlen2 := congrArg List.length c15
          refine op_move (ev_hit hN rfl) ?_
          refine op_add (ev_hit hN rfl) rfl (add64 (by omega)) ?_
          refine op_assign (ev_hit hN rfl) ?_
          refine reg_nil ?_
          refine hK100 _ _ ?_
          refine rounds_any fun K108 hK108 => ?_
          refine seq_any fun K109 hK109 => ?_
          refine seq_any fun K110 hK110 => ?_
          refine one_reg ?_
          refine op_move (ev_hit hN rfl) ?_
          refine op_move (ev_base hN rfl s1) ?_
          refine op_len_rd Try.underlying22 (ev_hit hN rfl) hv ?_
          refine op_add (ev_hit hN rfl) rfl (add64 (by omega)) ?_
          refine op_lss (ev_hit hN rfl) (ev_hit hN rfl) (fun c30 => ?_) (fun c30 => ?_)
          · -- 30 True
            refine reg_nil ?_
            refine hK110 _ _ ?_
            refine wp_cond_true (ev_hit hN rfl) ?_
            refine wp_skip ?_
            refine hK109 _ _ ?_
            refine seq_any fun K111 hK111 => ?_
            refine wp_block ?_
            refine seq_any fun K112 hK112 => ?_
            refine one_reg ?_
            have hlen2 := congrArg List.length c15
            refine op_move (ev_hit hN rfl) ?_
            refine op_move (ev_hit hN rfl) ?_
            refine op_index_rd slt22 (ev_hit hN rfl) (show RdC w g (g + 1) 1 (Value.slice (some ⟨g, 0, none⟩) (tl.length + 3) (tl.length + 3)) (tl.length + 3) (((tl ++ [229, 229, 229]).map u8v)) from RdC.ofRowAll (c := (tl.length + 3)) hg (by simp) (by omega) (by unfold maxLen; omega)) (ev_hit hN rfl) (by omega) (by omega) ?_
            intro b113 o114 _ _ hc115
            refine op_load1 (v := (Value.int .u8 (((tl ++ [229, 229, 229]).getD ((bl.length) + 1) 0).toNat : Int))) one5 (ev_hit hN rfl) (by have := hc115 0 (Value.int .u8 (((tl ++ [229, 229, 229]).getD ((bl.length) + 1) 0).toNat : Int)) (by decide) (el_u8 (i := ((bl.length) + 1)) (by omega) (by omega)); simpa using this) ?_
            refine op_neq (ev_hit hN rfl) rfl (fun c37 => ?_) (fun c37 => ?_)
            · -- 37 True
              exfalso; subst c15; exact c37 (congrArg (fun q : UInt8 => ((q.toNat : Nat) : Int)) (getD_tail tl [229, 229, 229] 1))
            · -- 37 False
              refine reg_nil ?_
              refine hK112 _ _ ?_
              refine wp_cond_false (ev_hit hN rfl) ?_
              refine wp_skip ?_
              refine hK111 _ _ ?_
              refine one_reg ?_
              have hlen2 := congrArg List.length c15
              refine op_move (ev_hit hN rfl) ?_
              refine op_add (ev_hit hN rfl) rfl (add64 (by omega)) ?_
              refine op_assign (ev_hit hN rfl) ?_
              refine reg_nil ?_
              refine hK108 _ _ ?_
              refine rounds_any fun K116 hK116 => ?_
              refine seq_any fun K117 hK117 => ?_
              refine seq_any fun K118 hK118 => ?_
              refine one_reg ?_
              refine op_move (ev_hit hN rfl) ?_
              refine op_move (ev_base hN rfl s1) ?_
              refine op_len_rd Try.underlying22 (ev_hit hN rfl) hv ?_
              refine op_add (ev_hit hN rfl) rfl (add64 (by omega)) ?_
              refine op_lss (ev_hit hN rfl) (ev_hit hN rfl) (fun c30 => ?_) (fun c30 => ?_)
              · -- 30 True
                refine reg_nil ?_
                refine hK118 _ _ ?_
                refine wp_cond_true (ev_hit hN rfl) ?_
                refine wp_skip ?_
                refine hK117 _ _ ?_
                refine seq_any fun K119 hK119 => ?_
                refine wp_block ?_
                refine seq_any fun K120 hK120 => ?_
                refine one_reg ?_
                have hlen2 := congrArg List.length c15
                refine op_move (ev_hit hN rfl) ?_
                refine op_move (ev_hit hN rfl) ?_
                refine op_index_rd slt22 (ev_hit hN rfl) (show RdC w g (g + 1) 1 (Value.slice (some ⟨g, 0, none⟩) (tl.length + 3) (tl.length + 3)) (tl.length + 3) (((tl ++ [229, 229, 229]).map u8v)) from RdC.ofRowAll (c := (tl.length + 3)) hg (by simp) (by omega) (by unfold maxLen; omega)) (ev_hit hN rfl) (by omega) (by omega) ?_
                intro b121 o122 _ _ hc123
                refine op_load1 (v := (Value.int .u8 (((tl ++ [229, 229, 229]).getD (((bl.length) + 1) + 1) 0).toNat : Int))) one5 (ev_hit hN rfl) (by have := hc123 0 (Value.int .u8 (((tl ++ [229, 229, 229]).getD (((bl.length) + 1) + 1) 0).toNat : Int)) (by decide) (el_u8 (i := (((bl.length) + 1) + 1)) (by omega) (by omega)); simpa using this) ?_
                refine op_neq (ev_hit hN rfl) rfl (fun c37 => ?_) (fun c37 => ?_)
                · -- 37 True
                  exfalso; subst c15; exact c37 (congrArg (fun q : UInt8 => ((q.toNat : Nat) : Int)) (getD_tail tl [229, 229, 229] 2))
                · -- 37 False
                  refine reg_nil ?_
                  refine hK120 _ _ ?_
                  refine wp_cond_false (ev_hit hN rfl) ?_
                  refine wp_skip ?_
                  refine hK119 _ _ ?_
                  refine one_reg ?_
                  have hlen2 := congrArg List.length c15
                  refine op_move (ev_hit hN rfl) ?_
                  refine op_add (ev_hit hN rfl) rfl (add64 (by omega)) ?_
                  refine op_assign (ev_hit hN rfl) ?_
                  refine reg_nil ?_
                  refine hK116 _ _ ?_
                  refine rounds_any fun K124 hK124 => ?_
                  refine seq_any fun K125 hK125 => ?_
                  refine seq_any fun K126 hK126 => ?_
                  refine one_reg ?_
                  refine op_move (ev_hit hN rfl) ?_
                  refine op_move (ev_base hN rfl s1) ?_
                  refine op_len_rd Try.underlying22 (ev_hit hN rfl) hv ?_
                  refine op_add (ev_hit hN rfl) rfl (add64 (by omega)) ?_
                  refine op_lss (ev_hit hN rfl) (ev_hit hN rfl) (fun c30 => ?_) (fun c30 => ?_)
                  · -- 30 True
                    exfalso; omega
                  · -- 30 False
                    refine reg_nil ?_
                    refine hK126 _ _ ?_
                    refine wp_cond_false (ev_hit hN rfl) ?_
                    refine wp_exit (then_exit (then_exit (blk_hit ?_)))
                    refine hK98 _ _ ?_
                    refine seq_any fun K127 hK127 => ?_
                    refine one_reg ?_
                    refine op_assign rfl ?_
                    refine reg_nil ?_
                    refine hK127 _ _ ?_
                    refine wp_ret ?_
                    refine ret1 rfl hd (ev_hit hN rfl) ⟨_, rfl, ?_⟩
                    -- path 15F 22F 30T 37F 30T 37F 30T 37F 30F
                    exact ⟨hb, congrArg Value.bool (by simp [*])⟩
              · -- 30 False
                exfalso; omega
          · -- 30 False
            exfalso; omega
      · -- 30 False
        exfalso; omega

theorem Spoil_ret (v : Value) (n base : Nat) (cs : List Value) (w : World) (O : Own w base 5 1 v n cs) : Ret Try.prog 39 #[v] w (fun v' w' => w.grownBy w' v.ownBlock ∧ v' = .tuple #[]) := by
  have hb := grown_refl w v.ownBlock
  refine enter (N := 17) Try.func39 rfl rfl (by simp) fun a0 hN hd hA => ?_
  have s0 : a0.tmps.getD 0 undef = v := hA 0 (by simp)
  clear hA
  refine seq_any fun K128 hK128 => ?_
  refine one_reg ?_
  refine op_move (ev_base hN rfl s0) ?_
  refine op_move (ev_base hN rfl s0) ?_
  obtain ⟨cap129, hcap130_1, hcap130_2, hcap130⟩ := O.capOf
  have hcap130_3 : cap129 ≤ 9223372036854775807 := hcap130_2
  refine op_cap (c := cap129) Try.underlying22 (by rw [(ev_hit hN rfl)]; exact hcap130) ?_
  refine op_slice_cap slt22 (ev_hit hN rfl) O hcap130 (ev_hit hN rfl) ?_
  intro v131 cs132 hO133 ho134
  refine op_assign (ev_hit hN rfl) ?_
  refine reg_nil ?_
  refine hK128 _ _ ?_
  refine seq_any fun K135 hK135 => ?_
  refine one_reg ?_
  refine op_assign rfl ?_
  refine reg_nil ?_
  refine hK135 _ _ ?_
  refine wp_block ?_
  refine loop_m (fun m a w' => ∃ (i : Nat) (cs1 : List Value), m = cap129 - i ∧ (a.tmps.getD 0 undef = v) ∧ (a.tmps.getD 2 undef = v131) ∧ (a.tmps.getD 4 undef = v) ∧ (a.tmps.getD 5 undef = v) ∧ (a.tmps.getD 6 undef = (Value.int .i64 ((cap129 : Nat) : Int))) ∧ (a.tmps.getD 7 undef = v131) ∧ (a.tmps.getD 3 undef = (Value.int .i64 ((i : Nat) : Int))) ∧ (i ≤ cap129) ∧ (w.grownBy w' v.ownBlock) ∧ (Own w' base 5 1 v131 cap129 (cs1))) _ hN hd ⟨0, _, rfl, (sl_base hN rfl s0), (sl_hit hN rfl), (sl_hit hN rfl), (sl_hit hN rfl), (sl_hit hN rfl), (sl_hit hN rfl), (sl_hit hN rfl), Nat.zero_le _, hb, hO133⟩ ?_
  rintro _ a136 w136 hN136 hd136 ⟨i, cs1, rfl, s136_0, s136_2, s136_4, s136_5, s136_6, s136_7, s136_3, hi, hb, hO137⟩
  have z_w136 := hb.size
  refine seq_any fun K138 hK138 => ?_
  refine seq_any fun K139 hK139 => ?_
  refine one_reg ?_
  refine op_move (ev_base hN136 rfl s136_3) ?_
  refine op_move (ev_base hN136 rfl s136_2) ?_
  refine op_len_rd Try.underlying22 (ev_hit hN136 rfl) hO137.rdw ?_
  refine op_lss (ev_hit hN136 rfl) (ev_hit hN136 rfl) (fun c11 => ?_) (fun c11 => ?_)
  · -- 11 True
    refine reg_nil ?_
    refine hK139 _ _ ?_
    refine wp_cond_true (ev_hit hN136 rfl) ?_
    refine wp_skip ?_
    refine hK138 _ _ ?_
    refine seq_any fun K140 hK140 => ?_
    refine wp_block ?_
    refine one_reg ?_
    refine op_move (ev_base hN136 rfl s136_2) ?_
    refine op_move (ev_base hN136 rfl s136_3) ?_
    refine op_index_own (i := i) slt22 (ev_hit hN136 rfl) hO137 (ev_hit hN136 rfl) (by omega) (by omega) ?_
    intro b141 o142 lo_b141 hA143
    have hA143 : AtV v131 (i) b141 o142 := by simpa using hA143
    have hP146 := hO137
    refine op_store_own (vs := [(Value.int .u8 90)]) size5 (ev_hit hN136 rfl) rfl rfl rfl rfl hP146 hA143 (by have := hP146.1; simp; omega) ?_
    intro w144 hO147 E145
    have z_w144 := E145.size
    have hb := grow_stepX hb E145 (ho134.trans rfl)
    have hO147 : Own w144 base 5 1 v131 cap129 ((cs1.take (i) ++ [(Value.int .u8 90)] ++ cs1.drop (i + 1))) := by simpa using hO147
    refine reg_nil ?_
    refine hK140 _ _ ?_
    refine one_reg ?_
    refine op_move (ev_base hN136 rfl s136_3) ?_
    refine op_add (ev_hit hN136 rfl) rfl (add64 (by omega)) ?_
    refine op_assign (ev_hit hN136 rfl) ?_
    refine reg_nil ?_
    -- round 11T
    exact loop_next _ hN136 hd136 ⟨i + 1, _, rfl, (sl_base hN136 rfl s136_0), (sl_base hN136 rfl s136_2), (sl_base hN136 rfl s136_4), (sl_base hN136 rfl s136_5), (sl_base hN136 rfl s136_6), (sl_base hN136 rfl s136_7), (sl_hit hN136 rfl).trans (congrArg (Value.int .i64) (by omega)), (by omega), hb, hO147⟩ (by omega)
  · -- 11 False
    refine reg_nil ?_
    refine hK139 _ _ ?_
    refine wp_cond_false (ev_hit hN136 rfl) ?_
    refine wp_exit (then_exit (then_exit (blk_hit ?_)))
    refine end_ret ?_
    refine ret0 rfl hd136  ⟨_, rfl, ?_⟩
    -- path 11F
    exact ⟨hb, rfl⟩

end Go.Proofs.Ytkkongnmcfdioaa
