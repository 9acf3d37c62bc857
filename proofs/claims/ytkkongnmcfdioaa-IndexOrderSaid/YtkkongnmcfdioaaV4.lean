/- Walks, written by a program: what each function of the translation hands back. -/
import Derived.Test.YtkkongnmcfdioaaV3
namespace Go.Proofs.Ytkkongnmcfdioaa
open Go.Gx Go.RowKit
attribute [local irreducible] wpList Code.wp Calls

theorem Twin_ret (bl : List UInt8) (v : Value) (w : World) (hl : bl.length ≤ 140000000000000) (hv : RdC w 0 w.heap.size 1 v bl.length (bl.map u8v)) : Ret Try.prog 33 #[v] w (fun v' w' => Below w.heap.size w w' ∧ ∃ g, v' = .slice (some ⟨g, 0, none⟩) bl.length (bl.length + 3) ∧ w.heap.size ≤ g ∧ g < w'.heap.size ∧ Bx w' g 5 ((bl ++ [229, 229, 229]).map u8v)) := by
  have hb := Below.refl w.heap.size w
  refine enter (N := 27) Try.func33 rfl rfl (by simp) fun a0 hN hd hA => ?_
  have s0 : a0.tmps.getD 0 undef = v := hA 0 (by simp)
  clear hA
  refine seq_any fun K322 hK322 => ?_
  refine one_reg ?_
  refine op_assign rfl ?_
  refine reg_nil ?_
  refine hK322 _ _ ?_
  refine seq_any fun K323 hK323 => ?_
  refine one_reg ?_
  refine op_move (ev_base hN rfl s0) ?_
  refine op_len_rd Try.underlying22 (ev_hit hN rfl) hv ?_
  refine op_add (ev_hit hN rfl) rfl (add64 (by omega)) ?_
  refine op_make_row (n := (bl.length + 3)) slt22 ((ev_hit hN rfl).trans (congrArg (Value.int _) (by omega))) ((ev_hit hN rfl).trans (congrArg (Value.int _) (by omega))) rfl (by omega) (by omega) ?_
  intro w324 b329 lo_b329 hi_b329 hB330 E325
  have z_w324 := E325.size
  have hv := hv.keep0 E325
  have hb := below_step0 hb E325 hb.size
  have hB330 : Bx w324 b329 5 (((List.replicate (bl.length + 3) (0 : UInt8)).map u8v)) := by simpa [u8v] using hB330
  refine op_assign (ev_hit hN rfl) ?_
  refine reg_nil ?_
  refine hK323 _ _ ?_
  refine seq_any fun K331 hK331 => ?_
  refine one_reg ?_
  refine op_move (ev_hit hN rfl) ?_
  refine op_move (ev_base hN rfl s0) ?_
  have hB330_old := hB330
  refine op_copy_row slt22 (ev_hit hN rfl) hB330 (by simp) (ev_hit hN rfl) (m := ((bl.length : Nat) : Int)) hv (by simp) (by simp [Value.oneCell', u8v]) ?_
  intro w332 hB330 E333
  have z_w332 := E333.size
  have hv := hv.keep E333 (fun k hk => .inr (by simp at hk; omega))
  have hb := below_step1 hb E333 hb.size (by omega)
  have hB330 : Bx w332 b329 5 (((bl ++ [0, 0, 0]).map u8v)) := by rw [twin_copy] at hB330; exact hB330
  refine reg_nil ?_
  refine hK331 _ _ ?_
  refine seq_any fun K334 hK334 => ?_
  refine seq_any fun K335 hK335 => ?_
  refine one_reg ?_
  refine op_move (ev_base hN rfl s0) ?_
  refine op_len_rd Try.underlying22 (ev_hit hN rfl) hv ?_
  refine op_assign (ev_hit hN rfl) ?_
  refine reg_nil ?_
  refine hK335 _ _ ?_
  refine wp_block ?_
  refine wp_loop_rounds 4 ?_
  refine rounds_any fun K336 hK336 => ?_
  refine seq_any fun K337 hK337 => ?_
  refine seq_any fun K338 hK338 => ?_
  refine one_reg ?_
  refine op_move (ev_hit hN rfl) ?_
  refine op_move (ev_hit hN rfl) ?_
  refine op_len_rd Try.underlying22 (ev_hit hN rfl) (show RdC w332 b329 (b329 + 1) 1 (Value.slice (some ⟨b329, 0, none⟩) (bl.length + 3) (bl.length + 3)) (bl.length + 3) (((bl ++ [0, 0, 0]).map u8v)) from RdC.ofRowAll (c := (bl.length + 3)) hB330 (by simp) (by omega) (by unfold maxLen; omega)) ?_
  refine op_lss (ev_hit hN rfl) (ev_hit hN rfl) (fun c17 => ?_) (fun c17 => ?_)
  · -- 17 True
    refine reg_nil ?_
    refine hK338 _ _ ?_
    refine wp_cond_true (ev_hit hN rfl) ?_
    refine wp_skip ?_
    refine hK337 _ _ ?_
    refine seq_any fun K339 hK339 => ?_
    refine wp_block ?_
    refine one_reg ?_
    refine op_move (ev_hit hN rfl) ?_
    refine op_move (ev_hit hN rfl) ?_
    refine op_index_row (i := (bl.length)) slt22 (ev_hit hN rfl) (ev_hit hN rfl) (by omega) (by omega) ?_
    have hB330_old := hB330
    refine op_store_row (v := (Value.int .u8 229)) size5 (ev_hit hN rfl) rfl rfl rfl hB330 (by first | (simp; done) | (simp; omega)) ?_
    intro w340 hB330 E341
    have z_w340 := E341.size
    have hv := hv.keep E341 (fun k hk => .inr (by simp at hk; omega))
    have hb := below_step1 hb E341 hb.size (by omega)
    have hB330 : Bx w340 b329 5 (((bl ++ [229, 0, 0]).map u8v)) := by exact (congrArg (Bx _ _ _) (set_tail bl [0, 0, 0] 0 229)).mp hB330
    refine reg_nil ?_
    refine hK339 _ _ ?_
    refine one_reg ?_
    refine op_move (ev_hit hN rfl) ?_
    refine op_add (ev_hit hN rfl) rfl (add64 (by omega)) ?_
    refine op_assign (ev_hit hN rfl) ?_
    refine reg_nil ?_
    refine hK336 _ _ ?_
    refine rounds_any fun K342 hK342 => ?_
    refine seq_any fun K343 hK343 => ?_
    refine seq_any fun K344 hK344 => ?_
    refine one_reg ?_
    refine op_move (ev_hit hN rfl) ?_
    refine op_move (ev_hit hN rfl) ?_
    refine op_len_rd Try.underlying22 (ev_hit hN rfl) (show RdC w340 b329 (b329 + 1) 1 (Value.slice (some ⟨b329, 0, none⟩) (bl.length + 3) (bl.length + 3)) (bl.length + 3) (((bl ++ [229, 0, 0]).map u8v)) from RdC.ofRowAll (c := (bl.length + 3)) hB330 (by simp) (by omega) (by unfold maxLen; omega)) ?_
    refine op_lss (ev_hit hN rfl) (ev_hit hN rfl) (fun c17 => ?_) (fun c17 => ?_)
    · -- 17 True
      refine reg_nil ?_
      refine hK344 _ _ ?_
      refine wp_cond_true (ev_hit hN rfl) ?_
      refine wp_skip ?_
      refine hK343 _ _ ?_
      refine seq_any fun K345 hK345 => ?_
      refine wp_block ?_
      refine one_reg ?_
      refine op_move (ev_hit hN rfl) ?_
      refine op_move (ev_hit hN rfl) ?_
      refine op_index_row (i := ((bl.length) + 1)) slt22 (ev_hit hN rfl) (ev_hit hN rfl) (by omega) (by omega) ?_
      have hB330_old := hB330
      refine op_store_row (v := (Value.int .u8 229)) size5 (ev_hit hN rfl) rfl rfl rfl hB330 (by first | (simp; done) | (simp; omega)) ?_
      intro w346 hB330 E347
      have z_w346 := E347.size
      have hv := hv.keep E347 (fun k hk => .inr (by simp at hk; omega))
      have hb := below_step1 hb E347 hb.size (by omega)
      have hB330 : Bx w346 b329 5 (((bl ++ [229, 229, 0]).map u8v)) := by exact (congrArg (Bx _ _ _) (set_tail bl [229, 0, 0] 1 229)).mp hB330
      refine reg_nil ?_
      refine hK345 _ _ ?_
      refine one_reg ?_
      refine op_move (ev_hit hN rfl) ?_
      refine op_add (ev_hit hN rfl) rfl (add64 (by omega)) ?_
      refine op_assign (ev_hit hN rfl) ?_
      refine reg_nil ?_
      refine hK342 _ _ ?_
      refine rounds_any fun K348 hK348 => ?_
      refine seq_any fun K349 hK349 => ?_
      refine seq_any fun K350 hK350 => ?_
      refine one_reg ?_
      refine op_move (ev_hit hN rfl) ?_
      refine op_move (ev_hit hN rfl) ?_
      refine op_len_rd Try.underlying22 (ev_hit hN rfl) (show RdC w346 b329 (b329 + 1) 1 (Value.slice (some ⟨b329, 0, none⟩) (bl.length + 3) (bl.length + 3)) (bl.length + 3) (((bl ++ [229, 229, 0]).map u8v)) from RdC.ofRowAll (c := (bl.length + 3)) hB330 (by simp) (by omega) (by unfold maxLen; omega)) ?_
      refine op_lss (ev_hit hN rfl) (ev_hit hN rfl) (fun c17 => ?_) (fun c17 => ?_)
      · -- 17 True
        refine reg_nil ?_
        refine hK350 _ _ ?_
        refine wp_cond_true (ev_hit hN rfl) ?_
        refine wp_skip ?_
        refine hK349 _ _ ?_
        refine seq_any fun K351 hK351 => ?_
        refine wp_block ?_
        refine one_reg ?_
        refine op_move (ev_hit hN rfl) ?_
        refine op_move (ev_hit hN rfl) ?_
        refine op_index_row (i := (((bl.length) + 1) + 1)) slt22 (ev_hit hN rfl) (ev_hit hN rfl) (by omega) (by omega) ?_
        have hB330_old := hB330
        refine op_store_row (v := (Value.int .u8 229)) size5 (ev_hit hN rfl) rfl rfl rfl hB330 (by first | (simp; done) | (simp; omega)) ?_
        intro w352 hB330 E353
        have z_w352 := E353.size
        have hv := hv.keep E353 (fun k hk => .inr (by simp at hk; omega))
        have hb := below_step1 hb E353 hb.size (by omega)
        have hB330 : Bx w352 b329 5 (((bl ++ [229, 229, 229]).map u8v)) := by exact (congrArg (Bx _ _ _) (set_tail bl [229, 229, 0] 2 229)).mp hB330
        refine reg_nil ?_
        refine hK351 _ _ ?_
        refine one_reg ?_
        refine op_move (ev_hit hN rfl) ?_
        refine op_add (ev_hit hN rfl) rfl (add64 (by omega)) ?_
        refine op_assign (ev_hit hN rfl) ?_
        refine reg_nil ?_
        refine hK348 _ _ ?_
        refine rounds_any fun K354 hK354 => ?_
        refine seq_any fun K355 hK355 => ?_
        refine seq_any fun K356 hK356 => ?_
        refine one_reg ?_
        refine op_move (ev_hit hN rfl) ?_
        refine op_move (ev_hit hN rfl) ?_
        refine op_len_rd Try.underlying22 (ev_hit hN rfl) (show RdC w352 b329 (b329 + 1) 1 (Value.slice (some ⟨b329, 0, none⟩) (bl.length + 3) (bl.length + 3)) (bl.length + 3) (((bl ++ [229, 229, 229]).map u8v)) from RdC.ofRowAll (c := (bl.length + 3)) hB330 (by simp) (by omega) (by unfold maxLen; omega)) ?_
        refine op_lss (ev_hit hN rfl) (ev_hit hN rfl) (fun c17 => ?_) (fun c17 => ?_)
        · -- 17 True
          exfalso; omega
        · -- 17 False
          refine reg_nil ?_
          refine hK356 _ _ ?_
          refine wp_cond_false (ev_hit hN rfl) ?_
          refine wp_exit (then_exit (then_exit (blk_hit ?_)))
          refine hK334 _ _ ?_
          refine seq_any fun K357 hK357 => ?_
          refine one_reg ?_
          refine op_move (ev_hit hN rfl) ?_
          refine op_move (ev_base hN rfl s0) ?_
          refine op_len_rd Try.underlying22 (ev_hit hN rfl) hv ?_
          refine op_slice_row (m := bl.length) slt22 (ev_hit hN rfl) (ev_hit hN rfl) (by omega) (by omega) ?_
          refine op_assign (ev_hit hN rfl) ?_
          refine reg_nil ?_
          refine hK357 _ _ ?_
          refine wp_ret ?_
          refine ret1 rfl hd (ev_hit hN rfl) ⟨_, rfl, ?_⟩
          -- path 17T 17T 17T 17F
          exact ⟨hb, _, rfl, by omega, by have := hB330.lt; omega, hB330⟩
      · -- 17 False
        exfalso; omega
    · -- 17 False
      exfalso; omega
  · -- 17 False
    exfalso; omega

theorem Kept_ret (tl bl : List UInt8) (g : Nat) (v : Value) (w : World) (htl : tl.length ≤ 140000000000000) (hl : bl.length ≤ 140000000000000) (hg : Bx w g 5 ((tl ++ [229, 229, 229]).map u8v)) (hv : RdC w 0 w.heap.size 1 v bl.length (bl.map u8v)) : Ret Try.prog 38 #[(Value.slice (some ⟨g, 0, none⟩) tl.length (tl.length + 3)), v] w (fun v' w' => Below w.heap.size w w' ∧ v' = .bool (decide (tl = bl))) := by
  have hg_lt := hg.lt
  have hlen : (tl ++ [229, 229, 229]).length = tl.length + 3 := by simp
  have hb := Below.refl w.heap.size w
  refine enter (N := 38) Try.func38 rfl rfl (by simp) fun a0 hN hd hA => ?_
  have s0 : a0.tmps.getD 0 undef = (Value.slice (some ⟨g, 0, none⟩) tl.length (tl.length + 3)) := hA 0 (by simp)
  have s1 : a0.tmps.getD 1 undef = v := hA 1 (by simp)
  clear hA
  refine seq_any fun K358 hK358 => ?_
  refine one_reg ?_
  refine op_assign rfl ?_
  refine reg_nil ?_
  refine hK358 _ _ ?_
  refine seq_any fun K359 hK359 => ?_
  refine one_reg ?_
  refine op_move (ev_base hN rfl s0) ?_
  refine op_move (ev_base hN rfl s0) ?_
  refine op_cap (c := (tl.length + 3)) Try.underlying22 (.inr ⟨_, _, (ev_hit hN rfl)⟩) ?_
  refine op_slice_row (m := (tl.length + 3)) slt22 (ev_hit hN rfl) (ev_hit hN rfl) (by omega) (by omega) ?_
  refine op_assign (ev_hit hN rfl) ?_
  refine reg_nil ?_
  refine hK359 _ _ ?_
  refine seq_any fun K360 hK360 => ?_
  refine seq_any fun K361 hK361 => ?_
  refine one_reg ?_
  refine op_move (ev_base hN rfl s0) ?_
  refine op_str_of (bl := tl) Try.underlying22 Try.underlying5 Try.underlying9 (ev_hit hN rfl) (show RdC w g (g + 1) 1 (Value.slice (some ⟨g, 0, none⟩) tl.length (tl.length + 3)) tl.length ((tl.map u8v)) from by simpa using (RdC.ofRow (sz := 1) (m := tl.length) (c := (tl.length + 3)) hg (by simp) (by omega) (by unfold maxLen; omega))) ?_
  refine op_move (ev_base hN rfl s1) ?_
  refine op_str_of (bl := bl) Try.underlying22 Try.underlying5 Try.underlying9 (ev_hit hN rfl) hv ?_
  refine op_sneq (ev_hit hN rfl) (ev_hit hN rfl) (fun c15 => ?_) (fun c15 => ?_)
  · -- 15 True
    refine op_move (ev_hit hN rfl) ?_
    refine g_false (j := 5) (dj := 16) (b := false) rfl rfl rfl (ev_hit hN rfl) rfl rfl ?_
    refine g_false (j := 5) (dj := 16) (b := false) rfl rfl rfl (ev_hit hN rfl) rfl rfl ?_
    refine g_false (j := 5) (dj := 16) (b := false) rfl rfl rfl (ev_hit hN rfl) rfl rfl ?_
    refine g_false (j := 5) (dj := 16) (b := false) rfl rfl rfl (ev_hit hN rfl) rfl rfl ?_
    refine g_false (j := 5) (dj := 16) (b := false) rfl rfl rfl (ev_hit hN rfl) rfl rfl ?_
    refine g_false (j := 5) (dj := 16) (b := false) rfl rfl rfl (ev_hit hN rfl) rfl rfl ?_
    refine op_pick_t (ev_hit hN rfl) rfl ?_
    refine reg_nil ?_
    refine hK361 _ _ ?_
    refine wp_cond_true (ev_hit hN rfl) ?_
    refine seq_any fun K362 hK362 => ?_
    refine one_reg ?_
    refine op_assign rfl ?_
    refine reg_nil ?_
    refine hK362 _ _ ?_
    refine wp_ret (then_ret ( ?_))
    refine ret1 rfl hd (ev_hit hN rfl) ⟨_, rfl, ?_⟩
    -- path 15T
    exact ⟨hb, congrArg Value.bool (by simp [*])⟩
  · -- 15 False
    refine op_move (ev_hit hN rfl) ?_
    refine g_true (j := 5) (dj := 16) (b := false) rfl rfl rfl (ev_hit hN rfl) ?_
    refine op_move (ev_hit hN rfl) ?_
    refine g_true (j := 5) (dj := 16) (b := false) rfl rfl rfl (ev_hit hN rfl) ?_
    refine op_len_rd Try.underlying22 (ev_hit hN rfl) (show RdC w g (g + 1) 1 (Value.slice (some ⟨g, 0, none⟩) (tl.length + 3) (tl.length + 3)) (tl.length + 3) (((tl ++ [229, 229, 229]).map u8v)) from RdC.ofRowAll (c := (tl.length + 3)) hg (by simp) (by omega) (by unfold maxLen; omega)) ?_
    refine g_true (j := 5) (dj := 16) (b := false) rfl rfl rfl (ev_hit hN rfl) ?_
    refine op_move (ev_base hN rfl s1) ?_
    refine g_true (j := 5) (dj := 16) (b := false) rfl rfl rfl (ev_hit hN rfl) ?_
    refine op_len_rd Try.underlying22 (ev_hit hN rfl) hv ?_
    refine g_true (j := 5) (dj := 16) (b := false) rfl rfl rfl (ev_hit hN rfl) ?_
    refine op_add (ev_hit hN rfl) rfl (add64 (by omega)) ?_
    refine g_true (j := 5) (dj := 16) (b := false) rfl rfl rfl (ev_hit hN rfl) ?_
    refine op_lss (ev_hit hN rfl) (ev_hit hN rfl) (fun c22 => ?_) (fun c22 => ?_)
    · -- 22 True
      exfalso; have := congrArg List.length c15; omega
    · -- 22 False
      refine op_pick_f (ev_hit hN rfl) (ev_hit hN rfl) ?_
      refine reg_nil ?_
      refine hK361 _ _ ?_
      refine wp_cond_false (ev_hit hN rfl) ?_
      refine wp_skip ?_
      refine hK360 _ _ ?_
      refine seq_any fun K363 hK363 => ?_
      refine seq_any fun K364 hK364 => ?_
      refine one_reg ?_
      refine op_move (ev_base hN rfl s1) ?_
      refine op_len_rd Try.underlying22 (ev_hit hN rfl) hv ?_
      refine op_assign (ev_hit hN rfl) ?_
      refine reg_nil ?_
      refine hK364 _ _ ?_
      refine wp_block ?_
      refine wp_loop_rounds 4 ?_
      refine rounds_any fun K365 hK365 => ?_
      refine seq_any fun K366 hK366 => ?_
      refine seq_any fun K367 hK367 => ?_
      refine one_reg ?_
      refine op_move (ev_hit hN rfl) ?_
      refine op_move (ev_base hN rfl s1) ?_
      refine op_len_rd Try.underlying22 (ev_hit hN rfl) hv ?_
      refine op_add (ev_hit hN rfl) rfl (add64 (by omega)) ?_
      refine op_lss (ev_hit hN rfl) (ev_hit hN rfl) (fun c30 => ?_) (fun c30 => ?_)
      · -- 30 True
        refine reg_nil ?_
        refine hK367 _ _ ?_
        refine wp_cond_true (ev_hit hN rfl) ?_
        refine wp_skip ?_
        refine hK366 _ _ ?_
        refine seq_any fun K368 hK368 => ?_
        refine wp_block ?_
        refine seq_any fun K369 hK369 => ?_
        refine one_reg ?_
        have hlen2 := congrArg List.length c15
        refine op_move (ev_hit hN rfl) ?_
        refine op_move (ev_hit hN rfl) ?_
        refine op_index_rd slt22 (ev_hit hN rfl) (show RdC w g (g + 1) 1 (Value.slice (some ⟨g, 0, none⟩) (tl.length + 3) (tl.length + 3)) (tl.length + 3) (((tl ++ [229, 229, 229]).map u8v)) from RdC.ofRowAll (c := (tl.length + 3)) hg (by simp) (by omega) (by unfold maxLen; omega)) (ev_hit hN rfl) (by omega) (by omega) ?_
        intro b370 o371 _ _ hc372
        refine op_load1 (v := (Value.int .u8 (((tl ++ [229, 229, 229]).getD (bl.length) 0).toNat : Int))) one5 (ev_hit hN rfl) (by have := hc372 0 (Value.int .u8 (((tl ++ [229, 229, 229]).getD (bl.length) 0).toNat : Int)) (by decide) (el_u8 (i := (bl.length)) (by omega) (by omega)); simpa using this) ?_
        refine op_neq (ev_hit hN rfl) rfl (fun c37 => ?_) (fun c37 => ?_)
        · -- 37 True
          exfalso; subst c15; exact c37 (congrArg (fun q : UInt8 => ((q.toNat : Nat) : Int)) (getD_tail tl [229, 229, 229] 0))
        · -- 37 False
          refine reg_nil ?_
          refine hK369 _ _ ?_
          refine wp_cond_false (ev_hit hN rfl) ?_
          refine wp_skip ?_
          refine hK368 _ _ ?_
          refine one_reg ?_
          have hlen2 := congrArg List.length c15
          refine op_move (ev_hit hN rfl) ?_
          refine op_add (ev_hit hN rfl) rfl (add64 (by omega)) ?_
          refine op_assign (ev_hit hN rfl) ?_
          refine reg_nil ?_
          refine hK365 _ _ ?_
          refine rounds_any fun K373 hK373 => ?_
          refine seq_any fun K374 hK374 => ?_
          refine seq_any fun K375 hK375 => ?_
          refine one_reg ?_
          refine op_move (ev_hit hN rfl) ?_
          refine op_move (ev_base hN rfl s1) ?_
          refine op_len_rd Try.underlying22 (ev_hit hN rfl) hv ?_
          refine op_add (ev_hit hN rfl) rfl (add64 (by omega)) ?_
          refine op_lss (ev_hit hN rfl) (ev_hit hN rfl) (fun c30 => ?_) (fun c30 => ?_)
          · -- 30 True
            refine reg_nil ?_
            refine hK375 _ _ ?_
            refine wp_cond_true (ev_hit hN rfl) ?_
            refine wp_skip ?_
            refine hK374 _ _ ?_
            refine seq_any fun K376 hK376 => ?_
            refine wp_block ?_
            refine seq_any fun K377 hK377 => ?_
            refine one_reg ?_
            have hlen2 := congrArg List.length c15
            refine op_move (ev_hit hN rfl) ?_
            refine op_move (ev_hit hN rfl) ?_
            refine op_index_rd slt22 (ev_hit hN rfl) (show RdC w g (g + 1) 1 (Value.slice (some ⟨g, 0, none⟩) (tl.length + 3) (tl.length + 3)) (tl.length + 3) (((tl ++ [229, 229, 229]).map u8v)) from RdC.ofRowAll (c := (tl.length + 3)) hg (by simp) (by omega) (by unfold maxLen; omega)) (ev_hit hN rfl) (by omega) (by omega) ?_
            intro b378 o379 _ _ hc380
            refine op_load1 (v := (Value.int .u8 (((tl ++ [229, 229, 229]).getD ((bl.length) + 1) 0).toNat : Int))) one5 (ev_hit hN rfl) (by have := hc380 0 (Value.int .u8 (((tl ++ [229, 229, 229]).getD ((bl.length) + 1) 0).toNat : Int)) (by decide) (el_u8 (i := ((bl.length) + 1)) (by omega) (by omega)); simpa using this) ?_
            refine op_neq (ev_hit hN rfl) rfl (fun c37 => ?_) (fun c37 => ?_)
            · -- 37 True
              exfalso; subst c15; exact c37 (congrArg (fun q : UInt8 => ((q.toNat : Nat) : Int)) (getD_tail tl [229, 229, 229] 1))
            · -- 37 False
              refine reg_nil ?_
              refine hK377 _ _ ?_
              refine wp_cond_false (ev_hit hN rfl) ?_
              refine wp_skip ?_
              refine hK376 _ _ ?_
              refine one_reg ?_
              have hlen2 := congrArg List.length c15
              refine op_move (ev_hit hN rfl) ?_
              refine op_add (ev_hit hN rfl) rfl (add64 (by omega)) ?_
              refine op_assign (ev_hit hN rfl) ?_
              refine reg_nil ?_
              refine hK373 _ _ ?_
              refine rounds_any fun K381 hK381 => ?_
              refine seq_any fun K382 hK382 => ?_
              refine seq_any fun K383 hK383 => ?_
              refine one_reg ?_
              refine op_move (ev_hit hN rfl) ?_
              refine op_move (ev_base hN rfl s1) ?_
              refine op_len_rd Try.underlying22 (ev_hit hN rfl) hv ?_
              refine op_add (ev_hit hN rfl) rfl (add64 (by omega)) ?_
              refine op_lss (ev_hit hN rfl) (ev_hit hN rfl) (fun c30 => ?_) (fun c30 => ?_)
              · -- 30 True
                refine reg_nil ?_
                refine hK383 _ _ ?_
                refine wp_cond_true (ev_hit hN rfl) ?_
                refine wp_skip ?_
                refine hK382 _ _ ?_
                refine seq_any fun K384 hK384 => ?_
                refine wp_block ?_
                refine seq_any fun K385 hK385 => ?_
                refine one_reg ?_
                have hlen2 := congrArg List.length c15
                refine op_move (ev_hit hN rfl) ?_
                refine op_move (ev_hit hN rfl) ?_
                refine op_index_rd slt22 (ev_hit hN rfl) (show RdC w g (g + 1) 1 (Value.slice (some ⟨g, 0, none⟩) (tl.length + 3) (tl.length + 3)) (tl.length + 3) (((tl ++ [229, 229, 229]).map u8v)) from RdC.ofRowAll (c := (tl.length + 3)) hg (by simp) (by omega) (by unfold maxLen; omega)) (ev_hit hN rfl) (by omega) (by omega) ?_
                intro b386 o387 _ _ hc388
                refine op_load1 (v := (Value.int .u8 (((tl ++ [229, 229, 229]).getD (((bl.length) + 1) + 1) 0).toNat : Int))) one5 (ev_hit hN rfl) (by have := hc388 0 (Value.int .u8 (((tl ++ [229, 229, 229]).getD (((bl.length) + 1) + 1) 0).toNat : Int)) (by decide) (el_u8 (i := (((bl.length) + 1) + 1)) (by omega) (by omega)); simpa using this) ?_
                refine op_neq (ev_hit hN rfl) rfl (fun c37 => ?_) (fun c37 => ?_)
                · -- 37 True
                  exfalso; subst c15; exact c37 (congrArg (fun q : UInt8 => ((q.toNat : Nat) : Int)) (getD_tail tl [229, 229, 229] 2))
                · -- 37 False
                  refine reg_nil ?_
                  refine hK385 _ _ ?_
                  refine wp_cond_false (ev_hit hN rfl) ?_
                  refine wp_skip ?_
                  refine hK384 _ _ ?_
                  refine one_reg ?_
                  have hlen2 := congrArg List.length c15
                  refine op_move (ev_hit hN rfl) ?_
                  refine op_add (ev_hit hN rfl) rfl (add64 (by omega)) ?_
                  refine op_assign (ev_hit hN rfl) ?_
                  refine reg_nil ?_
                  refine hK381 _ _ ?_
                  refine rounds_any fun K389 hK389 => ?_
                  refine seq_any fun K390 hK390 => ?_
                  refine seq_any fun K391 hK391 => ?_
                  refine one_reg ?_
                  refine op_move (ev_hit hN rfl) ?_
                  refine op_move (ev_base hN rfl s1) ?_
                  refine op_len_rd Try.underlying22 (ev_hit hN rfl) hv ?_
                  refine op_add (ev_hit hN rfl) rfl (add64 (by omega)) ?_
                  refine op_lss (ev_hit hN rfl) (ev_hit hN rfl) (fun c30 => ?_) (fun c30 => ?_)
                  · -- 30 True
                    exfalso; omega
                  · -- 30 False
                    refine reg_nil ?_
                    refine hK391 _ _ ?_
                    refine wp_cond_false (ev_hit hN rfl) ?_
                    refine wp_exit (then_exit (then_exit (blk_hit ?_)))
                    refine hK363 _ _ ?_
                    refine seq_any fun K392 hK392 => ?_
                    refine one_reg ?_
                    refine op_assign rfl ?_
                    refine reg_nil ?_
                    refine hK392 _ _ ?_
                    refine wp_ret ?_
                    refine ret1 rfl hd (ev_hit hN rfl) ⟨_, rfl, ?_⟩
                    -- path 15F 22F 30T 37F 30T 37F 30T 37F 30F
                    exact ⟨hb, congrArg Value.bool (by simp [*])⟩
              · -- 30 False
                exfalso; omega
          · -- 30 False
            exfalso; omega
      · -- 30 False
        exfalso; omega

theorem Spoil_ret (v : Value) (n base : Nat) (cs : List Value) (w : World) (O : Own w base 5 1 v n cs) : Ret Try.prog 39 #[v] w (fun v' w' => w.grownBy w' v.ownBlock ∧ v' = .tuple #[]) := by
  have hb := grown_refl w v.ownBlock
  refine enter (N := 17) Try.func39 rfl rfl (by simp) fun a0 hN hd hA => ?_
  have s0 : a0.tmps.getD 0 undef = v := hA 0 (by simp)
  clear hA
  refine seq_any fun K393 hK393 => ?_
  refine one_reg ?_
  refine op_move (ev_base hN rfl s0) ?_
  refine op_move (ev_base hN rfl s0) ?_
  obtain ⟨cap394, hcap395_1, hcap395_2, hcap395⟩ := O.capOf
  have hcap395_3 : cap394 ≤ 9223372036854775807 := hcap395_2
  refine op_cap (c := cap394) Try.underlying22 (by rw [(ev_hit hN rfl)]; exact hcap395) ?_
  refine op_slice_cap slt22 (ev_hit hN rfl) O hcap395 (ev_hit hN rfl) ?_
  intro v396 cs397 hO398 ho399
  refine op_assign (ev_hit hN rfl) ?_
  refine reg_nil ?_
  refine hK393 _ _ ?_
  refine seq_any fun K400 hK400 => ?_
  refine one_reg ?_
  refine op_assign rfl ?_
  refine reg_nil ?_
  refine hK400 _ _ ?_
  refine wp_block ?_
  refine loop_m (fun m a w' => ∃ (i : Nat) (cs1 : List Value), m = cap394 - i ∧ (a.tmps.getD 0 undef = v) ∧ (a.tmps.getD 2 undef = v396) ∧ (a.tmps.getD 4 undef = v) ∧ (a.tmps.getD 5 undef = v) ∧ (a.tmps.getD 6 undef = (Value.int .i64 ((cap394 : Nat) : Int))) ∧ (a.tmps.getD 7 undef = v396) ∧ (a.tmps.getD 3 undef = (Value.int .i64 ((i : Nat) : Int))) ∧ (i ≤ cap394) ∧ (w.grownBy w' v.ownBlock) ∧ (Own w' base 5 1 v396 cap394 (cs1))) _ hN hd ⟨0, _, rfl, (sl_base hN rfl s0), (sl_hit hN rfl), (sl_hit hN rfl), (sl_hit hN rfl), (sl_hit hN rfl), (sl_hit hN rfl), (sl_hit hN rfl), Nat.zero_le _, hb, hO398⟩ ?_
  rintro _ a401 w401 hN401 hd401 ⟨i, cs1, rfl, s401_0, s401_2, s401_4, s401_5, s401_6, s401_7, s401_3, hi, hb, hO402⟩
  have z_w401 := hb.size
  refine seq_any fun K403 hK403 => ?_
  refine seq_any fun K404 hK404 => ?_
  refine one_reg ?_
  refine op_move (ev_base hN401 rfl s401_3) ?_
  refine op_move (ev_base hN401 rfl s401_2) ?_
  refine op_len_rd Try.underlying22 (ev_hit hN401 rfl) hO402.rdw ?_
  refine op_lss (ev_hit hN401 rfl) (ev_hit hN401 rfl) (fun c11 => ?_) (fun c11 => ?_)
  · -- 11 True
    refine reg_nil ?_
    refine hK404 _ _ ?_
    refine wp_cond_true (ev_hit hN401 rfl) ?_
    refine wp_skip ?_
    refine hK403 _ _ ?_
    refine seq_any fun K405 hK405 => ?_
    refine wp_block ?_
    refine one_reg ?_
    refine op_move (ev_base hN401 rfl s401_2) ?_
    refine op_move (ev_base hN401 rfl s401_3) ?_
    refine op_index_own (i := i) slt22 (ev_hit hN401 rfl) hO402 (ev_hit hN401 rfl) (by omega) (by omega) ?_
    intro b406 o407 lo_b406 hA408
    have hA408 : AtV v396 (i) b406 o407 := by simpa using hA408
    have hP411 := hO402
    refine op_store_own (vs := [(Value.int .u8 90)]) size5 (ev_hit hN401 rfl) rfl rfl rfl rfl hP411 hA408 (by have := hP411.1; simp; omega) ?_
    intro w409 hO412 E410
    have z_w409 := E410.size
    have hb := grow_stepX hb E410 (ho399.trans rfl)
    have hO412 : Own w409 base 5 1 v396 cap394 ((cs1.take (i) ++ [(Value.int .u8 90)] ++ cs1.drop (i + 1))) := by simpa using hO412
    refine reg_nil ?_
    refine hK405 _ _ ?_
    refine one_reg ?_
    refine op_move (ev_base hN401 rfl s401_3) ?_
    refine op_add (ev_hit hN401 rfl) rfl (add64 (by omega)) ?_
    refine op_assign (ev_hit hN401 rfl) ?_
    refine reg_nil ?_
    -- round 11T
    exact loop_next _ hN401 hd401 ⟨i + 1, _, rfl, (sl_base hN401 rfl s401_0), (sl_base hN401 rfl s401_2), (sl_base hN401 rfl s401_4), (sl_base hN401 rfl s401_5), (sl_base hN401 rfl s401_6), (sl_base hN401 rfl s401_7), (sl_hit hN401 rfl).trans (congrArg (Value.int .i64) (by omega)), (by omega), hb, hO412⟩ (by omega)
  · -- 11 False
    refine reg_nil ?_
    refine hK404 _ _ ?_
    refine wp_cond_false (ev_hit hN401 rfl) ?_
    refine wp_exit (then_exit (then_exit (blk_hit ?_)))
    refine end_ret ?_
    refine ret0 rfl hd401  ⟨_, rfl, ?_⟩
    -- path 11F
    exact ⟨hb, rfl⟩

end Go.Proofs.Ytkkongnmcfdioaa
