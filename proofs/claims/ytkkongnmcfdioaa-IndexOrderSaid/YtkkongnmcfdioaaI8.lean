/- Walks, written by a program: what each function of the translation hands back. -/
import Derived.Test.YtkkongnmcfdioaaI7
import Derived.Test.YtkkongnmcfdioaaIPlain
namespace Go.Proofs.Ytkkongnmcfdioaa
open Go.Gx Go.RowKit
attribute [local irreducible] wpList Code.wp Calls

theorem begun16_ret (w : World) : Ret Try.prog 53 #[] w (fun v' w' => Below w.heap.size w w' ∧ v' = .bool true) := by
  have hb := Below.refl w.heap.size w
  refine enter (N := 45) Try.func53 rfl rfl (by simp) fun a0 hN hd hA => ?_
  clear hA
  refine seq_any fun K1 hK1 => ?_
  refine one_reg ?_
  refine op_assign rfl ?_
  refine reg_nil ?_
  refine hK1 _ _ ?_
  refine seq_any fun K2 hK2 => ?_
  refine one_reg ?_
  refine op_build (pv := [(0, (Value.int .i64 2)), (2, (Value.string (bs [97])))]) (v := (Value.agg #[(Value.int .i64 2), (Value.int .i64 0), (Value.string (bs [97]))])) ⟨rfl, rfl, ⟨rfl, rfl, trivial⟩⟩ (by kernel_rfl) ?_
  refine op_alloc (cs := [(Value.int .i64 0), (Value.int .i64 0), (Value.string (bs []))]) zero50 rfl ?_
  intro w3 b4 lo_b4 hi_b4 hB6 E5
  have z_w3 := E5.size
  have hb := below_step0 hb E5 hb.size
  have hB6_old := hB6
  refine op_store (vs := [(Value.int .i64 2), (Value.int .i64 0), (Value.string (bs [97]))]) (cs' := [(Value.int .i64 2), (Value.int .i64 0), (Value.string (bs [97]))]) size50 (ev_hit hN rfl) (ev_hit hN rfl) rfl rfl rfl hB6 (Nat.le_of_ble_eq_true rfl) rfl ?_
  intro w9 hB6 E10
  have z_w9 := E10.size
  have hb := below_step1 hb E10 hb.size (by omega)
  refine reg_nil ?_
  refine hK2 _ _ ?_
  refine seq_any fun K11 hK11 => ?_
  refine one_reg ?_
  refine op_loadA (cs := [(Value.int .i64 2), (Value.int .i64 0), (Value.string (bs [97]))]) agg50 rfl (ev_hit hN rfl) (fun j u hu => by rw [Nat.zero_add]; exact hB6.cell hu) ?_
  refine op_bslice (e := 46) (pv := [(0, (Value.int .u16 1))]) (cs := [(Value.int .u16 1)]) ⟨rfl, rfl, trivial⟩ (by kernel_rfl) ?_
  intro w12 b13 lo_b13 hi_b13 hB15 E14
  have z_w12 := E14.size
  have hB6 := hB6.keep0 E14
  have hb := below_step0 hb E14 hb.size
  refine op_fn (vs := [(Value.agg #[(Value.int .i64 2), (Value.int .i64 0), (Value.string (bs [97]))]), (Value.slice (some ⟨b13, 0, none⟩) 1 1), (Value.int .u64 9)]) ok57 ⟨(ev_hit hN rfl), ⟨(ev_hit hN rfl), ⟨rfl, trivial⟩⟩⟩ (IKey_ret ⟨2, 0, [97]⟩ [1] 9 _ _ (by first | assumption | omega | (simp only [List.length_append, List.length_cons, List.length_nil, List.length_drop, List.length_take]; omega) | (dsimp only; omega) | decide | (simp [keyV, be8_len]; done)) (by first | assumption | omega | (simp only [List.length_append, List.length_cons, List.length_nil, List.length_drop, List.length_take]; omega) | (dsimp only; omega) | decide | (simp [keyV, be8_len]; done)) (by first | assumption | omega | (simp only [List.length_append, List.length_cons, List.length_nil, List.length_drop, List.length_take]; omega) | (dsimp only; omega) | decide | (simp [keyV, be8_len]; done)) (by first | assumption | omega | (simp only [List.length_append, List.length_cons, List.length_nil, List.length_drop, List.length_take]; omega) | (dsimp only; omega) | decide | (simp [keyV, be8_len]; done)) (show RdC w12 0 w12.heap.size 1 (Value.slice (some ⟨b13, 0, none⟩) 1 1) [1].length ([1].map u16v) from by have hh : RdC w12 0 w12.heap.size 1 _ _ _ := ((RdC.ofBx (sz := 1) (n := 1) hB15 rfl (by decide)).mono (L' := 0) (B' := w12.heap.size) (Nat.zero_le _) (by have := hB15.lt; omega)); first | exact hh | exact hh.cast (by first | omega | (simp; try omega)) (by first | rfl | simp [u16v]))) ?_
  rintro v16 w17 ⟨E18, hO16⟩
  have E18 := grown_of_below E18
  have z_w17 := E18.size
  have hB6 := hB6.keep0 E18
  have hB15 := hB15.keep0 E18
  have hb := below_step0 hb E18 hb.size
  have hO16 := hO16.mono (base' := w12.heap.size) (by omega)
  refine op_assign (ev_hit hN rfl) ?_
  refine reg_nil ?_
  refine hK11 _ _ ?_
  refine seq_any fun K19 hK19 => ?_
  refine one_reg ?_
  refine op_move (ev_hit hN rfl) ?_
  have hq20 : RdC w17 0 w17.heap.size 1 v16 (keyX ⟨2, 0, [97]⟩ [1] 9).length ((keyX ⟨2, 0, [97]⟩ [1] 9).map u8v) := by have hh : RdC w17 0 w17.heap.size 1 _ _ _ := (hO16.rdw.mono (L' := 0) (B' := w17.heap.size) (Nat.zero_le _) (by omega)); first | simpa using hh | simpa [Nat.add_comm, Nat.add_left_comm, Nat.add_assoc] using hh | exact hh.cast (by simp; try omega) (by simp)
  refine op_fn (vs := [v16]) ok55 ⟨(ev_hit hN rfl), trivial⟩ (IXTake_ret (keyX ⟨2, 0, [97]⟩ [1] 9) v16 _ (by first | assumption | omega | (simp only [List.length_append, List.length_cons, List.length_nil, List.length_drop, List.length_take]; omega) | (dsimp only; omega) | decide | (simp [keyV, be8_len]; done)) hq20) ?_
  rintro _ w22 ⟨E23, u21, rfl, hO21⟩
  have E23 := grown_of_below E23
  have z_w22 := E23.size
  have hB6 := hB6.keep0 E23
  have hB15 := hB15.keep0 E23
  have hO16 := hO16.keep0 E23
  have hb := below_step0 hb E23 hb.size
  have hO21 := hO21.mono (base' := w17.heap.size) (by omega)
  refine op_move (ev_hit hN rfl) ?_
  refine op_extract (ev_hit hN rfl) rfl ?_
  refine op_extract (ev_hit hN rfl) rfl ?_
  refine op_extract (ev_hit hN rfl) rfl ?_
  refine op_extract (ev_hit hN rfl) rfl ?_
  refine op_alloc (cs := [(Value.int .i64 0), (Value.int .i64 0), (Value.string (bs []))]) zero50 rfl ?_
  intro w24 b25 lo_b25 hi_b25 hB27 E26
  have z_w24 := E26.size
  have hB6 := hB6.keep0 E26
  have hB15 := hB15.keep0 E26
  have hO16 := hO16.keep0 E26
  have hO21 := hO21.keep0 E26
  have hb := below_step0 hb E26 hb.size
  have hB27_old := hB27
  refine op_store (vs := [(Value.int .i64 (takeX (keyX ⟨2, 0, [97]⟩ [1] 9)).1.k), (Value.int .i64 (takeX (keyX ⟨2, 0, [97]⟩ [1] 9)).1.n), (Value.string (bs (takeX (keyX ⟨2, 0, [97]⟩ [1] 9)).1.s))]) (cs' := [(Value.int .i64 (takeX (keyX ⟨2, 0, [97]⟩ [1] 9)).1.k), (Value.int .i64 (takeX (keyX ⟨2, 0, [97]⟩ [1] 9)).1.n), (Value.string (bs (takeX (keyX ⟨2, 0, [97]⟩ [1] 9)).1.s))]) size50 (ev_hit hN rfl) (ev_hit hN rfl) rfl rfl rfl hB27 (Nat.le_of_ble_eq_true rfl) rfl ?_
  intro w30 hB27 E31
  have z_w30 := E31.size
  have hB6 := hB6.keep E31 (by simp; omega)
  have hB15 := hB15.keep E31 (by simp; omega)
  have hO16 := hO16.keepX hB27_old E31 (by decide)
  have hO21 := hO21.keepX hB27_old E31 (by decide)
  have hb := below_step1 hb E31 hb.size (by omega)
  refine op_assign (ev_hit hN rfl) ?_
  refine op_assign (ev_hit hN rfl) ?_
  refine op_assign (ev_hit hN rfl) ?_
  refine reg_nil ?_
  refine hK19 _ _ ?_
  refine seq_any fun K32 hK32 => ?_
  refine one_reg ?_
  refine op_move (ev_hit hN rfl) ?_
  refine op_len_rd Try.underlying22 (ev_hit hN rfl) hO16.rdw ?_
  refine op_eql (ev_hit hN rfl) rfl (fun c20 => ?_) (fun c20 => ?_)
  · -- 20 True
    refine op_move (ev_hit hN rfl) ?_
    refine g_true (j := 3) (dj := 21) (b := true) rfl rfl rfl (ev_hit hN rfl) ?_
    refine op_move (ev_hit hN rfl) ?_
    refine g_true (j := 3) (dj := 21) (b := true) rfl rfl rfl (ev_hit hN rfl) ?_
    refine op_eql (ev_hit hN rfl) rfl (fun c23 => ?_) (fun c23 => ?_)
    · -- 23 True
      refine op_pick_t (ev_hit hN rfl) (ev_hit hN rfl) ?_
      refine op_move (ev_hit hN rfl) ?_
      refine g_true (j := 7) (dj := 25) (b := true) rfl rfl rfl (ev_hit hN rfl) ?_
      refine op_loadA (cs := [(Value.int .i64 (takeX (keyX ⟨2, 0, [97]⟩ [1] 9)).1.k), (Value.int .i64 (takeX (keyX ⟨2, 0, [97]⟩ [1] 9)).1.n), (Value.string (bs (takeX (keyX ⟨2, 0, [97]⟩ [1] 9)).1.s))]) agg50 rfl (ev_hit hN rfl) (fun j u hu => by rw [Nat.zero_add]; exact hB27.cell hu) ?_
      refine g_true (j := 7) (dj := 25) (b := true) rfl rfl rfl (ev_hit hN rfl) ?_
      refine op_loadA (cs := [(Value.int .i64 2), (Value.int .i64 0), (Value.string (bs [97]))]) agg50 rfl (ev_hit hN rfl) (fun j u hu => by rw [Nat.zero_add]; exact hB6.cell hu) ?_
      refine g_true (j := 7) (dj := 25) (b := true) rfl rfl rfl (ev_hit hN rfl) ?_
      by_cases c28 : (takeX (keyX ⟨2, 0, [97]⟩ [1] 9)).1.k = 2 ∧ (takeX (keyX ⟨2, 0, [97]⟩ [1] 9)).1.n = 0 ∧ (takeX (keyX ⟨2, 0, [97]⟩ [1] 9)).1.s = [97]
      · -- 28 True
        refine op_aeql (xs := [(Value.int .i64 (takeX (keyX ⟨2, 0, [97]⟩ [1] 9)).1.k), (Value.int .i64 (takeX (keyX ⟨2, 0, [97]⟩ [1] 9)).1.n), (Value.string (bs (takeX (keyX ⟨2, 0, [97]⟩ [1] 9)).1.s))]) (ys := [(Value.int .i64 2), (Value.int .i64 0), (Value.string (bs [97]))]) (b' := true) (ev_hit hN rfl) (ev_hit hN rfl) (eq50 (takeX (keyX ⟨2, 0, [97]⟩ [1] 9)).1.k 2 (takeX (keyX ⟨2, 0, [97]⟩ [1] 9)).1.n 0 (takeX (keyX ⟨2, 0, [97]⟩ [1] 9)).1.s [97]) (decide_eq_true c28) ?_
        refine op_pick_t (ev_hit hN rfl) (ev_hit hN rfl) ?_
        refine op_move (ev_hit hN rfl) ?_
        refine g_true (j := 12) (dj := 30) (b := true) rfl rfl rfl (ev_hit hN rfl) ?_
        refine op_move (ev_hit hN rfl) ?_
        refine g_true (j := 12) (dj := 30) (b := true) rfl rfl rfl (ev_hit hN rfl) ?_
        refine op_len_rd Try.underlying75 (ev_hit hN rfl) hO21.rdw ?_
        refine g_true (j := 12) (dj := 30) (b := true) rfl rfl rfl (ev_hit hN rfl) ?_
        refine op_eql (ev_hit hN rfl) rfl (fun c33 => ?_) (fun c33 => ?_)
        · -- 33 True
          refine op_pick_t (ev_hit hN rfl) (ev_hit hN rfl) ?_
          refine op_move (ev_hit hN rfl) ?_
          refine g_true (j := 17) (dj := 35) (b := true) rfl rfl rfl (ev_hit hN rfl) ?_
          refine op_move (ev_hit hN rfl) ?_
          refine g_true (j := 17) (dj := 35) (b := true) rfl rfl rfl (ev_hit hN rfl) ?_
          refine op_eql (ev_hit hN rfl) rfl (fun c37 => ?_) (fun c37 => ?_)
          · -- 37 True
            refine op_pick_t (ev_hit hN rfl) (ev_hit hN rfl) ?_
            refine op_move (ev_hit hN rfl) ?_
            refine g_true (j := 21) (dj := 39) (b := true) rfl rfl rfl (ev_hit hN rfl) ?_
            refine op_loadA (cs := [(Value.int .i64 2), (Value.int .i64 0), (Value.string (bs [97]))]) agg50 rfl (ev_hit hN rfl) (fun j u hu => by rw [Nat.zero_add]; exact hB6.cell hu) ?_
            refine g_true (j := 21) (dj := 39) (b := true) rfl rfl rfl (ev_hit hN rfl) ?_
            refine op_fn (vs := [(Value.agg #[(Value.int .i64 2), (Value.int .i64 0), (Value.string (bs [97]))])]) ok59 ⟨(ev_hit hN rfl), trivial⟩ (From_ret ⟨2, 0, [97]⟩ _ (by first | assumption | omega | (simp only [List.length_append, List.length_cons, List.length_nil, List.length_drop, List.length_take]; omega) | (dsimp only; omega) | decide | (simp [keyV, be8_len]; done)) (by first | assumption | omega | (simp only [List.length_append, List.length_cons, List.length_nil, List.length_drop, List.length_take]; omega) | (dsimp only; omega) | decide | (simp [keyV, be8_len]; done))) ?_
            rintro v33 w34 ⟨E35, hO33⟩
            have dj36 : DJ v33 v16 := fun k hk hg => by have q1 := (hO33.lt k hk).1; have q2 := (hO16.lt k hg).2; omega
            have E35 := grown_of_below E35
            have z_w34 := E35.size
            have hB6 := hB6.keep0 E35
            have hB15 := hB15.keep0 E35
            have hO16 := hO16.keep0 E35
            have hO21 := hO21.keep0 E35
            have hB27 := hB27.keep0 E35
            have hb := below_step0 hb E35 hb.size
            have hO33 := hO33.mono (base' := w30.heap.size) (by omega)
            refine g_true (j := 21) (dj := 39) (b := true) rfl rfl rfl (ev_hit hN rfl) ?_
            refine op_str_of (bl := (keyV ⟨2, 0, [97]⟩)) Try.underlying22 Try.underlying5 Try.underlying9 (ev_hit hN rfl) hO33.rdw ?_
            refine g_true (j := 21) (dj := 39) (b := true) rfl rfl rfl (ev_hit hN rfl) ?_
            refine op_seql (ev_hit hN rfl) rfl (fun c43 => ?_) (fun c43 => ?_)
            · -- 43 True
              refine op_pick_t (ev_hit hN rfl) (ev_hit hN rfl) ?_
              refine op_assign (ev_hit hN rfl) ?_
              refine reg_nil ?_
              refine hK32 _ _ ?_
              refine wp_ret ?_
              refine ret1 rfl hd (ev_hit hN rfl) ⟨_, rfl, ?_⟩
              -- path 20T 23T 28T 33T 37T 43T
              exact ⟨hb, rfl⟩
            · -- 43 False
              exact absurd (by decide +kernel) c43
          · -- 37 False
            exact absurd (by decide +kernel) c37
        · -- 33 False
          exact absurd (by decide +kernel) c33
      · -- 28 False
        exact absurd (by decide +kernel) c28
    · -- 23 False
      exact absurd (by decide +kernel) c23
  · -- 20 False
    exact absurd (by decide +kernel) c20

end Go.Proofs.Ytkkongnmcfdioaa
