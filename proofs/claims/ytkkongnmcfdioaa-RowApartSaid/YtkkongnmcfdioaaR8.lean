/- Walks, written by a program: what each function of the translation hands back. -/
import Derived.Test.YtkkongnmcfdioaaR7
namespace Go.Proofs.Ytkkongnmcfdioaa
open Go.Gx Go.RowKit
attribute [local irreducible] wpList Code.wp Calls

theorem begun5_ret (w : World) : Ret Try.prog 43 #[] w (fun v' w' => Below w.heap.size w w' ∧ v' = .bool true) := by
  have hb := Below.refl w.heap.size w
  refine enter (N := 30) Try.func43 rfl rfl (by simp) fun a0 hN hd hA => ?_
  clear hA
  refine seq_any fun K1 hK1 => ?_
  refine one_reg ?_
  refine op_assign rfl ?_
  refine reg_nil ?_
  refine hK1 _ _ ?_
  refine seq_any fun K2 hK2 => ?_
  refine one_reg ?_
  refine op_build (pv := [(0, (Value.int .i64 2)), (2, (Value.string (bs [97])))]) (v := (Value.agg #[(Value.int .i64 2), (Value.int .i64 0), (Value.string (bs [97]))])) ⟨rfl, rfl, ⟨rfl, rfl, trivial⟩⟩ (by kernel_rfl) ?_
  refine op_bslice (e := 50) (pv := [(0, (Value.agg #[(Value.int .i64 2), (Value.int .i64 0), (Value.string (bs [97]))]))]) (cs := [(Value.int .i64 2), (Value.int .i64 0), (Value.string (bs [97]))]) ⟨rfl, (ev_hit hN rfl), trivial⟩ (by kernel_rfl) ?_
  intro w3 b4 lo_b4 hi_b4 hB6 E5
  have z_w3 := E5.size
  have hb := below_step0 hb E5 hb.size
  refine op_assign (ev_hit hN rfl) ?_
  refine reg_nil ?_
  refine hK2 _ _ ?_
  refine seq_any fun K7 hK7 => ?_
  refine one_reg ?_
  refine op_move (ev_hit hN rfl) ?_
  refine op_fn (vs := [(Value.slice (some ⟨b4, 0, none⟩) 1 1)]) ok49 ⟨(ev_hit hN rfl), trivial⟩ (rowPut_ret [⟨2, 0, [97]⟩] _ _ (by first | assumption | omega | (simp only [List.length_append, List.length_cons, List.length_nil, List.length_drop, List.length_take]; omega) | (dsimp only; omega) | decide | (simp [keyV, be8_len]; done)) (fun x hx => by simp at hx; subst hx; simp [OkV]) (show RdC w3 0 w3.heap.size 3 (Value.slice (some ⟨b4, 0, none⟩) 1 1) [⟨2, 0, [97]⟩].length ([⟨2, 0, [97]⟩].flatMap cellsV) from by simpa [cellsV] using ((RdC.ofBx (sz := 3) (n := 1) hB6 rfl (by decide)).mono (L' := 0) (B' := w3.heap.size) (Nat.zero_le _) (by have := hB6.lt; omega)))) ?_
  rintro v8 w9 ⟨E10, hO8⟩
  have E10 := grown_of_below E10
  have z_w9 := E10.size
  have hB6 := hB6.keep0 E10
  have hb := below_step0 hb E10 hb.size
  refine op_assign (ev_hit hN rfl) ?_
  refine reg_nil ?_
  refine hK7 _ _ ?_
  refine seq_any fun K11 hK11 => ?_
  refine one_reg ?_
  refine op_move (ev_hit hN rfl) ?_
  have hq12 : RdC w9 0 w9.heap.size 1 v8 (putR [⟨2, 0, [97]⟩]).length ((putR [⟨2, 0, [97]⟩]).map u8v) := by have hh : RdC w9 0 w9.heap.size 1 _ _ _ := (hO8.rdw.mono (L' := 0) (B' := w9.heap.size) (Nat.zero_le _) (by omega)); first | simpa using hh | simpa [Nat.add_comm, Nat.add_left_comm, Nat.add_assoc] using hh
  refine op_fn (vs := [v8]) ok45 ⟨(ev_hit hN rfl), trivial⟩ (rowTake_ret (putR [⟨2, 0, [97]⟩]) v8 _ (by first | assumption | omega | (simp only [List.length_append, List.length_cons, List.length_nil, List.length_drop, List.length_take]; omega) | (dsimp only; omega) | decide | (simp [keyV, be8_len]; done)) hq12) ?_
  rintro _ w14 ⟨E15, u13, rfl, hO13⟩
  have E15 := grown_of_below E15
  have z_w14 := E15.size
  have hB6 := hB6.keep0 E15
  have hO8 := hO8.keep0 E15
  have hb := below_step0 hb E15 hb.size
  refine op_move (ev_hit hN rfl) ?_
  refine op_extract (ev_hit hN rfl) rfl ?_
  refine op_extract (ev_hit hN rfl) rfl ?_
  refine op_assign (ev_hit hN rfl) ?_
  refine op_assign (ev_hit hN rfl) ?_
  refine reg_nil ?_
  refine hK11 _ _ ?_
  refine seq_any fun K16 hK16 => ?_
  refine one_reg ?_
  refine op_move (ev_hit hN rfl) ?_
  refine op_fn (vs := [(Value.slice (some ⟨b4, 0, none⟩) 1 1)]) ok47 ⟨(ev_hit hN rfl), trivial⟩ (rowMay_ret [⟨2, 0, [97]⟩] _ _ (by first | assumption | omega | (simp only [List.length_append, List.length_cons, List.length_nil, List.length_drop, List.length_take]; omega) | (dsimp only; omega) | decide | (simp [keyV, be8_len]; done)) (fun x hx => by simp at hx; subst hx; simp [OkV]) (show RdC w14 0 w14.heap.size 3 (Value.slice (some ⟨b4, 0, none⟩) 1 1) [⟨2, 0, [97]⟩].length ([⟨2, 0, [97]⟩].flatMap cellsV) from by simpa [cellsV] using ((RdC.ofBx (sz := 3) (n := 1) hB6 rfl (by decide)).mono (L' := 0) (B' := w14.heap.size) (Nat.zero_le _) (by have := hB6.lt; omega)))) ?_
  rintro _ w17 ⟨E18, rfl⟩
  have E18 := grown_of_below E18
  have z_w17 := E18.size
  have hB6 := hB6.keep0 E18
  have hO8 := hO8.keep0 E18
  have hO13 := hO13.keep0 E18
  have hb := below_step0 hb E18 hb.size
  rcases Bool.eq_false_or_eq_true ((mayR [⟨2, 0, [97]⟩])) with c15 | c15
  · -- 15 True
    rw [c15]
    refine op_move (ev_hit hN rfl) ?_
    refine g_true (j := 2) (dj := 16) (b := true) rfl rfl rfl (ev_hit hN rfl) ?_
    refine op_move (ev_hit hN rfl) ?_
    refine g_true (j := 2) (dj := 16) (b := true) rfl rfl rfl (ev_hit hN rfl) ?_
    refine op_str_of (bl := (putR [⟨2, 0, [97]⟩])) Try.underlying22 Try.underlying5 Try.underlying9 (ev_hit hN rfl) hO8.rdw ?_
    refine g_true (j := 2) (dj := 16) (b := true) rfl rfl rfl (ev_hit hN rfl) ?_
    refine op_seql (ev_hit hN rfl) rfl (fun c19 => ?_) (fun c19 => ?_)
    · -- 19 True
      refine op_pick_t (ev_hit hN rfl) (ev_hit hN rfl) ?_
      refine op_move (ev_hit hN rfl) ?_
      refine g_true (j := 7) (dj := 21) (b := true) rfl rfl rfl (ev_hit hN rfl) ?_
      refine op_move (ev_hit hN rfl) ?_
      refine g_true (j := 7) (dj := 21) (b := true) rfl rfl rfl (ev_hit hN rfl) ?_
      refine op_eql (ev_hit hN rfl) rfl (fun c23 => ?_) (fun c23 => ?_)
      · -- 23 True
        refine op_pick_t (ev_hit hN rfl) (ev_hit hN rfl) ?_
        refine op_move (ev_hit hN rfl) ?_
        refine g_true (j := 11) (dj := 25) (b := true) rfl rfl rfl (ev_hit hN rfl) ?_
        refine op_move (ev_hit hN rfl) ?_
        refine g_true (j := 11) (dj := 25) (b := true) rfl rfl rfl (ev_hit hN rfl) ?_
        refine op_move (ev_hit hN rfl) ?_
        refine g_true (j := 11) (dj := 25) (b := true) rfl rfl rfl (ev_hit hN rfl) ?_
        refine op_fn (vs := [u13, (Value.slice (some ⟨b4, 0, none⟩) 1 1)]) ok51 ⟨(ev_hit hN rfl), ⟨(ev_hit hN rfl), trivial⟩⟩ (SameRow_ret (takeR (putR [⟨2, 0, [97]⟩])).1 [⟨2, 0, [97]⟩] _ _ _ (by first | assumption | omega | (simp only [List.length_append, List.length_cons, List.length_nil, List.length_drop, List.length_take]; omega) | (dsimp only; omega) | decide | (simp [keyV, be8_len]; done)) (show RdC w17 0 w17.heap.size 3 u13 (takeR (putR [⟨2, 0, [97]⟩])).1.length ((takeR (putR [⟨2, 0, [97]⟩])).1.flatMap cellsV) from by simpa [cellsV] using (hO13.rdw.mono (L' := 0) (B' := w17.heap.size) (Nat.zero_le _) (by omega))) (show RdC w17 0 w17.heap.size 3 (Value.slice (some ⟨b4, 0, none⟩) 1 1) [⟨2, 0, [97]⟩].length ([⟨2, 0, [97]⟩].flatMap cellsV) from by simpa [cellsV] using ((RdC.ofBx (sz := 3) (n := 1) hB6 rfl (by decide)).mono (L' := 0) (B' := w17.heap.size) (Nat.zero_le _) (by have := hB6.lt; omega)))) ?_
        rintro _ w19 ⟨E20, rfl⟩
        have E20 := grown_of_below E20
        have z_w19 := E20.size
        have hB6 := hB6.keep0 E20
        have hO8 := hO8.keep0 E20
        have hO13 := hO13.keep0 E20
        have hb := below_step0 hb E20 hb.size
        rcases Bool.eq_false_or_eq_true ((decide ((takeR (putR [⟨2, 0, [97]⟩])).1 = [⟨2, 0, [97]⟩]))) with c28 | c28
        · -- 28 True
          rw [c28]
          refine op_pick_t (ev_hit hN rfl) (ev_hit hN rfl) ?_
          refine op_assign (ev_hit hN rfl) ?_
          refine reg_nil ?_
          refine hK16 _ _ ?_
          refine wp_ret ?_
          refine ret1 rfl hd (ev_hit hN rfl) ⟨_, rfl, ?_⟩
          -- path 15T 19T 23T 28T
          exact ⟨hb, rfl⟩
        · -- 28 False
          exact absurd c28 (by decide)
      · -- 23 False
        exact absurd (by decide) c23
    · -- 19 False
      exact absurd (by decide) c19
  · -- 15 False
    exact absurd c15 (by decide)

end Go.Proofs.Ytkkongnmcfdioaa
