/- Walks, written by a program: what each function of the translation hands back. -/
import Derived.Test.YtkkongnmcfdioaaV7
namespace Go.Proofs.Ytkkongnmcfdioaa
open Go.Gx Go.RowKit
attribute [local irreducible] wpList Code.wp Calls

theorem begun4_ret (w : World) : Ret Try.prog 30 #[] w (fun v' w' => Below w.heap.size w w' ∧ v' = .bool true) := by
  have hb := Below.refl w.heap.size w
  refine enter (N := 51) Try.func30 rfl rfl (by simp) fun a0 hN hd hA => ?_
  clear hA
  refine seq_any fun K805 hK805 => ?_
  refine one_reg ?_
  refine op_assign rfl ?_
  refine reg_nil ?_
  refine hK805 _ _ ?_
  refine seq_any fun K806 hK806 => ?_
  refine one_reg ?_
  refine op_build (pv := [(0, (Value.int .i64 1)), (1, (Value.int .i64 5))]) (v := (Value.agg #[(Value.int .i64 1), (Value.int .i64 5), (Value.string (bs []))])) ⟨rfl, rfl, ⟨rfl, rfl, trivial⟩⟩ (by kernel_rfl) ?_
  refine op_build (pv := [(0, (Value.int .i64 2)), (2, (Value.string (bs [97])))]) (v := (Value.agg #[(Value.int .i64 2), (Value.int .i64 0), (Value.string (bs [97]))])) ⟨rfl, rfl, ⟨rfl, rfl, trivial⟩⟩ (by kernel_rfl) ?_
  refine op_alloc (cs := [(Value.int .i64 0), (Value.int .i64 0), (Value.string (bs []))]) zero50 rfl ?_
  intro w807 b808 lo_b808 hi_b808 hB810 E809
  have z_w807 := E809.size
  have hb := below_step0 hb E809 hb.size
  refine op_alloc (cs := [(Value.int .i64 0), (Value.int .i64 0), (Value.string (bs []))]) zero50 rfl ?_
  intro w811 b812 lo_b812 hi_b812 hB814 E813
  have z_w811 := E813.size
  have hB810 := hB810.keep0 E813
  have hb := below_step0 hb E813 hb.size
  have hB810_old := hB810
  refine op_store (vs := [(Value.int .i64 1), (Value.int .i64 5), (Value.string (bs []))]) (cs' := [(Value.int .i64 1), (Value.int .i64 5), (Value.string (bs []))]) size50 (ev_hit hN rfl) (ev_hit hN rfl) rfl rfl rfl hB810 (Nat.le_of_ble_eq_true rfl) rfl ?_
  intro w817 hB810 E818
  have z_w817 := E818.size
  have hB814 := hB814.keep E818 (by simp; omega)
  have hb := below_step1 hb E818 hb.size (by omega)
  have hB814_old := hB814
  refine op_store (vs := [(Value.int .i64 2), (Value.int .i64 0), (Value.string (bs [97]))]) (cs' := [(Value.int .i64 2), (Value.int .i64 0), (Value.string (bs [97]))]) size50 (ev_hit hN rfl) (ev_hit hN rfl) rfl rfl rfl hB814 (Nat.le_of_ble_eq_true rfl) rfl ?_
  intro w821 hB814 E822
  have z_w821 := E822.size
  have hB810 := hB810.keep E822 (by simp; omega)
  have hb := below_step1 hb E822 hb.size (by omega)
  refine reg_nil ?_
  refine hK806 _ _ ?_
  refine seq_any fun K823 hK823 => ?_
  refine one_reg ?_
  refine op_loadA (cs := [(Value.int .i64 2), (Value.int .i64 0), (Value.string (bs [97]))]) agg50 rfl (ev_hit hN rfl) (fun j u hu => by rw [Nat.zero_add]; exact hB814.cell hu) ?_
  have hq824 : RdC w821 0 w821.heap.size 1 (Value.slice none 0 0) ([] : List UInt8).length (([] : List UInt8).map u8v) := by have hh : RdC w821 0 w821.heap.size 1 _ _ _ := ((RdC.nil _ 0 0 1).mono (L' := 0) (B' := w821.heap.size) (Nat.zero_le _) (by omega)); first | simpa using hh | simpa [Nat.add_comm, Nat.add_left_comm, Nat.add_assoc] using hh
  refine op_fn (vs := [(Value.slice none 0 0), (Value.agg #[(Value.int .i64 2), (Value.int .i64 0), (Value.string (bs [97]))])]) ok34 ⟨rfl, ⟨(ev_hit hN rfl), trivial⟩⟩ (Key_ret [] ⟨2, 0, [97]⟩ _ _ (by first | assumption | omega | (simp only [List.length_append, List.length_cons, List.length_nil, List.length_drop, List.length_take]; omega) | (dsimp only; omega) | decide | (simp [keyV, be8_len]; done)) (by first | assumption | omega | (simp only [List.length_append, List.length_cons, List.length_nil, List.length_drop, List.length_take]; omega) | (dsimp only; omega) | decide | (simp [keyV, be8_len]; done)) (by first | assumption | omega | (simp only [List.length_append, List.length_cons, List.length_nil, List.length_drop, List.length_take]; omega) | (dsimp only; omega) | decide | (simp [keyV, be8_len]; done)) hq824) ?_
  rintro v825 w827 ⟨E828, hO826⟩
  have E828 := grown_of_below E828
  have z_w827 := E828.size
  have hB810 := hB810.keep0 E828
  have hB814 := hB814.keep0 E828
  have hb := below_step0 hb E828 hb.size
  have hO826 : Own w827 w821.heap.size 5 1 v825 (keyV ⟨2, 0, [97]⟩).length ((keyV ⟨2, 0, [97]⟩).map u8v) := by simpa using hO826.mono (base' := w821.heap.size) (by omega)
  have hq829 : RdC w827 0 w827.heap.size 1 v825 (keyV ⟨2, 0, [97]⟩).length ((keyV ⟨2, 0, [97]⟩).map u8v) := by have hh : RdC w827 0 w827.heap.size 1 _ _ _ := (hO826.rdw.mono (L' := 0) (B' := w827.heap.size) (Nat.zero_le _) (by omega)); first | simpa using hh | simpa [Nat.add_comm, Nat.add_left_comm, Nat.add_assoc] using hh
  refine op_fn (vs := [v825]) ok40 ⟨(ev_hit hN rfl), trivial⟩ (Take_ret (keyV ⟨2, 0, [97]⟩) v825 _ (by first | assumption | omega | (simp only [List.length_append, List.length_cons, List.length_nil, List.length_drop, List.length_take]; omega) | (dsimp only; omega) | decide | (simp [keyV, be8_len]; done)) hq829) ?_
  rintro _ w830 ⟨E831, rfl⟩
  have E831 := grown_of_below E831
  have z_w830 := E831.size
  have hB810 := hB810.keep0 E831
  have hB814 := hB814.keep0 E831
  have hO826 := hO826.keep0 E831
  have hb := below_step0 hb E831 hb.size
  refine op_move (ev_hit hN rfl) ?_
  refine op_extract (ev_hit hN rfl) rfl ?_
  refine op_extract (ev_hit hN rfl) rfl ?_
  refine op_extract (ev_hit hN rfl) rfl ?_
  refine op_alloc (cs := [(Value.int .i64 0), (Value.int .i64 0), (Value.string (bs []))]) zero50 rfl ?_
  intro w832 b833 lo_b833 hi_b833 hB835 E834
  have z_w832 := E834.size
  have hB810 := hB810.keep0 E834
  have hB814 := hB814.keep0 E834
  have hO826 := hO826.keep0 E834
  have hb := below_step0 hb E834 hb.size
  have hB835_old := hB835
  refine op_store (vs := [(Value.int .i64 (takeV (keyV ⟨2, 0, [97]⟩)).1.k), (Value.int .i64 (takeV (keyV ⟨2, 0, [97]⟩)).1.n), (Value.string (bs (takeV (keyV ⟨2, 0, [97]⟩)).1.s))]) (cs' := [(Value.int .i64 (takeV (keyV ⟨2, 0, [97]⟩)).1.k), (Value.int .i64 (takeV (keyV ⟨2, 0, [97]⟩)).1.n), (Value.string (bs (takeV (keyV ⟨2, 0, [97]⟩)).1.s))]) size50 (ev_hit hN rfl) (ev_hit hN rfl) rfl rfl rfl hB835 (Nat.le_of_ble_eq_true rfl) rfl ?_
  intro w838 hB835 E839
  have z_w838 := E839.size
  have hB810 := hB810.keep E839 (by simp; omega)
  have hB814 := hB814.keep E839 (by simp; omega)
  have hO826 := hO826.keepX hB835_old E839 (by decide)
  have hb := below_step1 hb E839 hb.size (by omega)
  refine op_assign (ev_hit hN rfl) ?_
  refine op_assign (ev_hit hN rfl) ?_
  refine reg_nil ?_
  refine hK823 _ _ ?_
  refine seq_any fun K840 hK840 => ?_
  refine one_reg ?_
  refine op_loadA (cs := [(Value.int .i64 1), (Value.int .i64 5), (Value.string (bs []))]) agg50 rfl (ev_hit hN rfl) (fun j u hu => by rw [Nat.zero_add]; exact hB810.cell hu) ?_
  refine op_fn (vs := [(Value.agg #[(Value.int .i64 1), (Value.int .i64 5), (Value.string (bs []))])]) ok31 ⟨(ev_hit hN rfl), trivial⟩ (May_ret ⟨1, 5, []⟩ _ (by first | assumption | omega | (simp only [List.length_append, List.length_cons, List.length_nil, List.length_drop, List.length_take]; omega) | (dsimp only; omega) | decide | (simp [keyV, be8_len]; done))) ?_
  rintro _ w841 ⟨E842, rfl⟩
  have E842 := grown_of_below E842
  have z_w841 := E842.size
  have hB810 := hB810.keep0 E842
  have hB814 := hB814.keep0 E842
  have hO826 := hO826.keep0 E842
  have hB835 := hB835.keep0 E842
  have hb := below_step0 hb E842 hb.size
  rcases Bool.eq_false_or_eq_true ((mayV ⟨1, 5, []⟩)) with c16 | c16
  · -- 16 True
    rw [c16]
    refine op_move (ev_hit hN rfl) ?_
    refine g_true (j := 2) (dj := 17) (b := true) rfl rfl rfl (ev_hit hN rfl) ?_
    refine op_loadA (cs := [(Value.int .i64 2), (Value.int .i64 0), (Value.string (bs [97]))]) agg50 rfl (ev_hit hN rfl) (fun j u hu => by rw [Nat.zero_add]; exact hB814.cell hu) ?_
    refine g_true (j := 2) (dj := 17) (b := true) rfl rfl rfl (ev_hit hN rfl) ?_
    refine op_fn (vs := [(Value.agg #[(Value.int .i64 2), (Value.int .i64 0), (Value.string (bs [97]))])]) ok31 ⟨(ev_hit hN rfl), trivial⟩ (May_ret ⟨2, 0, [97]⟩ _ (by first | assumption | omega | (simp only [List.length_append, List.length_cons, List.length_nil, List.length_drop, List.length_take]; omega) | (dsimp only; omega) | decide | (simp [keyV, be8_len]; done))) ?_
    rintro _ w843 ⟨E844, rfl⟩
    have E844 := grown_of_below E844
    have z_w843 := E844.size
    have hB810 := hB810.keep0 E844
    have hB814 := hB814.keep0 E844
    have hO826 := hO826.keep0 E844
    have hB835 := hB835.keep0 E844
    have hb := below_step0 hb E844 hb.size
    rcases Bool.eq_false_or_eq_true ((mayV ⟨2, 0, [97]⟩)) with c19 | c19
    · -- 19 True
      rw [c19]
      refine op_pick_t (ev_hit hN rfl) (ev_hit hN rfl) ?_
      refine op_move (ev_hit hN rfl) ?_
      refine g_true (j := 6) (dj := 21) (b := true) rfl rfl rfl (ev_hit hN rfl) ?_
      refine op_build (pv := []) (v := (Value.agg #[(Value.int .i64 0), (Value.int .i64 0), (Value.string (bs []))])) trivial (by kernel_rfl) ?_
      refine g_true (j := 6) (dj := 21) (b := true) rfl rfl rfl (ev_hit hN rfl) ?_
      refine op_fn (vs := [(Value.agg #[(Value.int .i64 0), (Value.int .i64 0), (Value.string (bs []))])]) ok31 ⟨(ev_hit hN rfl), trivial⟩ (May_ret ⟨0, 0, []⟩ _ (by first | assumption | omega | (simp only [List.length_append, List.length_cons, List.length_nil, List.length_drop, List.length_take]; omega) | (dsimp only; omega) | decide | (simp [keyV, be8_len]; done))) ?_
      rintro _ w845 ⟨E846, rfl⟩
      have E846 := grown_of_below E846
      have z_w845 := E846.size
      have hB810 := hB810.keep0 E846
      have hB814 := hB814.keep0 E846
      have hO826 := hO826.keep0 E846
      have hB835 := hB835.keep0 E846
      have hb := below_step0 hb E846 hb.size
      rcases Bool.eq_false_or_eq_true ((mayV ⟨0, 0, []⟩)) with c23 | c23
      · -- 23 True
        exact absurd c23 (by decide)
      · -- 23 False
        rw [c23]
        refine g_true (j := 6) (dj := 21) (b := true) rfl rfl rfl (ev_hit hN rfl) ?_
        refine op_not (ev_hit hN rfl) ?_
        refine op_pick_t (ev_hit hN rfl) (ev_hit hN rfl) ?_
        refine op_move (ev_hit hN rfl) ?_
        refine g_true (j := 11) (dj := 26) (b := true) rfl rfl rfl (ev_hit hN rfl) ?_
        refine op_loadA (cs := [(Value.int .i64 1), (Value.int .i64 5), (Value.string (bs []))]) agg50 rfl (ev_hit hN rfl) (fun j u hu => by rw [Nat.zero_add]; exact hB810.cell hu) ?_
        refine g_true (j := 11) (dj := 26) (b := true) rfl rfl rfl (ev_hit hN rfl) ?_
        refine op_loadA (cs := [(Value.int .i64 2), (Value.int .i64 0), (Value.string (bs [97]))]) agg50 rfl (ev_hit hN rfl) (fun j u hu => by rw [Nat.zero_add]; exact hB814.cell hu) ?_
        refine g_true (j := 11) (dj := 26) (b := true) rfl rfl rfl (ev_hit hN rfl) ?_
        refine op_fn (vs := [(Value.agg #[(Value.int .i64 1), (Value.int .i64 5), (Value.string (bs []))]), (Value.agg #[(Value.int .i64 2), (Value.int .i64 0), (Value.string (bs [97]))])]) ok35 ⟨(ev_hit hN rfl), ⟨(ev_hit hN rfl), trivial⟩⟩ (Compare_ret ⟨1, 5, []⟩ ⟨2, 0, [97]⟩ _) ?_
        rintro _ w847 ⟨E848, rfl⟩
        have E848 := grown_of_below E848
        have z_w847 := E848.size
        have hB810 := hB810.keep0 E848
        have hB814 := hB814.keep0 E848
        have hO826 := hO826.keep0 E848
        have hB835 := hB835.keep0 E848
        have hb := below_step0 hb E848 hb.size
        refine g_true (j := 11) (dj := 26) (b := true) rfl rfl rfl (ev_hit hN rfl) ?_
        refine op_eql (ev_hit hN rfl) rfl (fun c30 => ?_) (fun c30 => ?_)
        · -- 30 True
          refine op_pick_t (ev_hit hN rfl) (ev_hit hN rfl) ?_
          refine op_move (ev_hit hN rfl) ?_
          refine g_true (j := 17) (dj := 32) (b := true) rfl rfl rfl (ev_hit hN rfl) ?_
          refine op_loadA (cs := [(Value.int .i64 1), (Value.int .i64 5), (Value.string (bs []))]) agg50 rfl (ev_hit hN rfl) (fun j u hu => by rw [Nat.zero_add]; exact hB810.cell hu) ?_
          refine g_true (j := 17) (dj := 32) (b := true) rfl rfl rfl (ev_hit hN rfl) ?_
          have hq849 : RdC w847 0 w847.heap.size 1 (Value.slice none 0 0) ([] : List UInt8).length (([] : List UInt8).map u8v) := by have hh : RdC w847 0 w847.heap.size 1 _ _ _ := ((RdC.nil _ 0 0 1).mono (L' := 0) (B' := w847.heap.size) (Nat.zero_le _) (by omega)); first | simpa using hh | simpa [Nat.add_comm, Nat.add_left_comm, Nat.add_assoc] using hh
          refine op_fn (vs := [(Value.slice none 0 0), (Value.agg #[(Value.int .i64 1), (Value.int .i64 5), (Value.string (bs []))])]) ok34 ⟨rfl, ⟨(ev_hit hN rfl), trivial⟩⟩ (Key_ret [] ⟨1, 5, []⟩ _ _ (by first | assumption | omega | (simp only [List.length_append, List.length_cons, List.length_nil, List.length_drop, List.length_take]; omega) | (dsimp only; omega) | decide | (simp [keyV, be8_len]; done)) (by first | assumption | omega | (simp only [List.length_append, List.length_cons, List.length_nil, List.length_drop, List.length_take]; omega) | (dsimp only; omega) | decide | (simp [keyV, be8_len]; done)) (by first | assumption | omega | (simp only [List.length_append, List.length_cons, List.length_nil, List.length_drop, List.length_take]; omega) | (dsimp only; omega) | decide | (simp [keyV, be8_len]; done)) hq849) ?_
          rintro v850 w852 ⟨E853, hO851⟩
          have E853 := grown_of_below E853
          have z_w852 := E853.size
          have hB810 := hB810.keep0 E853
          have hB814 := hB814.keep0 E853
          have hO826 := hO826.keep0 E853
          have hB835 := hB835.keep0 E853
          have hb := below_step0 hb E853 hb.size
          have hO851 : Own w852 w847.heap.size 5 1 v850 (keyV ⟨1, 5, []⟩).length ((keyV ⟨1, 5, []⟩).map u8v) := by simpa using hO851.mono (base' := w847.heap.size) (by omega)
          refine g_true (j := 17) (dj := 32) (b := true) rfl rfl rfl (ev_hit hN rfl) ?_
          refine op_len_rd Try.underlying22 (ev_hit hN rfl) hO851.rdw ?_
          refine g_true (j := 17) (dj := 32) (b := true) rfl rfl rfl (ev_hit hN rfl) ?_
          refine op_eql (ev_hit hN rfl) rfl (fun c36 => ?_) (fun c36 => ?_)
          · -- 36 True
            refine op_pick_t (ev_hit hN rfl) (ev_hit hN rfl) ?_
            refine op_move (ev_hit hN rfl) ?_
            refine g_true (j := 23) (dj := 38) (b := true) rfl rfl rfl (ev_hit hN rfl) ?_
            refine op_move (ev_hit hN rfl) ?_
            refine g_true (j := 23) (dj := 38) (b := true) rfl rfl rfl (ev_hit hN rfl) ?_
            refine op_eql (ev_hit hN rfl) rfl (fun c40 => ?_) (fun c40 => ?_)
            · -- 40 True
              refine op_pick_t (ev_hit hN rfl) (ev_hit hN rfl) ?_
              refine op_move (ev_hit hN rfl) ?_
              refine g_true (j := 27) (dj := 42) (b := true) rfl rfl rfl (ev_hit hN rfl) ?_
              refine op_move (ev_hit hN rfl) ?_
              refine g_true (j := 27) (dj := 42) (b := true) rfl rfl rfl (ev_hit hN rfl) ?_
              refine op_eql (ev_hit hN rfl) rfl (fun c44 => ?_) (fun c44 => ?_)
              · -- 44 True
                refine op_pick_t (ev_hit hN rfl) (ev_hit hN rfl) ?_
                refine op_move (ev_hit hN rfl) ?_
                refine g_true (j := 31) (dj := 46) (b := true) rfl rfl rfl (ev_hit hN rfl) ?_
                refine op_loadA (cs := [(Value.int .i64 (takeV (keyV ⟨2, 0, [97]⟩)).1.k), (Value.int .i64 (takeV (keyV ⟨2, 0, [97]⟩)).1.n), (Value.string (bs (takeV (keyV ⟨2, 0, [97]⟩)).1.s))]) agg50 rfl (ev_hit hN rfl) (fun j u hu => by rw [Nat.zero_add]; exact hB835.cell hu) ?_
                refine g_true (j := 31) (dj := 46) (b := true) rfl rfl rfl (ev_hit hN rfl) ?_
                refine op_loadA (cs := [(Value.int .i64 2), (Value.int .i64 0), (Value.string (bs [97]))]) agg50 rfl (ev_hit hN rfl) (fun j u hu => by rw [Nat.zero_add]; exact hB814.cell hu) ?_
                refine g_true (j := 31) (dj := 46) (b := true) rfl rfl rfl (ev_hit hN rfl) ?_
                by_cases c49 : (takeV (keyV ⟨2, 0, [97]⟩)).1.k = 2 ∧ (takeV (keyV ⟨2, 0, [97]⟩)).1.n = 0 ∧ (takeV (keyV ⟨2, 0, [97]⟩)).1.s = [97]
                · -- 49 True
                  refine op_aeql (xs := [(Value.int .i64 (takeV (keyV ⟨2, 0, [97]⟩)).1.k), (Value.int .i64 (takeV (keyV ⟨2, 0, [97]⟩)).1.n), (Value.string (bs (takeV (keyV ⟨2, 0, [97]⟩)).1.s))]) (ys := [(Value.int .i64 2), (Value.int .i64 0), (Value.string (bs [97]))]) (b' := true) (ev_hit hN rfl) (ev_hit hN rfl) (eq50 (takeV (keyV ⟨2, 0, [97]⟩)).1.k 2 (takeV (keyV ⟨2, 0, [97]⟩)).1.n 0 (takeV (keyV ⟨2, 0, [97]⟩)).1.s [97]) (decide_eq_true c49) ?_
                  refine op_pick_t (ev_hit hN rfl) (ev_hit hN rfl) ?_
                  refine op_assign (ev_hit hN rfl) ?_
                  refine reg_nil ?_
                  refine hK840 _ _ ?_
                  refine wp_ret ?_
                  refine ret1 rfl hd (ev_hit hN rfl) ⟨_, rfl, ?_⟩
                  -- path 16T 19T 23F 30T 36T 40T 44T 49T
                  exact ⟨hb, rfl⟩
                · -- 49 False
                  exact absurd (by first | decide | simp [keyV, be8_len]) c49
              · -- 44 False
                exact absurd (by first | decide | simp [keyV, be8_len]) c44
            · -- 40 False
              exact absurd (by first | decide | simp [keyV, be8_len]) c40
          · -- 36 False
            exact absurd (by first | decide | simp [keyV, be8_len]) c36
        · -- 30 False
          exact absurd (by first | decide | simp [keyV, be8_len]) c30
    · -- 19 False
      exact absurd c19 (by decide)
  · -- 16 False
    exact absurd c16 (by decide)

theorem ValueReads_ret (bl : List UInt8) (v : Value) (w : World) (hl : bl.length ≤ 9223372036854775807) (hv : RdC w 0 w.heap.size 1 v bl.length (bl.map u8v)) : Ret Try.prog 6 #[v] w (fun v' w' => Below w.heap.size w w' ∧ v' = .bool true) := by
  have hb := Below.refl w.heap.size w
  refine enter (N := 39) Try.func6 rfl rfl (by simp) fun a0 hN hd hA => ?_
  have s0 : a0.tmps.getD 0 undef = v := hA 0 (by simp)
  clear hA
  refine seq_any fun K854 hK854 => ?_
  refine one_reg ?_
  refine op_assign rfl ?_
  refine reg_nil ?_
  refine hK854 _ _ ?_
  refine seq_any fun K855 hK855 => ?_
  refine seq_any fun K856 hK856 => ?_
  refine one_reg ?_
  refine op_fn (vs := []) ok30 trivial (begun4_ret _) ?_
  rintro _ w857 ⟨E858, rfl⟩
  have E858 := grown_of_below E858
  have z_w857 := E858.size
  have hv := hv.keep0 E858
  have hb := below_step0 hb E858 hb.size
  refine op_not (ev_hit hN rfl) ?_
  refine reg_nil ?_
  refine hK856 _ _ ?_
  refine wp_cond_false (ev_hit hN rfl) ?_
  refine wp_skip ?_
  refine hK855 _ _ ?_
  refine seq_any fun K859 hK859 => ?_
  refine seq_any fun K860 hK860 => ?_
  refine one_reg ?_
  refine op_move (ev_base hN rfl s0) ?_
  refine op_len_rd Try.underlying22 (ev_hit hN rfl) hv ?_
  refine op_gtr (ev_hit hN rfl) rfl (fun c13 => ?_) (fun c13 => ?_)
  · -- 13 True
    refine reg_nil ?_
    refine hK860 _ _ ?_
    refine wp_cond_true (ev_hit hN rfl) ?_
    refine seq_any fun K861 hK861 => ?_
    refine one_reg ?_
    refine op_assign rfl ?_
    refine reg_nil ?_
    refine hK861 _ _ ?_
    refine wp_ret (then_ret ( ?_))
    refine ret1 rfl hd (ev_hit hN rfl) ⟨_, rfl, ?_⟩
    -- path 13T
    exact ⟨hb, rfl⟩
  · -- 13 False
    refine reg_nil ?_
    refine hK860 _ _ ?_
    refine wp_cond_false (ev_hit hN rfl) ?_
    refine wp_skip ?_
    refine hK859 _ _ ?_
    refine seq_any fun K862 hK862 => ?_
    refine one_reg ?_
    refine op_move (ev_base hN rfl s0) ?_
    have hq863 : RdC w857 0 w857.heap.size 1 v bl.length (bl.map u8v) := by have hh : RdC w857 0 w857.heap.size 1 _ _ _ := (hv.mono (L' := 0) (B' := w857.heap.size) (Nat.zero_le _) (by omega)); first | simpa using hh | simpa [Nat.add_comm, Nat.add_left_comm, Nat.add_assoc] using hh
    refine op_fn (vs := [v]) ok40 ⟨(ev_hit hN rfl), trivial⟩ (Take_ret bl v _ (by first | assumption | omega | (simp only [List.length_append, List.length_cons, List.length_nil, List.length_drop, List.length_take]; omega) | (dsimp only; omega) | decide | (simp [keyV, be8_len]; done)) hq863) ?_
    rintro _ w864 ⟨E865, rfl⟩
    have E865 := grown_of_below E865
    have z_w864 := E865.size
    have hv := hv.keep0 E865
    have hb := below_step0 hb E865 hb.size
    refine op_move (ev_hit hN rfl) ?_
    refine op_extract (ev_hit hN rfl) rfl ?_
    refine op_extract (ev_hit hN rfl) rfl ?_
    refine op_extract (ev_hit hN rfl) rfl ?_
    refine op_alloc (cs := [(Value.int .i64 0), (Value.int .i64 0), (Value.string (bs []))]) zero50 rfl ?_
    intro w866 b867 lo_b867 hi_b867 hB869 E868
    have z_w866 := E868.size
    have hv := hv.keep0 E868
    have hb := below_step0 hb E868 hb.size
    have hB869_old := hB869
    refine op_store (vs := [(Value.int .i64 (takeV bl).1.k), (Value.int .i64 (takeV bl).1.n), (Value.string (bs (takeV bl).1.s))]) (cs' := [(Value.int .i64 (takeV bl).1.k), (Value.int .i64 (takeV bl).1.n), (Value.string (bs (takeV bl).1.s))]) size50 (ev_hit hN rfl) (ev_hit hN rfl) rfl rfl rfl hB869 (Nat.le_of_ble_eq_true rfl) rfl ?_
    intro w872 hB869 E873
    have z_w872 := E873.size
    have hv := hv.keep E873 (fun k hk => .inr (by simp at hk; omega))
    have hb := below_step1 hb E873 hb.size (by omega)
    refine op_assign (ev_hit hN rfl) ?_
    refine op_assign (ev_hit hN rfl) ?_
    refine reg_nil ?_
    refine hK862 _ _ ?_
    refine seq_any fun K874 hK874 => ?_
    refine one_reg ?_
    refine op_move (ev_base hN rfl s0) ?_
    have hq875 : RdC w872 0 w872.heap.size 1 v bl.length (bl.map u8v) := by have hh : RdC w872 0 w872.heap.size 1 _ _ _ := (hv.mono (L' := 0) (B' := w872.heap.size) (Nat.zero_le _) (by omega)); first | simpa using hh | simpa [Nat.add_comm, Nat.add_left_comm, Nat.add_assoc] using hh
    refine op_fn (vs := [v]) ok41 ⟨(ev_hit hN rfl), trivial⟩ (TakeKey_ret bl v _ (by first | assumption | omega | (simp only [List.length_append, List.length_cons, List.length_nil, List.length_drop, List.length_take]; omega) | (dsimp only; omega) | decide | (simp [keyV, be8_len]; done)) hq875) ?_
    rintro _ w876 ⟨E877, rfl⟩
    have E877 := grown_of_below E877
    have z_w876 := E877.size
    have hv := hv.keep0 E877
    have hB869 := hB869.keep0 E877
    have hb := below_step0 hb E877 hb.size
    refine op_move (ev_hit hN rfl) ?_
    refine op_extract (ev_hit hN rfl) rfl ?_
    refine op_extract (ev_hit hN rfl) rfl ?_
    refine op_extract (ev_hit hN rfl) rfl ?_
    refine op_alloc (cs := [(Value.int .i64 0), (Value.int .i64 0), (Value.string (bs []))]) zero50 rfl ?_
    intro w878 b879 lo_b879 hi_b879 hB881 E880
    have z_w878 := E880.size
    have hv := hv.keep0 E880
    have hB869 := hB869.keep0 E880
    have hb := below_step0 hb E880 hb.size
    have hB881_old := hB881
    refine op_store (vs := [(Value.int .i64 (takeV bl).1.k), (Value.int .i64 (takeV bl).1.n), (Value.string (bs (takeV bl).1.s))]) (cs' := [(Value.int .i64 (takeV bl).1.k), (Value.int .i64 (takeV bl).1.n), (Value.string (bs (takeV bl).1.s))]) size50 (ev_hit hN rfl) (ev_hit hN rfl) rfl rfl rfl hB881 (Nat.le_of_ble_eq_true rfl) rfl ?_
    intro w884 hB881 E885
    have z_w884 := E885.size
    have hv := hv.keep E885 (fun k hk => .inr (by simp at hk; omega))
    have hB869 := hB869.keep E885 (by simp; omega)
    have hb := below_step1 hb E885 hb.size (by omega)
    refine op_assign (ev_hit hN rfl) ?_
    refine op_assign (ev_hit hN rfl) ?_
    refine reg_nil ?_
    refine hK874 _ _ ?_
    refine seq_any fun K886 hK886 => ?_
    refine one_reg ?_
    refine op_loadA (cs := [(Value.int .i64 (takeV bl).1.k), (Value.int .i64 (takeV bl).1.n), (Value.string (bs (takeV bl).1.s))]) agg50 rfl (ev_hit hN rfl) (fun j u hu => by rw [Nat.zero_add]; exact hB869.cell hu) ?_
    refine op_loadA (cs := [(Value.int .i64 (takeV bl).1.k), (Value.int .i64 (takeV bl).1.n), (Value.string (bs (takeV bl).1.s))]) agg50 rfl (ev_hit hN rfl) (fun j u hu => by rw [Nat.zero_add]; exact hB881.cell hu) ?_
    by_cases c28 : (takeV bl).1.k = (takeV bl).1.k ∧ (takeV bl).1.n = (takeV bl).1.n ∧ (takeV bl).1.s = (takeV bl).1.s
    · -- 28 True
      refine op_aeql (xs := [(Value.int .i64 (takeV bl).1.k), (Value.int .i64 (takeV bl).1.n), (Value.string (bs (takeV bl).1.s))]) (ys := [(Value.int .i64 (takeV bl).1.k), (Value.int .i64 (takeV bl).1.n), (Value.string (bs (takeV bl).1.s))]) (b' := true) (ev_hit hN rfl) (ev_hit hN rfl) (eq50 (takeV bl).1.k (takeV bl).1.k (takeV bl).1.n (takeV bl).1.n (takeV bl).1.s (takeV bl).1.s) (decide_eq_true c28) ?_
      refine op_move (ev_hit hN rfl) ?_
      refine g_true (j := 3) (dj := 29) (b := true) rfl rfl rfl (ev_hit hN rfl) ?_
      refine op_move (ev_hit hN rfl) ?_
      refine g_true (j := 3) (dj := 29) (b := true) rfl rfl rfl (ev_hit hN rfl) ?_
      refine op_move (ev_hit hN rfl) ?_
      refine g_true (j := 3) (dj := 29) (b := true) rfl rfl rfl (ev_hit hN rfl) ?_
      refine op_eql (ev_hit hN rfl) (ev_hit hN rfl) (fun c32 => ?_) (fun c32 => ?_)
      · -- 32 True
        refine op_pick_t (ev_hit hN rfl) (ev_hit hN rfl) ?_
        refine op_move (ev_hit hN rfl) ?_
        refine g_true (j := 8) (dj := 34) (b := true) rfl rfl rfl (ev_hit hN rfl) ?_
        refine op_move (ev_hit hN rfl) ?_
        refine g_true (j := 8) (dj := 34) (b := true) rfl rfl rfl (ev_hit hN rfl) ?_
        refine op_move (ev_hit hN rfl) ?_
        refine g_true (j := 8) (dj := 34) (b := true) rfl rfl rfl (ev_hit hN rfl) ?_
        refine op_eql (ev_hit hN rfl) (ev_hit hN rfl) (fun c37 => ?_) (fun c37 => ?_)
        · -- 37 True
          refine op_pick_t (ev_hit hN rfl) (ev_hit hN rfl) ?_
          refine op_assign (ev_hit hN rfl) ?_
          refine reg_nil ?_
          refine hK886 _ _ ?_
          refine wp_ret ?_
          refine ret1 rfl hd (ev_hit hN rfl) ⟨_, rfl, ?_⟩
          -- path 13F 28T 32T 37T
          exact ⟨hb, rfl⟩
        · -- 37 False
          exact absurd rfl c37
      · -- 32 False
        exact absurd rfl c32
    · -- 28 False
      exact absurd ⟨rfl, rfl, rfl⟩ c28

end Go.Proofs.Ytkkongnmcfdioaa
