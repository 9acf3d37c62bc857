/- Walks, written by a program: what each function of the translation hands back. -/
import Derived.Test.YtkkongnmcfdioaaV7
namespace Go.Proofs.Ytkkongnmcfdioaa
open Go.Gx Go.RowKit
attribute [local irreducible] wpList Code.wp Calls

theorem begun4_ret (w : World) : Ret Try.prog 30 #[] w (fun v' w' => Below w.heap.size w w' ∧ v' = .bool true) := by
  have hb := Below.refl w.heap.size w
  refine enter (N := 51) Try.func30 rfl rfl (by simp) fun a0 hN hd hA => ?_
  clear hA
  refine seq_any fun K540 hK540 => ?_
  refine one_reg ?_
  refine op_assign rfl ?_
  refine reg_nil ?_
  refine hK540 _ _ ?_
  refine seq_any fun K541 hK541 => ?_
  refine one_reg ?_
  refine op_build (pv := [(0, (Value.int .i64 1)), (1, (Value.int .i64 5))]) (v := (Value.agg #[(Value.int .i64 1), (Value.int .i64 5), (Value.string (bs []))])) ⟨rfl, rfl, ⟨rfl, rfl, trivial⟩⟩ (by kernel_rfl) ?_
  refine op_build (pv := [(0, (Value.int .i64 2)), (2, (Value.string (bs [97])))]) (v := (Value.agg #[(Value.int .i64 2), (Value.int .i64 0), (Value.string (bs [97]))])) ⟨rfl, rfl, ⟨rfl, rfl, trivial⟩⟩ (by kernel_rfl) ?_
  refine op_alloc (cs := [(Value.int .i64 0), (Value.int .i64 0), (Value.string (bs []))]) zero50 rfl ?_
  intro w542 b543 lo_b543 hi_b543 hB545 E544
  have z_w542 := E544.size
  have hb := below_step0 hb E544 hb.size
  refine op_alloc (cs := [(Value.int .i64 0), (Value.int .i64 0), (Value.string (bs []))]) zero50 rfl ?_
  intro w546 b547 lo_b547 hi_b547 hB549 E548
  have z_w546 := E548.size
  have hB545 := hB545.keep0 E548
  have hb := below_step0 hb E548 hb.size
  have hB545_old := hB545
  refine op_store (vs := [(Value.int .i64 1), (Value.int .i64 5), (Value.string (bs []))]) (cs' := [(Value.int .i64 1), (Value.int .i64 5), (Value.string (bs []))]) size50 (ev_hit hN rfl) (ev_hit hN rfl) rfl rfl rfl hB545 (Nat.le_of_ble_eq_true rfl) rfl ?_
  intro w552 hB545 E553
  have z_w552 := E553.size
  have hB549 := hB549.keep E553 (by simp; omega)
  have hb := below_step1 hb E553 hb.size (by omega)
  have hB549_old := hB549
  refine op_store (vs := [(Value.int .i64 2), (Value.int .i64 0), (Value.string (bs [97]))]) (cs' := [(Value.int .i64 2), (Value.int .i64 0), (Value.string (bs [97]))]) size50 (ev_hit hN rfl) (ev_hit hN rfl) rfl rfl rfl hB549 (Nat.le_of_ble_eq_true rfl) rfl ?_
  intro w556 hB549 E557
  have z_w556 := E557.size
  have hB545 := hB545.keep E557 (by simp; omega)
  have hb := below_step1 hb E557 hb.size (by omega)
  refine reg_nil ?_
  refine hK541 _ _ ?_
  refine seq_any fun K558 hK558 => ?_
  refine one_reg ?_
  refine op_loadA (cs := [(Value.int .i64 2), (Value.int .i64 0), (Value.string (bs [97]))]) agg50 rfl (ev_hit hN rfl) (fun j u hu => by rw [Nat.zero_add]; exact hB549.cell hu) ?_
  have hq559 : RdC w556 0 w556.heap.size 1 (Value.slice none 0 0) ([] : List UInt8).length (([] : List UInt8).map u8v) := by simpa using ((RdC.nil _ 0 0 1).mono (L' := 0) (B' := w556.heap.size) (Nat.zero_le _) (by omega))
  refine op_fn (vs := [(Value.slice none 0 0), (Value.agg #[(Value.int .i64 2), (Value.int .i64 0), (Value.string (bs [97]))])]) ok34 ⟨rfl, ⟨(ev_hit hN rfl), trivial⟩⟩ (Key_ret [] ⟨2, 0, [97]⟩ _ _ (by first | assumption | omega | (simp only [List.length_append, List.length_cons, List.length_nil, List.length_drop, List.length_take]; omega) | (dsimp only; omega) | decide | (simp [keyV, be8_len]; done)) (by first | assumption | omega | (simp only [List.length_append, List.length_cons, List.length_nil, List.length_drop, List.length_take]; omega) | (dsimp only; omega) | decide | (simp [keyV, be8_len]; done)) (by first | assumption | omega | (simp only [List.length_append, List.length_cons, List.length_nil, List.length_drop, List.length_take]; omega) | (dsimp only; omega) | decide | (simp [keyV, be8_len]; done)) hq559) ?_
  rintro v560 w562 ⟨E563, hO561⟩
  have E563 := grown_of_below E563
  have z_w562 := E563.size
  have hB545 := hB545.keep0 E563
  have hB549 := hB549.keep0 E563
  have hb := below_step0 hb E563 hb.size
  have hO561 : Own w562 w556.heap.size 5 1 v560 (keyV ⟨2, 0, [97]⟩).length ((keyV ⟨2, 0, [97]⟩).map u8v) := by simpa using hO561.mono (base' := w556.heap.size) (by omega)
  have hq564 : RdC w562 0 w562.heap.size 1 v560 (keyV ⟨2, 0, [97]⟩).length ((keyV ⟨2, 0, [97]⟩).map u8v) := by simpa using (hO561.rdw.mono (L' := 0) (B' := w562.heap.size) (Nat.zero_le _) (by omega))
  refine op_fn (vs := [v560]) ok40 ⟨(ev_hit hN rfl), trivial⟩ (Take_ret (keyV ⟨2, 0, [97]⟩) v560 _ (by first | assumption | omega | (simp only [List.length_append, List.length_cons, List.length_nil, List.length_drop, List.length_take]; omega) | (dsimp only; omega) | decide | (simp [keyV, be8_len]; done)) hq564) ?_
  rintro _ w565 ⟨E566, rfl⟩
  have E566 := grown_of_below E566
  have z_w565 := E566.size
  have hB545 := hB545.keep0 E566
  have hB549 := hB549.keep0 E566
  have hO561 := hO561.keep0 E566
  have hb := below_step0 hb E566 hb.size
  refine op_move (ev_hit hN rfl) ?_
  refine op_extract (ev_hit hN rfl) rfl ?_
  refine op_extract (ev_hit hN rfl) rfl ?_
  refine op_extract (ev_hit hN rfl) rfl ?_
  refine op_alloc (cs := [(Value.int .i64 0), (Value.int .i64 0), (Value.string (bs []))]) zero50 rfl ?_
  intro w567 b568 lo_b568 hi_b568 hB570 E569
  have z_w567 := E569.size
  have hB545 := hB545.keep0 E569
  have hB549 := hB549.keep0 E569
  have hO561 := hO561.keep0 E569
  have hb := below_step0 hb E569 hb.size
  have hB570_old := hB570
  refine op_store (vs := [(Value.int .i64 (takeV (keyV ⟨2, 0, [97]⟩)).1.k), (Value.int .i64 (takeV (keyV ⟨2, 0, [97]⟩)).1.n), (Value.string (bs (takeV (keyV ⟨2, 0, [97]⟩)).1.s))]) (cs' := [(Value.int .i64 (takeV (keyV ⟨2, 0, [97]⟩)).1.k), (Value.int .i64 (takeV (keyV ⟨2, 0, [97]⟩)).1.n), (Value.string (bs (takeV (keyV ⟨2, 0, [97]⟩)).1.s))]) size50 (ev_hit hN rfl) (ev_hit hN rfl) rfl rfl rfl hB570 (Nat.le_of_ble_eq_true rfl) rfl ?_
  intro w573 hB570 E574
  have z_w573 := E574.size
  have hB545 := hB545.keep E574 (by simp; omega)
  have hB549 := hB549.keep E574 (by simp; omega)
  have hO561 := hO561.keepX hB570_old E574 (by decide)
  have hb := below_step1 hb E574 hb.size (by omega)
  refine op_assign (ev_hit hN rfl) ?_
  refine op_assign (ev_hit hN rfl) ?_
  refine reg_nil ?_
  refine hK558 _ _ ?_
  refine seq_any fun K575 hK575 => ?_
  refine one_reg ?_
  refine op_loadA (cs := [(Value.int .i64 1), (Value.int .i64 5), (Value.string (bs []))]) agg50 rfl (ev_hit hN rfl) (fun j u hu => by rw [Nat.zero_add]; exact hB545.cell hu) ?_
  refine op_fn (vs := [(Value.agg #[(Value.int .i64 1), (Value.int .i64 5), (Value.string (bs []))])]) ok31 ⟨(ev_hit hN rfl), trivial⟩ (May_ret ⟨1, 5, []⟩ _ (by first | assumption | omega | (simp only [List.length_append, List.length_cons, List.length_nil, List.length_drop, List.length_take]; omega) | (dsimp only; omega) | decide | (simp [keyV, be8_len]; done))) ?_
  rintro _ w576 ⟨E577, rfl⟩
  have E577 := grown_of_below E577
  have z_w576 := E577.size
  have hB545 := hB545.keep0 E577
  have hB549 := hB549.keep0 E577
  have hO561 := hO561.keep0 E577
  have hB570 := hB570.keep0 E577
  have hb := below_step0 hb E577 hb.size
  rcases Bool.eq_false_or_eq_true ((mayV ⟨1, 5, []⟩)) with c16 | c16
  · -- 16 True
    rw [c16]
    refine op_move (ev_hit hN rfl) ?_
    refine g_true (j := 2) (dj := 17) (b := true) rfl rfl rfl (ev_hit hN rfl) ?_
    refine op_loadA (cs := [(Value.int .i64 2), (Value.int .i64 0), (Value.string (bs [97]))]) agg50 rfl (ev_hit hN rfl) (fun j u hu => by rw [Nat.zero_add]; exact hB549.cell hu) ?_
    refine g_true (j := 2) (dj := 17) (b := true) rfl rfl rfl (ev_hit hN rfl) ?_
    refine op_fn (vs := [(Value.agg #[(Value.int .i64 2), (Value.int .i64 0), (Value.string (bs [97]))])]) ok31 ⟨(ev_hit hN rfl), trivial⟩ (May_ret ⟨2, 0, [97]⟩ _ (by first | assumption | omega | (simp only [List.length_append, List.length_cons, List.length_nil, List.length_drop, List.length_take]; omega) | (dsimp only; omega) | decide | (simp [keyV, be8_len]; done))) ?_
    rintro _ w578 ⟨E579, rfl⟩
    have E579 := grown_of_below E579
    have z_w578 := E579.size
    have hB545 := hB545.keep0 E579
    have hB549 := hB549.keep0 E579
    have hO561 := hO561.keep0 E579
    have hB570 := hB570.keep0 E579
    have hb := below_step0 hb E579 hb.size
    rcases Bool.eq_false_or_eq_true ((mayV ⟨2, 0, [97]⟩)) with c19 | c19
    · -- 19 True
      rw [c19]
      refine op_pick_t (ev_hit hN rfl) (ev_hit hN rfl) ?_
      refine op_move (ev_hit hN rfl) ?_
      refine g_true (j := 6) (dj := 21) (b := true) rfl rfl rfl (ev_hit hN rfl) ?_
      refine op_build (pv := []) (v := (Value.agg #[(Value.int .i64 0), (Value.int .i64 0), (Value.string (bs []))])) trivial (by kernel_rfl) ?_
      refine g_true (j := 6) (dj := 21) (b := true) rfl rfl rfl (ev_hit hN rfl) ?_
      refine op_fn (vs := [(Value.agg #[(Value.int .i64 0), (Value.int .i64 0), (Value.string (bs []))])]) ok31 ⟨(ev_hit hN rfl), trivial⟩ (May_ret ⟨0, 0, []⟩ _ (by first | assumption | omega | (simp only [List.length_append, List.length_cons, List.length_nil, List.length_drop, List.length_take]; omega) | (dsimp only; omega) | decide | (simp [keyV, be8_len]; done))) ?_
      rintro _ w580 ⟨E581, rfl⟩
      have E581 := grown_of_below E581
      have z_w580 := E581.size
      have hB545 := hB545.keep0 E581
      have hB549 := hB549.keep0 E581
      have hO561 := hO561.keep0 E581
      have hB570 := hB570.keep0 E581
      have hb := below_step0 hb E581 hb.size
      rcases Bool.eq_false_or_eq_true ((mayV ⟨0, 0, []⟩)) with c23 | c23
      · -- 23 True
        exact absurd c23 (by decide)
      · -- 23 False
        rw [c23]
        refine g_true (j := 6) (dj := 21) (b := true) rfl rfl rfl (ev_hit hN rfl) ?_
        refine op_not (ev_hit hN rfl) ?_
        refine op_pick_t (ev_hit hN rfl) (ev_hit hN rfl) ?_
        refine op_move (ev_hit hN rfl) ?_
        refine g_true (j := 11) (dj := 26) (b := true) rfl rfl rfl (ev_hit hN rfl) ?_
        refine op_loadA (cs := [(Value.int .i64 1), (Value.int .i64 5), (Value.string (bs []))]) agg50 rfl (ev_hit hN rfl) (fun j u hu => by rw [Nat.zero_add]; exact hB545.cell hu) ?_
        refine g_true (j := 11) (dj := 26) (b := true) rfl rfl rfl (ev_hit hN rfl) ?_
        refine op_loadA (cs := [(Value.int .i64 2), (Value.int .i64 0), (Value.string (bs [97]))]) agg50 rfl (ev_hit hN rfl) (fun j u hu => by rw [Nat.zero_add]; exact hB549.cell hu) ?_
        refine g_true (j := 11) (dj := 26) (b := true) rfl rfl rfl (ev_hit hN rfl) ?_
        refine op_fn (vs := [(Value.agg #[(Value.int .i64 1), (Value.int .i64 5), (Value.string (bs []))]), (Value.agg #[(Value.int .i64 2), (Value.int .i64 0), (Value.string (bs [97]))])]) ok35 ⟨(ev_hit hN rfl), ⟨(ev_hit hN rfl), trivial⟩⟩ (Compare_ret ⟨1, 5, []⟩ ⟨2, 0, [97]⟩ _) ?_
        rintro _ w582 ⟨E583, rfl⟩
        have E583 := grown_of_below E583
        have z_w582 := E583.size
        have hB545 := hB545.keep0 E583
        have hB549 := hB549.keep0 E583
        have hO561 := hO561.keep0 E583
        have hB570 := hB570.keep0 E583
        have hb := below_step0 hb E583 hb.size
        refine g_true (j := 11) (dj := 26) (b := true) rfl rfl rfl (ev_hit hN rfl) ?_
        refine op_eql (ev_hit hN rfl) rfl (fun c30 => ?_) (fun c30 => ?_)
        · -- 30 True
          refine op_pick_t (ev_hit hN rfl) (ev_hit hN rfl) ?_
          refine op_move (ev_hit hN rfl) ?_
          refine g_true (j := 17) (dj := 32) (b := true) rfl rfl rfl (ev_hit hN rfl) ?_
          refine op_loadA (cs := [(Value.int .i64 1), (Value.int .i64 5), (Value.string (bs []))]) agg50 rfl (ev_hit hN rfl) (fun j u hu => by rw [Nat.zero_add]; exact hB545.cell hu) ?_
          refine g_true (j := 17) (dj := 32) (b := true) rfl rfl rfl (ev_hit hN rfl) ?_
          have hq584 : RdC w582 0 w582.heap.size 1 (Value.slice none 0 0) ([] : List UInt8).length (([] : List UInt8).map u8v) := by simpa using ((RdC.nil _ 0 0 1).mono (L' := 0) (B' := w582.heap.size) (Nat.zero_le _) (by omega))
          refine op_fn (vs := [(Value.slice none 0 0), (Value.agg #[(Value.int .i64 1), (Value.int .i64 5), (Value.string (bs []))])]) ok34 ⟨rfl, ⟨(ev_hit hN rfl), trivial⟩⟩ (Key_ret [] ⟨1, 5, []⟩ _ _ (by first | assumption | omega | (simp only [List.length_append, List.length_cons, List.length_nil, List.length_drop, List.length_take]; omega) | (dsimp only; omega) | decide | (simp [keyV, be8_len]; done)) (by first | assumption | omega | (simp only [List.length_append, List.length_cons, List.length_nil, List.length_drop, List.length_take]; omega) | (dsimp only; omega) | decide | (simp [keyV, be8_len]; done)) (by first | assumption | omega | (simp only [List.length_append, List.length_cons, List.length_nil, List.length_drop, List.length_take]; omega) | (dsimp only; omega) | decide | (simp [keyV, be8_len]; done)) hq584) ?_
          rintro v585 w587 ⟨E588, hO586⟩
          have E588 := grown_of_below E588
          have z_w587 := E588.size
          have hB545 := hB545.keep0 E588
          have hB549 := hB549.keep0 E588
          have hO561 := hO561.keep0 E588
          have hB570 := hB570.keep0 E588
          have hb := below_step0 hb E588 hb.size
          have hO586 : Own w587 w582.heap.size 5 1 v585 (keyV ⟨1, 5, []⟩).length ((keyV ⟨1, 5, []⟩).map u8v) := by simpa using hO586.mono (base' := w582.heap.size) (by omega)
          refine g_true (j := 17) (dj := 32) (b := true) rfl rfl rfl (ev_hit hN rfl) ?_
          refine op_len_rd Try.underlying22 (ev_hit hN rfl) hO586.rdw ?_
          refine g_true (j := 17) (dj := 32) (b := true) rfl rfl rfl (ev_hit hN rfl) ?_
          refine op_eql (ev_hit hN rfl) rfl (fun c36 => ?_) (fun c36 => ?_)
          · -- 36 True
            refine op_pick_t (ev_hit hN rfl) (ev_hit hN rfl) ?_
            refine op_move (ev_hit hN rfl) ?_
            refine g_true (j := 23) (dj := 38) (b := true) rfl rfl rfl (ev_hit hN rfl) ?_
            refine op_move (ev_hit hN rfl) ?_
            refine g_true (j := 23) (dj := 38) (b := true) rfl rfl rfl (ev_hit hN rfl) ?_
            refine op_eql (ev_hit hN rfl) rfl (fun c40 => ?_) (fun c40 => ?_)
            · -- 40 True
              refine op_pick_t (ev_hit hN rfl) (ev_hit hN rfl) ?_
              refine op_move (ev_hit hN rfl) ?_
              refine g_true (j := 27) (dj := 42) (b := true) rfl rfl rfl (ev_hit hN rfl) ?_
              refine op_move (ev_hit hN rfl) ?_
              refine g_true (j := 27) (dj := 42) (b := true) rfl rfl rfl (ev_hit hN rfl) ?_
              refine op_eql (ev_hit hN rfl) rfl (fun c44 => ?_) (fun c44 => ?_)
              · -- 44 True
                refine op_pick_t (ev_hit hN rfl) (ev_hit hN rfl) ?_
                refine op_move (ev_hit hN rfl) ?_
                refine g_true (j := 31) (dj := 46) (b := true) rfl rfl rfl (ev_hit hN rfl) ?_
                refine op_loadA (cs := [(Value.int .i64 (takeV (keyV ⟨2, 0, [97]⟩)).1.k), (Value.int .i64 (takeV (keyV ⟨2, 0, [97]⟩)).1.n), (Value.string (bs (takeV (keyV ⟨2, 0, [97]⟩)).1.s))]) agg50 rfl (ev_hit hN rfl) (fun j u hu => by rw [Nat.zero_add]; exact hB570.cell hu) ?_
                refine g_true (j := 31) (dj := 46) (b := true) rfl rfl rfl (ev_hit hN rfl) ?_
                refine op_loadA (cs := [(Value.int .i64 2), (Value.int .i64 0), (Value.string (bs [97]))]) agg50 rfl (ev_hit hN rfl) (fun j u hu => by rw [Nat.zero_add]; exact hB549.cell hu) ?_
                refine g_true (j := 31) (dj := 46) (b := true) rfl rfl rfl (ev_hit hN rfl) ?_
                by_cases c49 : (takeV (keyV ⟨2, 0, [97]⟩)).1.k = 2 ∧ (takeV (keyV ⟨2, 0, [97]⟩)).1.n = 0 ∧ (takeV (keyV ⟨2, 0, [97]⟩)).1.s = [97]
                · -- 49 True
                  refine op_aeql (xs := [(Value.int .i64 (takeV (keyV ⟨2, 0, [97]⟩)).1.k), (Value.int .i64 (takeV (keyV ⟨2, 0, [97]⟩)).1.n), (Value.string (bs (takeV (keyV ⟨2, 0, [97]⟩)).1.s))]) (ys := [(Value.int .i64 2), (Value.int .i64 0), (Value.string (bs [97]))]) (b' := true) (ev_hit hN rfl) (ev_hit hN rfl) (eq50 (takeV (keyV ⟨2, 0, [97]⟩)).1.k 2 (takeV (keyV ⟨2, 0, [97]⟩)).1.n 0 (takeV (keyV ⟨2, 0, [97]⟩)).1.s [97]) (decide_eq_true c49) ?_
                  refine op_pick_t (ev_hit hN rfl) (ev_hit hN rfl) ?_
                  refine op_assign (ev_hit hN rfl) ?_
                  refine reg_nil ?_
                  refine hK575 _ _ ?_
                  refine wp_ret ?_
                  refine ret1 rfl hd (ev_hit hN rfl) ⟨_, rfl, ?_⟩
                  -- path 16T 19T 23F 30T 36T 40T 44T 49T
                  exact ⟨hb, rfl⟩
                · -- 49 False
                  exact absurd (by first | decide | simp [keyV, be8_len]) c49
              · -- 44 False
                exact absurd (by first | decide | simp [keyV, be8_len]) c44
            · -- 40 False
              exact absurd (by first | decide | simp [keyV, be8_len]) c40
          · -- 36 False
            exact absurd (by first | decide | simp [keyV, be8_len]) c36
        · -- 30 False
          exact absurd (by first | decide | simp [keyV, be8_len]) c30
    · -- 19 False
      exact absurd c19 (by decide)
  · -- 16 False
    exact absurd c16 (by decide)

theorem ValueReads_ret (bl : List UInt8) (v : Value) (w : World) (hl : bl.length ≤ 9223372036854775807) (hv : RdC w 0 w.heap.size 1 v bl.length (bl.map u8v)) : Ret Try.prog 6 #[v] w (fun v' w' => Below w.heap.size w w' ∧ v' = .bool true) := by
  have hb := Below.refl w.heap.size w
  refine enter (N := 39) Try.func6 rfl rfl (by simp) fun a0 hN hd hA => ?_
  have s0 : a0.tmps.getD 0 undef = v := hA 0 (by simp)
  clear hA
  refine seq_any fun K589 hK589 => ?_
  refine one_reg ?_
  refine op_assign rfl ?_
  refine reg_nil ?_
  refine hK589 _ _ ?_
  refine seq_any fun K590 hK590 => ?_
  refine seq_any fun K591 hK591 => ?_
  refine one_reg ?_
  refine op_fn (vs := []) ok30 trivial (begun4_ret _) ?_
  rintro _ w592 ⟨E593, rfl⟩
  have E593 := grown_of_below E593
  have z_w592 := E593.size
  have hv := hv.keep0 E593
  have hb := below_step0 hb E593 hb.size
  refine op_not (ev_hit hN rfl) ?_
  refine reg_nil ?_
  refine hK591 _ _ ?_
  refine wp_cond_false (ev_hit hN rfl) ?_
  refine wp_skip ?_
  refine hK590 _ _ ?_
  refine seq_any fun K594 hK594 => ?_
  refine seq_any fun K595 hK595 => ?_
  refine one_reg ?_
  refine op_move (ev_base hN rfl s0) ?_
  refine op_len_rd Try.underlying22 (ev_hit hN rfl) hv ?_
  refine op_gtr (ev_hit hN rfl) rfl (fun c13 => ?_) (fun c13 => ?_)
  · -- 13 True
    refine reg_nil ?_
    refine hK595 _ _ ?_
    refine wp_cond_true (ev_hit hN rfl) ?_
    refine seq_any fun K596 hK596 => ?_
    refine one_reg ?_
    refine op_assign rfl ?_
    refine reg_nil ?_
    refine hK596 _ _ ?_
    refine wp_ret (then_ret ( ?_))
    refine ret1 rfl hd (ev_hit hN rfl) ⟨_, rfl, ?_⟩
    -- path 13T
    exact ⟨hb, rfl⟩
  · -- 13 False
    refine reg_nil ?_
    refine hK595 _ _ ?_
    refine wp_cond_false (ev_hit hN rfl) ?_
    refine wp_skip ?_
    refine hK594 _ _ ?_
    refine seq_any fun K597 hK597 => ?_
    refine one_reg ?_
    refine op_move (ev_base hN rfl s0) ?_
    have hq598 : RdC w592 0 w592.heap.size 1 v bl.length (bl.map u8v) := by simpa using (hv.mono (L' := 0) (B' := w592.heap.size) (Nat.zero_le _) (by omega))
    refine op_fn (vs := [v]) ok40 ⟨(ev_hit hN rfl), trivial⟩ (Take_ret bl v _ (by first | assumption | omega | (simp only [List.length_append, List.length_cons, List.length_nil, List.length_drop, List.length_take]; omega) | (dsimp only; omega) | decide | (simp [keyV, be8_len]; done)) hq598) ?_
    rintro _ w599 ⟨E600, rfl⟩
    have E600 := grown_of_below E600
    have z_w599 := E600.size
    have hv := hv.keep0 E600
    have hb := below_step0 hb E600 hb.size
    refine op_move (ev_hit hN rfl) ?_
    refine op_extract (ev_hit hN rfl) rfl ?_
    refine op_extract (ev_hit hN rfl) rfl ?_
    refine op_extract (ev_hit hN rfl) rfl ?_
    refine op_alloc (cs := [(Value.int .i64 0), (Value.int .i64 0), (Value.string (bs []))]) zero50 rfl ?_
    intro w601 b602 lo_b602 hi_b602 hB604 E603
    have z_w601 := E603.size
    have hv := hv.keep0 E603
    have hb := below_step0 hb E603 hb.size
    have hB604_old := hB604
    refine op_store (vs := [(Value.int .i64 (takeV bl).1.k), (Value.int .i64 (takeV bl).1.n), (Value.string (bs (takeV bl).1.s))]) (cs' := [(Value.int .i64 (takeV bl).1.k), (Value.int .i64 (takeV bl).1.n), (Value.string (bs (takeV bl).1.s))]) size50 (ev_hit hN rfl) (ev_hit hN rfl) rfl rfl rfl hB604 (Nat.le_of_ble_eq_true rfl) rfl ?_
    intro w607 hB604 E608
    have z_w607 := E608.size
    have hv := hv.keep E608 (fun k hk => .inr (by simp at hk; omega))
    have hb := below_step1 hb E608 hb.size (by omega)
    refine op_assign (ev_hit hN rfl) ?_
    refine op_assign (ev_hit hN rfl) ?_
    refine reg_nil ?_
    refine hK597 _ _ ?_
    refine seq_any fun K609 hK609 => ?_
    refine one_reg ?_
    refine op_move (ev_base hN rfl s0) ?_
    have hq610 : RdC w607 0 w607.heap.size 1 v bl.length (bl.map u8v) := by simpa using (hv.mono (L' := 0) (B' := w607.heap.size) (Nat.zero_le _) (by omega))
    refine op_fn (vs := [v]) ok41 ⟨(ev_hit hN rfl), trivial⟩ (TakeKey_ret bl v _ (by first | assumption | omega | (simp only [List.length_append, List.length_cons, List.length_nil, List.length_drop, List.length_take]; omega) | (dsimp only; omega) | decide | (simp [keyV, be8_len]; done)) hq610) ?_
    rintro _ w611 ⟨E612, rfl⟩
    have E612 := grown_of_below E612
    have z_w611 := E612.size
    have hv := hv.keep0 E612
    have hB604 := hB604.keep0 E612
    have hb := below_step0 hb E612 hb.size
    refine op_move (ev_hit hN rfl) ?_
    refine op_extract (ev_hit hN rfl) rfl ?_
    refine op_extract (ev_hit hN rfl) rfl ?_
    refine op_extract (ev_hit hN rfl) rfl ?_
    refine op_alloc (cs := [(Value.int .i64 0), (Value.int .i64 0), (Value.string (bs []))]) zero50 rfl ?_
    intro w613 b614 lo_b614 hi_b614 hB616 E615
    have z_w613 := E615.size
    have hv := hv.keep0 E615
    have hB604 := hB604.keep0 E615
    have hb := below_step0 hb E615 hb.size
    have hB616_old := hB616
    refine op_store (vs := [(Value.int .i64 (takeV bl).1.k), (Value.int .i64 (takeV bl).1.n), (Value.string (bs (takeV bl).1.s))]) (cs' := [(Value.int .i64 (takeV bl).1.k), (Value.int .i64 (takeV bl).1.n), (Value.string (bs (takeV bl).1.s))]) size50 (ev_hit hN rfl) (ev_hit hN rfl) rfl rfl rfl hB616 (Nat.le_of_ble_eq_true rfl) rfl ?_
    intro w619 hB616 E620
    have z_w619 := E620.size
    have hv := hv.keep E620 (fun k hk => .inr (by simp at hk; omega))
    have hB604 := hB604.keep E620 (by simp; omega)
    have hb := below_step1 hb E620 hb.size (by omega)
    refine op_assign (ev_hit hN rfl) ?_
    refine op_assign (ev_hit hN rfl) ?_
    refine reg_nil ?_
    refine hK609 _ _ ?_
    refine seq_any fun K621 hK621 => ?_
    refine one_reg ?_
    refine op_loadA (cs := [(Value.int .i64 (takeV bl).1.k), (Value.int .i64 (takeV bl).1.n), (Value.string (bs (takeV bl).1.s))]) agg50 rfl (ev_hit hN rfl) (fun j u hu => by rw [Nat.zero_add]; exact hB604.cell hu) ?_
    refine op_loadA (cs := [(Value.int .i64 (takeV bl).1.k), (Value.int .i64 (takeV bl).1.n), (Value.string (bs (takeV bl).1.s))]) agg50 rfl (ev_hit hN rfl) (fun j u hu => by rw [Nat.zero_add]; exact hB616.cell hu) ?_
    by_cases c28 : (takeV bl).1.k = (takeV bl).1.k ∧ (takeV bl).1.n = (takeV bl).1.n ∧ (takeV bl).1.s = (takeV bl).1.s
    · -- 28 True
      refine op_aeql (xs := [(Value.int .i64 (takeV bl).1.k), (Value.int .i64 (takeV bl).1.n), (Value.string (bs (takeV bl).1.s))]) (ys := [(Value.int .i64 (takeV bl).1.k), (Value.int .i64 (takeV bl).1.n), (Value.string (bs (takeV bl).1.s))]) (b' := true) (ev_hit hN rfl) (ev_hit hN rfl) (eq50 (takeV bl).1.k (takeV bl).1.k (takeV bl).1.n (takeV bl).1.n (takeV bl).1.s (takeV bl).1.s) (decide_eq_true c28) ?_
      refine op_move (ev_hit hN rfl) ?_
      refine g_true (j := 3) (dj := 29) (b := true) rfl rfl rfl (ev_hit hN rfl) ?_
      refine op_move (ev_hit hN rfl) ?_
      refine g_true (j := 3) (dj := 29) (b := true) rfl rfl rfl (ev_hit hN rfl) ?_
      refine op_move (ev_hit hN rfl) ?_
      refine g_true (j := 3) (dj := 29) (b := true) rfl rfl rfl (ev_hit hN rfl) ?_
      refine op_eql (ev_hit hN rfl) (ev_hit hN rfl) (fun c32 => ?_) (fun c32 => ?_)
      · -- 32 True
        refine op_pick_t (ev_hit hN rfl) (ev_hit hN rfl) ?_
        refine op_move (ev_hit hN rfl) ?_
        refine g_true (j := 8) (dj := 34) (b := true) rfl rfl rfl (ev_hit hN rfl) ?_
        refine op_move (ev_hit hN rfl) ?_
        refine g_true (j := 8) (dj := 34) (b := true) rfl rfl rfl (ev_hit hN rfl) ?_
        refine op_move (ev_hit hN rfl) ?_
        refine g_true (j := 8) (dj := 34) (b := true) rfl rfl rfl (ev_hit hN rfl) ?_
        refine op_eql (ev_hit hN rfl) (ev_hit hN rfl) (fun c37 => ?_) (fun c37 => ?_)
        · -- 37 True
          refine op_pick_t (ev_hit hN rfl) (ev_hit hN rfl) ?_
          refine op_assign (ev_hit hN rfl) ?_
          refine reg_nil ?_
          refine hK621 _ _ ?_
          refine wp_ret ?_
          refine ret1 rfl hd (ev_hit hN rfl) ⟨_, rfl, ?_⟩
          -- path 13F 28T 32T 37T
          exact ⟨hb, rfl⟩
        · -- 37 False
          exact absurd rfl c37
      · -- 32 False
        exact absurd rfl c32
    · -- 28 False
      exact absurd ⟨rfl, rfl, rfl⟩ c28

end Go.Proofs.Ytkkongnmcfdioaa
