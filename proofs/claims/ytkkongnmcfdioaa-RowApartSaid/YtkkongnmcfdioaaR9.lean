/- Walks, written by a program: what each function of the translation hands back. -/
import Derived.Test.YtkkongnmcfdioaaR8
namespace Go.Proofs.Ytkkongnmcfdioaa
open Go.Gx Go.RowKit
attribute [local irreducible] wpList Code.wp Calls

theorem RowAll_ret (l : List Vl) (bl : List UInt8) (v u : Value) (w : World) (hl : l.length ≤ 9223372036854775807) (ho : ∀ x ∈ l, OkV x) (hbl : bl.length ≤ 9223372036854775807) (h : RdC w 0 w.heap.size 3 v l.length (l.flatMap cellsV)) (hv : RdC w 0 w.heap.size 1 u bl.length (bl.map u8v)) : Ret Try.prog 10 #[v, u] w (fun v' w' => Below w.heap.size w w' ∧ v' = .bool true) := by
  have hb := Below.refl w.heap.size w
  refine enter (N := 53) Try.func10 rfl rfl (by simp) fun a0 hN hd hA => ?_
  have s0 : a0.tmps.getD 0 undef = v := hA 0 (by simp)
  have s1 : a0.tmps.getD 1 undef = u := hA 1 (by simp)
  clear hA
  refine seq_any fun K1 hK1 => ?_
  refine one_reg ?_
  refine op_assign rfl ?_
  refine reg_nil ?_
  refine hK1 _ _ ?_
  refine seq_any fun K2 hK2 => ?_
  refine seq_any fun K3 hK3 => ?_
  refine one_reg ?_
  refine op_fn (vs := []) ok43 trivial (begun5_ret _) ?_
  rintro _ w4 ⟨E5, rfl⟩
  have E5 := grown_of_below E5
  have z_w4 := E5.size
  have h := h.keep0 E5
  have hv := hv.keep0 E5
  have hb := below_step0 hb E5 hb.size
  refine op_not (ev_hit hN rfl) ?_
  refine reg_nil ?_
  refine hK3 _ _ ?_
  refine wp_cond_false (ev_hit hN rfl) ?_
  refine wp_skip ?_
  refine hK2 _ _ ?_
  refine seq_any fun K6 hK6 => ?_
  refine seq_any fun K7 hK7 => ?_
  refine one_reg ?_
  refine op_move (ev_base hN rfl s0) ?_
  refine op_fn (vs := [v]) ok44 ⟨(ev_hit hN rfl), trivial⟩ (light_ret l _ _ (by first | assumption | omega | (simp only [List.length_append, List.length_cons, List.length_nil, List.length_drop, List.length_take]; omega) | (dsimp only; omega) | decide | (simp [keyV, be8_len]; done)) ho (show RdC w4 0 w4.heap.size 3 v l.length (l.flatMap cellsV) from by simpa [cellsV] using (h.mono (L' := 0) (B' := w4.heap.size) (Nat.zero_le _) (by omega)))) ?_
  rintro _ w8 ⟨E9, rfl⟩
  have E9 := grown_of_below E9
  have z_w8 := E9.size
  have h := h.keep0 E9
  have hv := hv.keep0 E9
  have hb := below_step0 hb E9 hb.size
  rcases Bool.eq_false_or_eq_true ((lightR l)) with c12 | c12
  · -- 12 True
    rw [c12]
    refine op_not (ev_hit hN rfl) ?_
    refine op_move (ev_hit hN rfl) ?_
    refine g_true (j := 3) (dj := 14) (b := false) rfl rfl rfl (ev_hit hN rfl) ?_
    refine op_move (ev_base hN rfl s1) ?_
    refine g_true (j := 3) (dj := 14) (b := false) rfl rfl rfl (ev_hit hN rfl) ?_
    refine op_len_rd Try.underlying22 (ev_hit hN rfl) hv ?_
    refine g_true (j := 3) (dj := 14) (b := false) rfl rfl rfl (ev_hit hN rfl) ?_
    refine op_gtr (ev_hit hN rfl) rfl (fun c17 => ?_) (fun c17 => ?_)
    · -- 17 True
      refine op_pick_f (ev_hit hN rfl) (ev_hit hN rfl) ?_
      refine reg_nil ?_
      refine hK7 _ _ ?_
      refine wp_cond_true (ev_hit hN rfl) ?_
      refine seq_any fun K10 hK10 => ?_
      refine one_reg ?_
      refine op_assign rfl ?_
      refine reg_nil ?_
      refine hK10 _ _ ?_
      refine wp_ret (then_ret ( ?_))
      refine ret1 rfl hd (ev_hit hN rfl) ⟨_, rfl, ?_⟩
      -- path 12T 17T
      exact ⟨hb, rfl⟩
    · -- 17 False
      refine op_pick_f (ev_hit hN rfl) (ev_hit hN rfl) ?_
      refine reg_nil ?_
      refine hK7 _ _ ?_
      refine wp_cond_false (ev_hit hN rfl) ?_
      refine wp_skip ?_
      refine hK6 _ _ ?_
      refine seq_any fun K11 hK11 => ?_
      refine one_reg ?_
      refine op_move (ev_base hN rfl s1) ?_
      have hq12 : RdC w8 0 w8.heap.size 1 u bl.length (bl.map u8v) := by have hh : RdC w8 0 w8.heap.size 1 _ _ _ := (hv.mono (L' := 0) (B' := w8.heap.size) (Nat.zero_le _) (by omega)); first | simpa using hh | simpa [Nat.add_comm, Nat.add_left_comm, Nat.add_assoc] using hh
      refine op_fn (vs := [u]) ok45 ⟨(ev_hit hN rfl), trivial⟩ (rowTake_ret bl u _ (by first | assumption | omega | (simp only [List.length_append, List.length_cons, List.length_nil, List.length_drop, List.length_take]; omega) | (dsimp only; omega) | decide | (simp [keyV, be8_len]; done)) hq12) ?_
      rintro _ w14 ⟨E15, u13, rfl, hO13⟩
      have E15 := grown_of_below E15
      have z_w14 := E15.size
      have h := h.keep0 E15
      have hv := hv.keep0 E15
      have hb := below_step0 hb E15 hb.size
      have hO13 := hO13.mono (base' := w8.heap.size) (by omega)
      refine op_move (ev_hit hN rfl) ?_
      refine op_extract (ev_hit hN rfl) rfl ?_
      refine op_extract (ev_hit hN rfl) rfl ?_
      refine op_assign (ev_hit hN rfl) ?_
      refine op_assign (ev_hit hN rfl) ?_
      refine reg_nil ?_
      refine hK11 _ _ ?_
      refine seq_any fun K16 hK16 => ?_
      refine one_reg ?_
      refine op_move (ev_base hN rfl s1) ?_
      have hq17 : RdC w14 0 w14.heap.size 1 u bl.length (bl.map u8v) := by have hh : RdC w14 0 w14.heap.size 1 _ _ _ := (hv.mono (L' := 0) (B' := w14.heap.size) (Nat.zero_le _) (by omega)); first | simpa using hh | simpa [Nat.add_comm, Nat.add_left_comm, Nat.add_assoc] using hh
      refine op_fn (vs := [u]) ok46 ⟨(ev_hit hN rfl), trivial⟩ (TakeRow_ret bl u _ (by first | assumption | omega | (simp only [List.length_append, List.length_cons, List.length_nil, List.length_drop, List.length_take]; omega) | (dsimp only; omega) | decide | (simp [keyV, be8_len]; done)) hq17) ?_
      rintro _ w19 ⟨E20, u18, rfl, hO18⟩
      have E20 := grown_of_below E20
      have z_w19 := E20.size
      have h := h.keep0 E20
      have hv := hv.keep0 E20
      have hO13 := hO13.keep0 E20
      have hb := below_step0 hb E20 hb.size
      have hO18 := hO18.mono (base' := w14.heap.size) (by omega)
      refine op_move (ev_hit hN rfl) ?_
      refine op_extract (ev_hit hN rfl) rfl ?_
      refine op_extract (ev_hit hN rfl) rfl ?_
      refine op_assign (ev_hit hN rfl) ?_
      refine op_assign (ev_hit hN rfl) ?_
      refine reg_nil ?_
      refine hK16 _ _ ?_
      refine seq_any fun K21 hK21 => ?_
      have hrl := takeR_len bl
      rcases Bool.eq_false_or_eq_true (((mayR l) == (mayR l))) with g33 | g33
      · -- 33 True
        by_cases g41 : (putR l) = (putR l)
        · -- 41 True
          rcases Bool.eq_false_or_eq_true ((decide ((takeR bl).1 = (takeR bl).1))) with g46 | g46
          · -- 46 True
            refine reg_quiet (Φ := phiL [(fun uz _ => uz = v), (fun uz _ => uz = (Value.bool (mayR l))), (fun uz _ => uz = v), (fun uz _ => uz = (Value.bool (mayR l))), (fun uz _ => uz = (Value.bool true)), (fun uz _ => uz = (Value.bool true)), (fun uz _ => uz = v), (fun uz w' => ∃ (v26 : Value), uz = v26 ∧ Own w' w19.heap.size 5 1 v26 (putR l).length ((putR l).map u8v)), (fun uz _ => uz = (Value.string (bs (putR l)))), (fun uz _ => uz = v), (fun uz w' => ∃ (v29 : Value), uz = v29 ∧ Own w' w19.heap.size 5 1 v29 (putR l).length ((putR l).map u8v)), (fun uz _ => uz = (Value.string (bs (putR l)))), (fun uz _ => uz = (Value.bool true)), (fun uz _ => uz = (Value.bool true)), (fun uz _ => uz = (Value.bool true)), (fun uz _ => uz = u13), (fun uz _ => uz = u18), (fun uz _ => uz = (Value.bool true)), (fun uz _ => uz = (Value.bool true)), (fun uz _ => uz = (Value.bool true)), (fun uz _ => uz = (Value.int .i64 (takeR bl).2)), (fun uz _ => uz = (Value.int .i64 (takeR bl).2)), (fun uz _ => uz = (Value.bool (decide ((takeR bl).2 = (takeR bl).2)))), (fun uz _ => uz = (Value.bool (decide ((takeR bl).2 = (takeR bl).2)))), (fun uz _ => uz = (Value.bool (decide ((takeR bl).2 = (takeR bl).2))))]) mixed (by kernel_rfl) (by kernel_rfl) (by kernel_rfl) hN (StL.get (StL.eq (StL.eq (StL.eq (StL.eq (StL.eq (StL.eq (StL.eq (StL.cons (fun u w1 w2 E h => by obtain ⟨x0, hv, f0⟩ := h; exact ⟨x0, hv, f0.keep0 E⟩) (StL.eq (StL.eq (StL.cons (fun u w1 w2 E h => by obtain ⟨x0, hv, f0⟩ := h; exact ⟨x0, hv, f0.keep0 E⟩) (StL.eq (StL.eq (StL.eq (StL.eq (StL.eq (StL.eq (StL.eq (StL.eq (StL.eq (StL.eq (StL.eq (StL.eq (StL.eq (StL.eq (StL.nil _))))))))))))))))))))))))))) (ObL.get (s := 25) (ObL.cons ?_ (ObL.cons ?_ (ObL.cons ?_ (ObL.cons ?_ (ObL.cons ?_ (ObL.cons ?_ (ObL.cons ?_ (ObL.cons ?_ (ObL.cons ?_ (ObL.cons ?_ (ObL.cons ?_ (ObL.cons ?_ (ObL.cons ?_ (ObL.cons ?_ (ObL.cons ?_ (ObL.cons ?_ (ObL.cons ?_ (ObL.cons ?_ (ObL.cons ?_ (ObL.cons ?_ (ObL.cons ?_ (ObL.cons ?_ (ObL.cons ?_ (ObL.cons ?_ (ObL.cons ?_ (ObL.nil)))))))))))))))))))))))))) rfl) ?_
            · -- operation 0, slot 29
              intro a22 w22 hN22 hR22 hbs22 hdp22
              have hR22 : w19.grownBy w22 none := hR22
              have q22_0 : a22.tmps.getD 0 undef = v := (hbs22 0 rfl).trans (sl_base hN rfl s0)
              clear hbs22 hdp22
              refine op_move (ev_base hN22 rfl q22_0) ?_
              exact obN_end rfl rfl ((grown_refl _ _))
            · -- operation 1, slot 30
              intro a23 w23 hN23 hR23 hbs23 hdp23
              have hR23 : w19.grownBy w23 none := hR23
              have z_w23 := hR23.size
              have h := h.keep0 hR23
              have hv := hv.keep0 hR23
              have hO13 := hO13.keep0 hR23
              have hO18 := hO18.keep0 hR23
              have hb := below_step0 hb hR23 hb.size
              have q23_29 : a23.tmps.getD 29 undef = v := hdp23 0 _ 29 (by kernel_rfl) rfl rfl
              clear hbs23 hdp23
              refine op_fn (vs := [v]) ok47 ⟨(ev_base hN23 rfl q23_29), trivial⟩ (rowMay_ret l _ _ (by first | assumption | omega | (simp only [List.length_append, List.length_cons, List.length_nil, List.length_drop, List.length_take]; omega) | (dsimp only; omega) | decide | (simp [keyV, be8_len]; done)) ho (show RdC w23 0 w23.heap.size 3 v l.length (l.flatMap cellsV) from by simpa [cellsV] using (h.mono (L' := 0) (B' := w23.heap.size) (Nat.zero_le _) (by omega)))) ?_
              rintro _ w24 ⟨E25, rfl⟩
              have E25 := grown_of_below E25
              have z_w24 := E25.size
              have h := h.keep0 E25
              have hv := hv.keep0 E25
              have hO13 := hO13.keep0 E25
              have hO18 := hO18.keep0 E25
              have hb := below_step0 hb E25 hb.size
              exact obN_end rfl rfl (E25)
            · -- operation 2, slot 31
              intro a26 w26 hN26 hR26 hbs26 hdp26
              have hR26 : w19.grownBy w26 none := hR26
              have q26_0 : a26.tmps.getD 0 undef = v := (hbs26 0 rfl).trans (sl_base hN rfl s0)
              clear hbs26 hdp26
              refine op_move (ev_base hN26 rfl q26_0) ?_
              exact obN_end rfl rfl ((grown_refl _ _))
            · -- operation 3, slot 32
              intro a27 w27 hN27 hR27 hbs27 hdp27
              have hR27 : w19.grownBy w27 none := hR27
              have z_w27 := hR27.size
              have h := h.keep0 hR27
              have hv := hv.keep0 hR27
              have hO13 := hO13.keep0 hR27
              have hO18 := hO18.keep0 hR27
              have hb := below_step0 hb hR27 hb.size
              have q27_31 : a27.tmps.getD 31 undef = v := hdp27 2 _ 31 (by kernel_rfl) rfl rfl
              clear hbs27 hdp27
              refine op_fn (vs := [v]) ok48 ⟨(ev_base hN27 rfl q27_31), trivial⟩ (MayRow_ret l _ _ (by first | assumption | omega | (simp only [List.length_append, List.length_cons, List.length_nil, List.length_drop, List.length_take]; omega) | (dsimp only; omega) | decide | (simp [keyV, be8_len]; done)) ho (show RdC w27 0 w27.heap.size 3 v l.length (l.flatMap cellsV) from by simpa [cellsV] using (h.mono (L' := 0) (B' := w27.heap.size) (Nat.zero_le _) (by omega)))) ?_
              rintro _ w28 ⟨E29, rfl⟩
              have E29 := grown_of_below E29
              have z_w28 := E29.size
              have h := h.keep0 E29
              have hv := hv.keep0 E29
              have hO13 := hO13.keep0 E29
              have hO18 := hO18.keep0 E29
              have hb := below_step0 hb E29 hb.size
              exact obN_end rfl rfl (E29)
            · -- operation 4, slot 33
              intro a30 w30 hN30 hR30 hbs30 hdp30
              have hR30 : w19.grownBy w30 none := hR30
              have q30_30 : a30.tmps.getD 30 undef = (Value.bool (mayR l)) := hdp30 1 _ 30 (by kernel_rfl) rfl rfl
              have q30_32 : a30.tmps.getD 32 undef = (Value.bool (mayR l)) := hdp30 3 _ 32 (by kernel_rfl) rfl rfl
              clear hbs30 hdp30
              refine op_eqb Try.underlying4 (ev_base hN30 rfl q30_30) (ev_base hN30 rfl q30_32) ?_
              rw [g33]
              exact obN_end rfl rfl ((grown_refl _ _))
            · -- operation 5, slot 34
              intro a31 w31 hN31 hR31 hbs31 hdp31
              have hR31 : w19.grownBy w31 none := hR31
              have q31_33 : a31.tmps.getD 33 undef = (Value.bool true) := hdp31 4 _ 33 (by kernel_rfl) rfl rfl
              clear hbs31 hdp31
              refine op_move (ev_base hN31 rfl q31_33) ?_
              exact obN_end rfl rfl ((grown_refl _ _))
            · -- operation 6, slot 35
              intro a32 w32 hN32 hR32 hbs32 hdp32
              have hR32 : w19.grownBy w32 none := hR32
              have q32_0 : a32.tmps.getD 0 undef = v := (hbs32 0 rfl).trans (sl_base hN rfl s0)
              have q32_34 : a32.tmps.getD 34 undef = (Value.bool true) := hdp32 5 _ 34 (by kernel_rfl) rfl rfl
              clear hbs32 hdp32
              refine g_true (j := 5) (dj := 34) (b := true) rfl rfl rfl (ev_base hN32 rfl q32_34) ?_
              refine op_move (ev_base hN32 rfl q32_0) ?_
              exact obN_end rfl rfl ((grown_refl _ _))
            · -- operation 7, slot 36
              intro a33 w33 hN33 hR33 hbs33 hdp33
              have hR33 : w19.grownBy w33 none := hR33
              have z_w33 := hR33.size
              have h := h.keep0 hR33
              have hv := hv.keep0 hR33
              have hO13 := hO13.keep0 hR33
              have hO18 := hO18.keep0 hR33
              have hb := below_step0 hb hR33 hb.size
              have q33_35 : a33.tmps.getD 35 undef = v := hdp33 6 _ 35 (by kernel_rfl) rfl rfl
              have q33_34 : a33.tmps.getD 34 undef = (Value.bool true) := hdp33 5 _ 34 (by kernel_rfl) rfl rfl
              clear hbs33 hdp33
              refine g_true (j := 5) (dj := 34) (b := true) rfl rfl rfl (ev_base hN33 rfl q33_34) ?_
              refine op_fn (vs := [v]) ok49 ⟨(ev_base hN33 rfl q33_35), trivial⟩ (rowPut_ret l _ _ (by first | assumption | omega | (simp only [List.length_append, List.length_cons, List.length_nil, List.length_drop, List.length_take]; omega) | (dsimp only; omega) | decide | (simp [keyV, be8_len]; done)) ho (show RdC w33 0 w33.heap.size 3 v l.length (l.flatMap cellsV) from by simpa [cellsV] using (h.mono (L' := 0) (B' := w33.heap.size) (Nat.zero_le _) (by omega)))) ?_
              rintro v34 w35 ⟨E36, hO34⟩
              have E36 := grown_of_below E36
              have z_w35 := E36.size
              have h := h.keep0 E36
              have hv := hv.keep0 E36
              have hO13 := hO13.keep0 E36
              have hO18 := hO18.keep0 E36
              have hb := below_step0 hb E36 hb.size
              have hO34 := hO34.mono (base' := w19.heap.size) (by omega)
              exact obN_end rfl ⟨v34, rfl, hO34⟩ (E36)
            · -- operation 8, slot 37
              intro a37 w37 hN37 hR37 hbs37 hdp37
              have hR37 : w19.grownBy w37 none := hR37
              have z_w37 := hR37.size
              have h := h.keep0 hR37
              have hv := hv.keep0 hR37
              have hO13 := hO13.keep0 hR37
              have hO18 := hO18.keep0 hR37
              have hb := below_step0 hb hR37 hb.size
              obtain ⟨v26, q37_36, hO26⟩ := hdp37 7 _ 36 (by kernel_rfl) rfl rfl
              have hO26 : Own w37 w19.heap.size 5 1 v26 (putR l).length ((putR l).map u8v) := hO26
              have q37_34 : a37.tmps.getD 34 undef = (Value.bool true) := hdp37 5 _ 34 (by kernel_rfl) rfl rfl
              clear hbs37 hdp37
              refine g_true (j := 5) (dj := 34) (b := true) rfl rfl rfl (ev_base hN37 rfl q37_34) ?_
              refine op_str_of (bl := (putR l)) Try.underlying22 Try.underlying5 Try.underlying9 (ev_base hN37 rfl q37_36) hO26.rdw ?_
              exact obN_end rfl rfl ((grown_refl _ _))
            · -- operation 9, slot 38
              intro a38 w38 hN38 hR38 hbs38 hdp38
              have hR38 : w19.grownBy w38 none := hR38
              have q38_0 : a38.tmps.getD 0 undef = v := (hbs38 0 rfl).trans (sl_base hN rfl s0)
              have q38_34 : a38.tmps.getD 34 undef = (Value.bool true) := hdp38 5 _ 34 (by kernel_rfl) rfl rfl
              clear hbs38 hdp38
              refine g_true (j := 5) (dj := 34) (b := true) rfl rfl rfl (ev_base hN38 rfl q38_34) ?_
              refine op_move (ev_base hN38 rfl q38_0) ?_
              exact obN_end rfl rfl ((grown_refl _ _))
            · -- operation 10, slot 39
              intro a39 w39 hN39 hR39 hbs39 hdp39
              have hR39 : w19.grownBy w39 none := hR39
              have z_w39 := hR39.size
              have h := h.keep0 hR39
              have hv := hv.keep0 hR39
              have hO13 := hO13.keep0 hR39
              have hO18 := hO18.keep0 hR39
              have hb := below_step0 hb hR39 hb.size
              have q39_38 : a39.tmps.getD 38 undef = v := hdp39 9 _ 38 (by kernel_rfl) rfl rfl
              have q39_34 : a39.tmps.getD 34 undef = (Value.bool true) := hdp39 5 _ 34 (by kernel_rfl) rfl rfl
              clear hbs39 hdp39
              refine g_true (j := 5) (dj := 34) (b := true) rfl rfl rfl (ev_base hN39 rfl q39_34) ?_
              refine op_fn (vs := [v]) ok50 ⟨(ev_base hN39 rfl q39_38), trivial⟩ (refRow_ret l _ _ (by first | assumption | omega | (simp only [List.length_append, List.length_cons, List.length_nil, List.length_drop, List.length_take]; omega) | (dsimp only; omega) | decide | (simp [keyV, be8_len]; done)) ho (show RdC w39 0 w39.heap.size 3 v l.length (l.flatMap cellsV) from by simpa [cellsV] using (h.mono (L' := 0) (B' := w39.heap.size) (Nat.zero_le _) (by omega)))) ?_
              rintro v40 w41 ⟨E42, hO40⟩
              have E42 := grown_of_below E42
              have z_w41 := E42.size
              have h := h.keep0 E42
              have hv := hv.keep0 E42
              have hO13 := hO13.keep0 E42
              have hO18 := hO18.keep0 E42
              have hb := below_step0 hb E42 hb.size
              have hO40 := hO40.mono (base' := w19.heap.size) (by omega)
              exact obN_end rfl ⟨v40, rfl, hO40⟩ (E42)
            · -- operation 11, slot 40
              intro a43 w43 hN43 hR43 hbs43 hdp43
              have hR43 : w19.grownBy w43 none := hR43
              have z_w43 := hR43.size
              have h := h.keep0 hR43
              have hv := hv.keep0 hR43
              have hO13 := hO13.keep0 hR43
              have hO18 := hO18.keep0 hR43
              have hb := below_step0 hb hR43 hb.size
              obtain ⟨v29, q43_39, hO29⟩ := hdp43 10 _ 39 (by kernel_rfl) rfl rfl
              have hO29 : Own w43 w19.heap.size 5 1 v29 (putR l).length ((putR l).map u8v) := hO29
              have q43_34 : a43.tmps.getD 34 undef = (Value.bool true) := hdp43 5 _ 34 (by kernel_rfl) rfl rfl
              clear hbs43 hdp43
              refine g_true (j := 5) (dj := 34) (b := true) rfl rfl rfl (ev_base hN43 rfl q43_34) ?_
              refine op_str_of (bl := (putR l)) Try.underlying22 Try.underlying5 Try.underlying9 (ev_base hN43 rfl q43_39) hO29.rdw ?_
              exact obN_end rfl rfl ((grown_refl _ _))
            · -- operation 12, slot 41
              intro a44 w44 hN44 hR44 hbs44 hdp44
              have hR44 : w19.grownBy w44 none := hR44
              have q44_37 : a44.tmps.getD 37 undef = (Value.string (bs (putR l))) := hdp44 8 _ 37 (by kernel_rfl) rfl rfl
              have q44_40 : a44.tmps.getD 40 undef = (Value.string (bs (putR l))) := hdp44 11 _ 40 (by kernel_rfl) rfl rfl
              have q44_34 : a44.tmps.getD 34 undef = (Value.bool true) := hdp44 5 _ 34 (by kernel_rfl) rfl rfl
              clear hbs44 hdp44
              refine g_true (j := 5) (dj := 34) (b := true) rfl rfl rfl (ev_base hN44 rfl q44_34) ?_
              refine op_seqlb (b := true) (ev_base hN44 rfl q44_37) (ev_base hN44 rfl q44_40) (decide_eq_true g41) ?_
              exact obN_end rfl rfl ((grown_refl _ _))
            · -- operation 13, slot 42
              intro a45 w45 hN45 hR45 hbs45 hdp45
              have hR45 : w19.grownBy w45 none := hR45
              have q45_34 : a45.tmps.getD 34 undef = (Value.bool true) := hdp45 5 _ 34 (by kernel_rfl) rfl rfl
              have q45_41 : a45.tmps.getD 41 undef = (Value.bool true) := hdp45 12 _ 41 (by kernel_rfl) rfl rfl
              clear hbs45 hdp45
              refine op_pick_t (ev_base hN45 rfl q45_34) (ev_base hN45 rfl q45_41) ?_
              exact obN_end rfl rfl ((grown_refl _ _))
            · -- operation 14, slot 43
              intro a46 w46 hN46 hR46 hbs46 hdp46
              have hR46 : w19.grownBy w46 none := hR46
              have q46_42 : a46.tmps.getD 42 undef = (Value.bool true) := hdp46 13 _ 42 (by kernel_rfl) rfl rfl
              clear hbs46 hdp46
              refine op_move (ev_base hN46 rfl q46_42) ?_
              exact obN_end rfl rfl ((grown_refl _ _))
            · -- operation 15, slot 44
              intro a47 w47 hN47 hR47 hbs47 hdp47
              have hR47 : w19.grownBy w47 none := hR47
              have q47_5 : a47.tmps.getD 5 undef = u13 := (hbs47 5 rfl).trans (sl_hit hN rfl)
              have q47_43 : a47.tmps.getD 43 undef = (Value.bool true) := hdp47 14 _ 43 (by kernel_rfl) rfl rfl
              clear hbs47 hdp47
              refine g_true (j := 14) (dj := 43) (b := true) rfl rfl rfl (ev_base hN47 rfl q47_43) ?_
              refine op_move (ev_base hN47 rfl q47_5) ?_
              exact obN_end rfl rfl ((grown_refl _ _))
            · -- operation 16, slot 45
              intro a48 w48 hN48 hR48 hbs48 hdp48
              have hR48 : w19.grownBy w48 none := hR48
              have q48_7 : a48.tmps.getD 7 undef = u18 := (hbs48 7 rfl).trans (sl_hit hN rfl)
              have q48_43 : a48.tmps.getD 43 undef = (Value.bool true) := hdp48 14 _ 43 (by kernel_rfl) rfl rfl
              clear hbs48 hdp48
              refine g_true (j := 14) (dj := 43) (b := true) rfl rfl rfl (ev_base hN48 rfl q48_43) ?_
              refine op_move (ev_base hN48 rfl q48_7) ?_
              exact obN_end rfl rfl ((grown_refl _ _))
            · -- operation 17, slot 46
              intro a49 w49 hN49 hR49 hbs49 hdp49
              have hR49 : w19.grownBy w49 none := hR49
              have z_w49 := hR49.size
              have h := h.keep0 hR49
              have hv := hv.keep0 hR49
              have hO13 := hO13.keep0 hR49
              have hO18 := hO18.keep0 hR49
              have hb := below_step0 hb hR49 hb.size
              have q49_44 : a49.tmps.getD 44 undef = u13 := hdp49 15 _ 44 (by kernel_rfl) rfl rfl
              have q49_45 : a49.tmps.getD 45 undef = u18 := hdp49 16 _ 45 (by kernel_rfl) rfl rfl
              have q49_43 : a49.tmps.getD 43 undef = (Value.bool true) := hdp49 14 _ 43 (by kernel_rfl) rfl rfl
              clear hbs49 hdp49
              refine g_true (j := 14) (dj := 43) (b := true) rfl rfl rfl (ev_base hN49 rfl q49_43) ?_
              refine op_fn (vs := [u13, u18]) ok51 ⟨(ev_base hN49 rfl q49_44), ⟨(ev_base hN49 rfl q49_45), trivial⟩⟩ (SameRow_ret (takeR bl).1 (takeR bl).1 _ _ _ (by first | assumption | omega | (simp only [List.length_append, List.length_cons, List.length_nil, List.length_drop, List.length_take]; omega) | (dsimp only; omega) | decide | (simp [keyV, be8_len]; done)) (show RdC w49 0 w49.heap.size 3 u13 (takeR bl).1.length ((takeR bl).1.flatMap cellsV) from by simpa [cellsV] using (hO13.rdw.mono (L' := 0) (B' := w49.heap.size) (Nat.zero_le _) (by omega))) (show RdC w49 0 w49.heap.size 3 u18 (takeR bl).1.length ((takeR bl).1.flatMap cellsV) from by simpa [cellsV] using (hO18.rdw.mono (L' := 0) (B' := w49.heap.size) (Nat.zero_le _) (by omega)))) ?_
              rintro _ w50 ⟨E51, rfl⟩
              have E51 := grown_of_below E51
              have z_w50 := E51.size
              have h := h.keep0 E51
              have hv := hv.keep0 E51
              have hO13 := hO13.keep0 E51
              have hO18 := hO18.keep0 E51
              have hb := below_step0 hb E51 hb.size
              rw [g46]
              exact obN_end rfl rfl (E51)
            · -- operation 18, slot 47
              intro a52 w52 hN52 hR52 hbs52 hdp52
              have hR52 : w19.grownBy w52 none := hR52
              have q52_43 : a52.tmps.getD 43 undef = (Value.bool true) := hdp52 14 _ 43 (by kernel_rfl) rfl rfl
              have q52_46 : a52.tmps.getD 46 undef = (Value.bool true) := hdp52 17 _ 46 (by kernel_rfl) rfl rfl
              clear hbs52 hdp52
              refine op_pick_t (ev_base hN52 rfl q52_43) (ev_base hN52 rfl q52_46) ?_
              exact obN_end rfl rfl ((grown_refl _ _))
            · -- operation 19, slot 48
              intro a53 w53 hN53 hR53 hbs53 hdp53
              have hR53 : w19.grownBy w53 none := hR53
              have q53_47 : a53.tmps.getD 47 undef = (Value.bool true) := hdp53 18 _ 47 (by kernel_rfl) rfl rfl
              clear hbs53 hdp53
              refine op_move (ev_base hN53 rfl q53_47) ?_
              exact obN_end rfl rfl ((grown_refl _ _))
            · -- operation 20, slot 49
              intro a54 w54 hN54 hR54 hbs54 hdp54
              have hR54 : w19.grownBy w54 none := hR54
              have q54_6 : a54.tmps.getD 6 undef = (Value.int .i64 (takeR bl).2) := (hbs54 6 rfl).trans (sl_hit hN rfl)
              have q54_48 : a54.tmps.getD 48 undef = (Value.bool true) := hdp54 19 _ 48 (by kernel_rfl) rfl rfl
              clear hbs54 hdp54
              refine g_true (j := 19) (dj := 48) (b := true) rfl rfl rfl (ev_base hN54 rfl q54_48) ?_
              refine op_move (ev_base hN54 rfl q54_6) ?_
              exact obN_end rfl rfl ((grown_refl _ _))
            · -- operation 21, slot 50
              intro a55 w55 hN55 hR55 hbs55 hdp55
              have hR55 : w19.grownBy w55 none := hR55
              have q55_8 : a55.tmps.getD 8 undef = (Value.int .i64 (takeR bl).2) := (hbs55 8 rfl).trans (sl_hit hN rfl)
              have q55_48 : a55.tmps.getD 48 undef = (Value.bool true) := hdp55 19 _ 48 (by kernel_rfl) rfl rfl
              clear hbs55 hdp55
              refine g_true (j := 19) (dj := 48) (b := true) rfl rfl rfl (ev_base hN55 rfl q55_48) ?_
              refine op_move (ev_base hN55 rfl q55_8) ?_
              exact obN_end rfl rfl ((grown_refl _ _))
            · -- operation 22, slot 51
              intro a56 w56 hN56 hR56 hbs56 hdp56
              have hR56 : w19.grownBy w56 none := hR56
              have q56_49 : a56.tmps.getD 49 undef = (Value.int .i64 (takeR bl).2) := hdp56 20 _ 49 (by kernel_rfl) rfl rfl
              have q56_50 : a56.tmps.getD 50 undef = (Value.int .i64 (takeR bl).2) := hdp56 21 _ 50 (by kernel_rfl) rfl rfl
              have q56_48 : a56.tmps.getD 48 undef = (Value.bool true) := hdp56 19 _ 48 (by kernel_rfl) rfl rfl
              clear hbs56 hdp56
              refine g_true (j := 19) (dj := 48) (b := true) rfl rfl rfl (ev_base hN56 rfl q56_48) ?_
              refine op_cmp (b := (decide ((takeR bl).2 = (takeR bl).2))) (ev_base hN56 rfl q56_49) (ev_base hN56 rfl q56_50) (b_eql rfl) ?_
              exact obN_end rfl rfl ((grown_refl _ _))
            · -- operation 23, slot 52
              intro a57 w57 hN57 hR57 hbs57 hdp57
              have hR57 : w19.grownBy w57 none := hR57
              have q57_48 : a57.tmps.getD 48 undef = (Value.bool true) := hdp57 19 _ 48 (by kernel_rfl) rfl rfl
              have q57_51 : a57.tmps.getD 51 undef = (Value.bool (decide ((takeR bl).2 = (takeR bl).2))) := hdp57 22 _ 51 (by kernel_rfl) rfl rfl
              clear hbs57 hdp57
              refine op_pick_t (ev_base hN57 rfl q57_48) (ev_base hN57 rfl q57_51) ?_
              exact obN_end rfl rfl ((grown_refl _ _))
            · -- operation 24, slot 4
              intro a58 w58 hN58 hR58 hbs58 hdp58
              have hR58 : w19.grownBy w58 none := hR58
              have q58_52 : a58.tmps.getD 52 undef = (Value.bool (decide ((takeR bl).2 = (takeR bl).2))) := hdp58 23 _ 52 (by kernel_rfl) rfl rfl
              clear hbs58 hdp58
              refine op_assign (ev_base hN58 rfl q58_52) ?_
              exact obN_end rfl rfl ((grown_refl _ _))
            · -- behind the region
              intro a59 w59 hN59 hd59 hbs59 hph59 E59
              have hd59 := hd59.trans hd
              have s59_0 : a59.tmps.getD 0 undef = v := (hbs59 0 rfl).trans (sl_base hN rfl s0)
              have s59_1 : a59.tmps.getD 1 undef = u := (hbs59 1 rfl).trans (sl_base hN rfl s1)
              have s59_4 : a59.tmps.getD 4 undef = (Value.bool (decide ((takeR bl).2 = (takeR bl).2))) := hph59 24 _ 4 rfl rfl
              have s59_5 : a59.tmps.getD 5 undef = u13 := (hbs59 5 rfl).trans (sl_hit hN rfl)
              have s59_6 : a59.tmps.getD 6 undef = (Value.int .i64 (takeR bl).2) := (hbs59 6 rfl).trans (sl_hit hN rfl)
              have s59_7 : a59.tmps.getD 7 undef = u18 := (hbs59 7 rfl).trans (sl_hit hN rfl)
              have s59_8 : a59.tmps.getD 8 undef = (Value.int .i64 (takeR bl).2) := (hbs59 8 rfl).trans (sl_hit hN rfl)
              have s59_9 : a59.tmps.getD 9 undef = (Value.bool true) := (hbs59 9 rfl).trans (sl_hit hN rfl)
              have s59_10 : a59.tmps.getD 10 undef = (Value.bool false) := (hbs59 10 rfl).trans (sl_hit hN rfl)
              have s59_11 : a59.tmps.getD 11 undef = v := (hbs59 11 rfl).trans (sl_hit hN rfl)
              have s59_12 : a59.tmps.getD 12 undef = (Value.bool true) := (hbs59 12 rfl).trans (sl_hit hN rfl)
              have s59_13 : a59.tmps.getD 13 undef = (Value.bool false) := (hbs59 13 rfl).trans (sl_hit hN rfl)
              have s59_14 : a59.tmps.getD 14 undef = (Value.bool false) := (hbs59 14 rfl).trans (sl_hit hN rfl)
              have s59_15 : a59.tmps.getD 15 undef = u := (hbs59 15 rfl).trans (sl_hit hN rfl)
              have s59_16 : a59.tmps.getD 16 undef = (Value.int .i64 ((bl.length : Nat) : Int)) := (hbs59 16 rfl).trans (sl_hit hN rfl)
              have s59_17 : a59.tmps.getD 17 undef = (Value.bool false) := (hbs59 17 rfl).trans (sl_hit hN rfl)
              have s59_18 : a59.tmps.getD 18 undef = (Value.bool false) := (hbs59 18 rfl).trans (sl_hit hN rfl)
              have s59_19 : a59.tmps.getD 19 undef = (Value.tuple #[u13, (Value.int .i64 (takeR bl).2)]) := (hbs59 19 rfl).trans (sl_hit hN rfl)
              have s59_20 : a59.tmps.getD 20 undef = u := (hbs59 20 rfl).trans (sl_hit hN rfl)
              have s59_21 : a59.tmps.getD 21 undef = (Value.tuple #[u13, (Value.int .i64 (takeR bl).2)]) := (hbs59 21 rfl).trans (sl_hit hN rfl)
              have s59_22 : a59.tmps.getD 22 undef = u13 := (hbs59 22 rfl).trans (sl_hit hN rfl)
              have s59_23 : a59.tmps.getD 23 undef = (Value.int .i64 (takeR bl).2) := (hbs59 23 rfl).trans (sl_hit hN rfl)
              have s59_24 : a59.tmps.getD 24 undef = (Value.tuple #[u18, (Value.int .i64 (takeR bl).2)]) := (hbs59 24 rfl).trans (sl_hit hN rfl)
              have s59_25 : a59.tmps.getD 25 undef = u := (hbs59 25 rfl).trans (sl_hit hN rfl)
              have s59_26 : a59.tmps.getD 26 undef = (Value.tuple #[u18, (Value.int .i64 (takeR bl).2)]) := (hbs59 26 rfl).trans (sl_hit hN rfl)
              have s59_27 : a59.tmps.getD 27 undef = u18 := (hbs59 27 rfl).trans (sl_hit hN rfl)
              have s59_28 : a59.tmps.getD 28 undef = (Value.int .i64 (takeR bl).2) := (hbs59 28 rfl).trans (sl_hit hN rfl)
              have s59_29 : a59.tmps.getD 29 undef = v := hph59 0 _ 29 rfl rfl
              have s59_30 : a59.tmps.getD 30 undef = (Value.bool (mayR l)) := hph59 1 _ 30 rfl rfl
              have s59_31 : a59.tmps.getD 31 undef = v := hph59 2 _ 31 rfl rfl
              have s59_32 : a59.tmps.getD 32 undef = (Value.bool (mayR l)) := hph59 3 _ 32 rfl rfl
              have s59_33 : a59.tmps.getD 33 undef = (Value.bool true) := hph59 4 _ 33 rfl rfl
              have s59_34 : a59.tmps.getD 34 undef = (Value.bool true) := hph59 5 _ 34 rfl rfl
              have s59_35 : a59.tmps.getD 35 undef = v := hph59 6 _ 35 rfl rfl
              obtain ⟨v26, s59_36, hO26⟩ := hph59 7 _ 36 rfl rfl
              have hO26 : Own w59 w19.heap.size 5 1 v26 (putR l).length ((putR l).map u8v) := hO26
              have s59_37 : a59.tmps.getD 37 undef = (Value.string (bs (putR l))) := hph59 8 _ 37 rfl rfl
              have s59_38 : a59.tmps.getD 38 undef = v := hph59 9 _ 38 rfl rfl
              obtain ⟨v29, s59_39, hO29⟩ := hph59 10 _ 39 rfl rfl
              have hO29 : Own w59 w19.heap.size 5 1 v29 (putR l).length ((putR l).map u8v) := hO29
              have s59_40 : a59.tmps.getD 40 undef = (Value.string (bs (putR l))) := hph59 11 _ 40 rfl rfl
              have s59_41 : a59.tmps.getD 41 undef = (Value.bool true) := hph59 12 _ 41 rfl rfl
              have s59_42 : a59.tmps.getD 42 undef = (Value.bool true) := hph59 13 _ 42 rfl rfl
              have s59_43 : a59.tmps.getD 43 undef = (Value.bool true) := hph59 14 _ 43 rfl rfl
              have s59_44 : a59.tmps.getD 44 undef = u13 := hph59 15 _ 44 rfl rfl
              have s59_45 : a59.tmps.getD 45 undef = u18 := hph59 16 _ 45 rfl rfl
              have s59_46 : a59.tmps.getD 46 undef = (Value.bool true) := hph59 17 _ 46 rfl rfl
              have s59_47 : a59.tmps.getD 47 undef = (Value.bool true) := hph59 18 _ 47 rfl rfl
              have s59_48 : a59.tmps.getD 48 undef = (Value.bool true) := hph59 19 _ 48 rfl rfl
              have s59_49 : a59.tmps.getD 49 undef = (Value.int .i64 (takeR bl).2) := hph59 20 _ 49 rfl rfl
              have s59_50 : a59.tmps.getD 50 undef = (Value.int .i64 (takeR bl).2) := hph59 21 _ 50 rfl rfl
              have s59_51 : a59.tmps.getD 51 undef = (Value.bool (decide ((takeR bl).2 = (takeR bl).2))) := hph59 22 _ 51 rfl rfl
              have s59_52 : a59.tmps.getD 52 undef = (Value.bool (decide ((takeR bl).2 = (takeR bl).2))) := hph59 23 _ 52 rfl rfl
              clear hbs59 hph59
              have E59 : w19.grownBy w59 none := E59
              have z_w59 := E59.size
              have h := h.keep0 E59
              have hv := hv.keep0 E59
              have hO13 := hO13.keep0 E59
              have hO18 := hO18.keep0 E59
              have hb := below_step0 hb E59 hb.size
              refine hK21 _ _ ?_
              refine wp_ret ?_
              refine ret1 rfl hd59 (ev_base hN59 rfl s59_4) ⟨_, rfl, ?_⟩
              -- path 12T 17F 33T 41T 46T
              exact ⟨hb, congrArg Value.bool (by simp)⟩
          · -- 46 False
            simp at g46
        · -- 41 False
          simp at g41
      · -- 33 False
        simp at g33
  · -- 12 False
    rw [c12]
    refine op_not (ev_hit hN rfl) ?_
    refine op_move (ev_hit hN rfl) ?_
    refine g_false (j := 3) (dj := 14) (b := false) rfl rfl rfl (ev_hit hN rfl) rfl rfl ?_
    refine g_false (j := 3) (dj := 14) (b := false) rfl rfl rfl (ev_hit hN rfl) rfl rfl ?_
    refine g_false (j := 3) (dj := 14) (b := false) rfl rfl rfl (ev_hit hN rfl) rfl rfl ?_
    refine op_pick_t (ev_hit hN rfl) rfl ?_
    refine reg_nil ?_
    refine hK7 _ _ ?_
    refine wp_cond_true (ev_hit hN rfl) ?_
    refine seq_any fun K60 hK60 => ?_
    refine one_reg ?_
    refine op_assign rfl ?_
    refine reg_nil ?_
    refine hK60 _ _ ?_
    refine wp_ret (then_ret ( ?_))
    refine ret1 rfl hd (ev_hit hN rfl) ⟨_, rfl, ?_⟩
    -- path 12F
    exact ⟨hb, rfl⟩

end Go.Proofs.Ytkkongnmcfdioaa
