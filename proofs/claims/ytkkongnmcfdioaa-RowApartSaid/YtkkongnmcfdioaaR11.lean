/- Walks, written by a program: what each function of the translation hands back. -/
import Derived.Test.YtkkongnmcfdioaaR10
namespace Go.Proofs.Ytkkongnmcfdioaa
open Go.Gx Go.RowKit
attribute [local irreducible] wpList Code.wp Calls

theorem RowBack_ret (l : List Vl) (bl : List UInt8) (cut : Int) (mo : UInt8) (v u : Value) (w : World) (hl : l.length ≤ 9223372036854775807) (ho : ∀ x ∈ l, OkV x) (hbl : bl.length ≤ 9223372036854775807) (hcut : -9223372036854775808 ≤ cut ∧ cut ≤ 9223372036854775807) (h : RdC w 0 w.heap.size 3 v l.length (l.flatMap cellsV)) (hv : RdC w 0 w.heap.size 1 u bl.length (bl.map u8v)) : Ret Try.prog 11 #[v, u, (Value.int .i64 cut), (Value.int .u8 (mo.toNat : Int))] w (fun v' w' => Below w.heap.size w w' ∧ v' = .bool true) := by
  have hb := Below.refl w.heap.size w
  refine enter (N := 97) Try.func11 rfl rfl (by simp) fun a0 hN hd hA => ?_
  have s0 : a0.tmps.getD 0 undef = v := hA 0 (by simp)
  have s1 : a0.tmps.getD 1 undef = u := hA 1 (by simp)
  have s2 : a0.tmps.getD 2 undef = (Value.int .i64 cut) := hA 2 (by simp)
  have s3 : a0.tmps.getD 3 undef = (Value.int .u8 (mo.toNat : Int)) := hA 3 (by simp)
  clear hA
  refine seq_any fun K1 hK1 => ?_
  refine one_reg ?_
  refine op_assign rfl ?_
  refine reg_nil ?_
  refine hK1 _ _ ?_
  refine seq_any fun K2 hK2 => ?_
  refine seq_any fun K3 hK3 => ?_
  refine one_reg ?_
  refine op_fn (vs := []) ok43 trivial (begun5_ret _) ?_
  rintro _ w4 ⟨E5, rfl⟩
  have E5 := grown_of_below E5
  have z_w4 := E5.size
  have h := h.keep0 E5
  have hv := hv.keep0 E5
  have hb := below_step0 hb E5 hb.size
  refine op_not (ev_hit hN rfl) ?_
  refine reg_nil ?_
  refine hK3 _ _ ?_
  refine wp_cond_false (ev_hit hN rfl) ?_
  refine wp_skip ?_
  refine hK2 _ _ ?_
  refine seq_any fun K6 hK6 => ?_
  refine seq_any fun K7 hK7 => ?_
  refine one_reg ?_
  refine op_move (ev_base hN rfl s0) ?_
  refine op_fn (vs := [v]) ok44 ⟨(ev_hit hN rfl), trivial⟩ (light_ret l _ _ (by first | assumption | omega | (simp only [List.length_append, List.length_cons, List.length_nil, List.length_drop, List.length_take]; omega) | (dsimp only; omega) | decide | (simp [keyV, be8_len]; done)) ho (show RdC w4 0 w4.heap.size 3 v l.length (l.flatMap cellsV) from by simpa [cellsV] using (h.mono (L' := 0) (B' := w4.heap.size) (Nat.zero_le _) (by omega)))) ?_
  rintro _ w8 ⟨E9, rfl⟩
  have E9 := grown_of_below E9
  have z_w8 := E9.size
  have h := h.keep0 E9
  have hv := hv.keep0 E9
  have hb := below_step0 hb E9 hb.size
  rcases Bool.eq_false_or_eq_true ((lightR l)) with c21 | c21
  · -- 21 True
    rw [c21]
    refine op_not (ev_hit hN rfl) ?_
    refine op_move (ev_hit hN rfl) ?_
    refine g_true (j := 3) (dj := 23) (b := false) rfl rfl rfl (ev_hit hN rfl) ?_
    refine op_move (ev_base hN rfl s1) ?_
    refine g_true (j := 3) (dj := 23) (b := false) rfl rfl rfl (ev_hit hN rfl) ?_
    refine op_len_rd Try.underlying22 (ev_hit hN rfl) hv ?_
    refine g_true (j := 3) (dj := 23) (b := false) rfl rfl rfl (ev_hit hN rfl) ?_
    refine op_gtr (ev_hit hN rfl) rfl (fun c26 => ?_) (fun c26 => ?_)
    · -- 26 True
      refine op_pick_f (ev_hit hN rfl) (ev_hit hN rfl) ?_
      refine reg_nil ?_
      refine hK7 _ _ ?_
      refine wp_cond_true (ev_hit hN rfl) ?_
      refine seq_any fun K10 hK10 => ?_
      refine one_reg ?_
      refine op_assign rfl ?_
      refine reg_nil ?_
      refine hK10 _ _ ?_
      refine wp_ret (then_ret ( ?_))
      refine ret1 rfl hd (ev_hit hN rfl) ⟨_, rfl, ?_⟩
      -- path 21T 26T
      exact ⟨hb, rfl⟩
    · -- 26 False
      refine op_pick_f (ev_hit hN rfl) (ev_hit hN rfl) ?_
      refine reg_nil ?_
      refine hK7 _ _ ?_
      refine wp_cond_false (ev_hit hN rfl) ?_
      refine wp_skip ?_
      refine hK6 _ _ ?_
      refine seq_any fun K11 hK11 => ?_
      refine one_reg ?_
      refine op_move (ev_base hN rfl s1) ?_
      have hq12 : RdC w8 0 w8.heap.size 1 u bl.length (bl.map u8v) := by have hh : RdC w8 0 w8.heap.size 1 _ _ _ := (hv.mono (L' := 0) (B' := w8.heap.size) (Nat.zero_le _) (by omega)); first | simpa using hh | simpa [Nat.add_comm, Nat.add_left_comm, Nat.add_assoc] using hh | exact hh.cast (by simp; try omega) (by simp)
      refine op_fn (vs := [u]) ok45 ⟨(ev_hit hN rfl), trivial⟩ (rowTake_ret bl u _ (by first | assumption | omega | (simp only [List.length_append, List.length_cons, List.length_nil, List.length_drop, List.length_take]; omega) | (dsimp only; omega) | decide | (simp [keyV, be8_len]; done)) hq12) ?_
      rintro _ w14 ⟨E15, u13, rfl, hO13⟩
      have E15 := grown_of_below E15
      have z_w14 := E15.size
      have h := h.keep0 E15
      have hv := hv.keep0 E15
      have hb := below_step0 hb E15 hb.size
      have hO13 := hO13.mono (base' := w8.heap.size) (by omega)
      refine op_move (ev_hit hN rfl) ?_
      refine op_extract (ev_hit hN rfl) rfl ?_
      refine op_extract (ev_hit hN rfl) rfl ?_
      refine op_assign (ev_hit hN rfl) ?_
      refine op_assign (ev_hit hN rfl) ?_
      refine reg_nil ?_
      refine hK11 _ _ ?_
      refine seq_any fun K16 hK16 => ?_
      refine seq_any fun K17 hK17 => ?_
      have hrl := takeR_len bl
      have hpu := putR_le l
      have hpt := putR_le (takeR bl).1
      by_cases g34 : (takeR bl).2 = 0
      · -- 34 True
        refine reg_quiet (Φ := phiL [(fun uz _ => uz = (Value.int .i64 (takeR bl).2)), (fun uz _ => uz = (Value.bool true)), (fun uz _ => uz = (Value.bool true)), (fun uz _ => uz = u13), (fun uz w' => ∃ (v18 : Value), uz = v18 ∧ Own w' w14.heap.size 5 1 v18 (putR (takeR bl).1).length ((putR (takeR bl).1).map u8v)), (fun uz _ => uz = (Value.string (bs (putR (takeR bl).1)))), (fun uz _ => uz = u), (fun uz _ => uz = (Value.string (bs bl))), (fun uz _ => uz = (Value.bool (decide ((putR (takeR bl).1) ≠ bl)))), (fun uz _ => uz = (Value.bool (decide ((putR (takeR bl).1) ≠ bl))))]) mixed (by kernel_rfl) (by kernel_rfl) (by kernel_rfl) hN (StL.get (StL.eq (StL.eq (StL.eq (StL.eq (StL.cons (fun u w1 w2 E h => by obtain ⟨x0, hv, f0⟩ := h; exact ⟨x0, hv, f0.keep0 E⟩) (StL.eq (StL.eq (StL.eq (StL.eq (StL.eq (StL.nil _)))))))))))) (ObL.get (s := 10) (ObL.cons ?_ (ObL.cons ?_ (ObL.cons ?_ (ObL.cons ?_ (ObL.cons ?_ (ObL.cons ?_ (ObL.cons ?_ (ObL.cons ?_ (ObL.cons ?_ (ObL.cons ?_ (ObL.nil))))))))))) rfl) ?_
        · -- operation 0, slot 33
          intro a18 w18 hN18 hR18 hbs18 hdp18
          have hR18 : w14.grownBy w18 none := hR18
          have q18_10 : a18.tmps.getD 10 undef = (Value.int .i64 (takeR bl).2) := (hbs18 10 rfl).trans (sl_hit hN rfl)
          clear hbs18 hdp18
          refine op_move (ev_base hN18 rfl q18_10) ?_
          exact obN_end rfl rfl ((grown_refl _ _))
        · -- operation 1, slot 34
          intro a19 w19 hN19 hR19 hbs19 hdp19
          have hR19 : w14.grownBy w19 none := hR19
          have q19_33 : a19.tmps.getD 33 undef = (Value.int .i64 (takeR bl).2) := hdp19 0 _ 33 (by kernel_rfl) rfl rfl
          clear hbs19 hdp19
          refine op_cmp (b := true) (ev_base hN19 rfl q19_33) rfl (b_eql (decide_eq_true g34)) ?_
          exact obN_end rfl rfl ((grown_refl _ _))
        · -- operation 2, slot 35
          intro a20 w20 hN20 hR20 hbs20 hdp20
          have hR20 : w14.grownBy w20 none := hR20
          have q20_34 : a20.tmps.getD 34 undef = (Value.bool true) := hdp20 1 _ 34 (by kernel_rfl) rfl rfl
          clear hbs20 hdp20
          refine op_move (ev_base hN20 rfl q20_34) ?_
          exact obN_end rfl rfl ((grown_refl _ _))
        · -- operation 3, slot 36
          intro a21 w21 hN21 hR21 hbs21 hdp21
          have hR21 : w14.grownBy w21 none := hR21
          have q21_9 : a21.tmps.getD 9 undef = u13 := (hbs21 9 rfl).trans (sl_hit hN rfl)
          have q21_35 : a21.tmps.getD 35 undef = (Value.bool true) := hdp21 2 _ 35 (by kernel_rfl) rfl rfl
          clear hbs21 hdp21
          refine g_true (j := 2) (dj := 35) (b := true) rfl rfl rfl (ev_base hN21 rfl q21_35) ?_
          refine op_move (ev_base hN21 rfl q21_9) ?_
          exact obN_end rfl rfl ((grown_refl _ _))
        · -- operation 4, slot 37
          intro a22 w22 hN22 hR22 hbs22 hdp22
          have hR22 : w14.grownBy w22 none := hR22
          have z_w22 := hR22.size
          have h := h.keep0 hR22
          have hv := hv.keep0 hR22
          have hO13 := hO13.keep0 hR22
          have hb := below_step0 hb hR22 hb.size
          have q22_36 : a22.tmps.getD 36 undef = u13 := hdp22 3 _ 36 (by kernel_rfl) rfl rfl
          have q22_35 : a22.tmps.getD 35 undef = (Value.bool true) := hdp22 2 _ 35 (by kernel_rfl) rfl rfl
          clear hbs22 hdp22
          refine g_true (j := 2) (dj := 35) (b := true) rfl rfl rfl (ev_base hN22 rfl q22_35) ?_
          refine op_fn (vs := [u13]) ok49 ⟨(ev_base hN22 rfl q22_36), trivial⟩ (rowPut_ret (takeR bl).1 _ _ (by first | assumption | omega | (simp only [List.length_append, List.length_cons, List.length_nil, List.length_drop, List.length_take]; omega) | (dsimp only; omega) | decide | (simp [keyV, be8_len]; done)) (takeR_ok (by omega)) (show RdC w22 0 w22.heap.size 3 u13 (takeR bl).1.length ((takeR bl).1.flatMap cellsV) from by simpa [cellsV] using (hO13.rdw.mono (L' := 0) (B' := w22.heap.size) (Nat.zero_le _) (by omega)))) ?_
          rintro v23 w24 ⟨E25, hO23⟩
          have E25 := grown_of_below E25
          have z_w24 := E25.size
          have h := h.keep0 E25
          have hv := hv.keep0 E25
          have hO13 := hO13.keep0 E25
          have hb := below_step0 hb E25 hb.size
          have hO23 := hO23.mono (base' := w14.heap.size) (by omega)
          exact obN_end rfl ⟨v23, rfl, hO23⟩ (E25)
        · -- operation 5, slot 38
          intro a26 w26 hN26 hR26 hbs26 hdp26
          have hR26 : w14.grownBy w26 none := hR26
          have z_w26 := hR26.size
          have h := h.keep0 hR26
          have hv := hv.keep0 hR26
          have hO13 := hO13.keep0 hR26
          have hb := below_step0 hb hR26 hb.size
          obtain ⟨v18, q26_37, hO18⟩ := hdp26 4 _ 37 (by kernel_rfl) rfl rfl
          have hO18 : Own w26 w14.heap.size 5 1 v18 (putR (takeR bl).1).length ((putR (takeR bl).1).map u8v) := hO18
          have q26_35 : a26.tmps.getD 35 undef = (Value.bool true) := hdp26 2 _ 35 (by kernel_rfl) rfl rfl
          clear hbs26 hdp26
          refine g_true (j := 2) (dj := 35) (b := true) rfl rfl rfl (ev_base hN26 rfl q26_35) ?_
          refine op_str_of (bl := (putR (takeR bl).1)) Try.underlying22 Try.underlying5 Try.underlying9 (ev_base hN26 rfl q26_37) hO18.rdw ?_
          exact obN_end rfl rfl ((grown_refl _ _))
        · -- operation 6, slot 39
          intro a27 w27 hN27 hR27 hbs27 hdp27
          have hR27 : w14.grownBy w27 none := hR27
          have q27_1 : a27.tmps.getD 1 undef = u := (hbs27 1 rfl).trans (sl_base hN rfl s1)
          have q27_35 : a27.tmps.getD 35 undef = (Value.bool true) := hdp27 2 _ 35 (by kernel_rfl) rfl rfl
          clear hbs27 hdp27
          refine g_true (j := 2) (dj := 35) (b := true) rfl rfl rfl (ev_base hN27 rfl q27_35) ?_
          refine op_move (ev_base hN27 rfl q27_1) ?_
          exact obN_end rfl rfl ((grown_refl _ _))
        · -- operation 7, slot 40
          intro a28 w28 hN28 hR28 hbs28 hdp28
          have hR28 : w14.grownBy w28 none := hR28
          have z_w28 := hR28.size
          have h := h.keep0 hR28
          have hv := hv.keep0 hR28
          have hO13 := hO13.keep0 hR28
          have hb := below_step0 hb hR28 hb.size
          have q28_39 : a28.tmps.getD 39 undef = u := hdp28 6 _ 39 (by kernel_rfl) rfl rfl
          have q28_35 : a28.tmps.getD 35 undef = (Value.bool true) := hdp28 2 _ 35 (by kernel_rfl) rfl rfl
          clear hbs28 hdp28
          refine g_true (j := 2) (dj := 35) (b := true) rfl rfl rfl (ev_base hN28 rfl q28_35) ?_
          refine op_str_of (bl := bl) Try.underlying22 Try.underlying5 Try.underlying9 (ev_base hN28 rfl q28_39) hv ?_
          exact obN_end rfl rfl ((grown_refl _ _))
        · -- operation 8, slot 41
          intro a29 w29 hN29 hR29 hbs29 hdp29
          have hR29 : w14.grownBy w29 none := hR29
          have q29_38 : a29.tmps.getD 38 undef = (Value.string (bs (putR (takeR bl).1))) := hdp29 5 _ 38 (by kernel_rfl) rfl rfl
          have q29_40 : a29.tmps.getD 40 undef = (Value.string (bs bl)) := hdp29 7 _ 40 (by kernel_rfl) rfl rfl
          have q29_35 : a29.tmps.getD 35 undef = (Value.bool true) := hdp29 2 _ 35 (by kernel_rfl) rfl rfl
          clear hbs29 hdp29
          refine g_true (j := 2) (dj := 35) (b := true) rfl rfl rfl (ev_base hN29 rfl q29_35) ?_
          refine op_sneqb (b := (decide ((putR (takeR bl).1) ≠ bl))) (ev_base hN29 rfl q29_38) (ev_base hN29 rfl q29_40) rfl ?_
          exact obN_end rfl rfl ((grown_refl _ _))
        · -- operation 9, slot 42
          intro a30 w30 hN30 hR30 hbs30 hdp30
          have hR30 : w14.grownBy w30 none := hR30
          have q30_35 : a30.tmps.getD 35 undef = (Value.bool true) := hdp30 2 _ 35 (by kernel_rfl) rfl rfl
          have q30_41 : a30.tmps.getD 41 undef = (Value.bool (decide ((putR (takeR bl).1) ≠ bl))) := hdp30 8 _ 41 (by kernel_rfl) rfl rfl
          clear hbs30 hdp30
          refine op_pick_t (ev_base hN30 rfl q30_35) (ev_base hN30 rfl q30_41) ?_
          exact obN_end rfl rfl ((grown_refl _ _))
        · -- behind the region
          intro a31 w31 hN31 hd31 hbs31 hph31 E31
          have hd31 := hd31.trans hd
          have s31_0 : a31.tmps.getD 0 undef = v := (hbs31 0 rfl).trans (sl_base hN rfl s0)
          have s31_1 : a31.tmps.getD 1 undef = u := (hbs31 1 rfl).trans (sl_base hN rfl s1)
          have s31_2 : a31.tmps.getD 2 undef = (Value.int .i64 cut) := (hbs31 2 rfl).trans (sl_base hN rfl s2)
          have s31_3 : a31.tmps.getD 3 undef = (Value.int .u8 (mo.toNat : Int)) := (hbs31 3 rfl).trans (sl_base hN rfl s3)
          have s31_8 : a31.tmps.getD 8 undef = (Value.bool false) := (hbs31 8 rfl).trans (sl_hit hN rfl)
          have s31_9 : a31.tmps.getD 9 undef = u13 := (hbs31 9 rfl).trans (sl_hit hN rfl)
          have s31_10 : a31.tmps.getD 10 undef = (Value.int .i64 (takeR bl).2) := (hbs31 10 rfl).trans (sl_hit hN rfl)
          have s31_18 : a31.tmps.getD 18 undef = (Value.bool true) := (hbs31 18 rfl).trans (sl_hit hN rfl)
          have s31_19 : a31.tmps.getD 19 undef = (Value.bool false) := (hbs31 19 rfl).trans (sl_hit hN rfl)
          have s31_20 : a31.tmps.getD 20 undef = v := (hbs31 20 rfl).trans (sl_hit hN rfl)
          have s31_21 : a31.tmps.getD 21 undef = (Value.bool true) := (hbs31 21 rfl).trans (sl_hit hN rfl)
          have s31_22 : a31.tmps.getD 22 undef = (Value.bool false) := (hbs31 22 rfl).trans (sl_hit hN rfl)
          have s31_23 : a31.tmps.getD 23 undef = (Value.bool false) := (hbs31 23 rfl).trans (sl_hit hN rfl)
          have s31_24 : a31.tmps.getD 24 undef = u := (hbs31 24 rfl).trans (sl_hit hN rfl)
          have s31_25 : a31.tmps.getD 25 undef = (Value.int .i64 ((bl.length : Nat) : Int)) := (hbs31 25 rfl).trans (sl_hit hN rfl)
          have s31_26 : a31.tmps.getD 26 undef = (Value.bool false) := (hbs31 26 rfl).trans (sl_hit hN rfl)
          have s31_27 : a31.tmps.getD 27 undef = (Value.bool false) := (hbs31 27 rfl).trans (sl_hit hN rfl)
          have s31_28 : a31.tmps.getD 28 undef = (Value.tuple #[u13, (Value.int .i64 (takeR bl).2)]) := (hbs31 28 rfl).trans (sl_hit hN rfl)
          have s31_29 : a31.tmps.getD 29 undef = u := (hbs31 29 rfl).trans (sl_hit hN rfl)
          have s31_30 : a31.tmps.getD 30 undef = (Value.tuple #[u13, (Value.int .i64 (takeR bl).2)]) := (hbs31 30 rfl).trans (sl_hit hN rfl)
          have s31_31 : a31.tmps.getD 31 undef = u13 := (hbs31 31 rfl).trans (sl_hit hN rfl)
          have s31_32 : a31.tmps.getD 32 undef = (Value.int .i64 (takeR bl).2) := (hbs31 32 rfl).trans (sl_hit hN rfl)
          have s31_33 : a31.tmps.getD 33 undef = (Value.int .i64 (takeR bl).2) := hph31 0 _ 33 rfl rfl
          have s31_34 : a31.tmps.getD 34 undef = (Value.bool true) := hph31 1 _ 34 rfl rfl
          have s31_35 : a31.tmps.getD 35 undef = (Value.bool true) := hph31 2 _ 35 rfl rfl
          have s31_36 : a31.tmps.getD 36 undef = u13 := hph31 3 _ 36 rfl rfl
          obtain ⟨v18, s31_37, hO18⟩ := hph31 4 _ 37 rfl rfl
          have hO18 : Own w31 w14.heap.size 5 1 v18 (putR (takeR bl).1).length ((putR (takeR bl).1).map u8v) := hO18
          have s31_38 : a31.tmps.getD 38 undef = (Value.string (bs (putR (takeR bl).1))) := hph31 5 _ 38 rfl rfl
          have s31_39 : a31.tmps.getD 39 undef = u := hph31 6 _ 39 rfl rfl
          have s31_40 : a31.tmps.getD 40 undef = (Value.string (bs bl)) := hph31 7 _ 40 rfl rfl
          have s31_41 : a31.tmps.getD 41 undef = (Value.bool (decide ((putR (takeR bl).1) ≠ bl))) := hph31 8 _ 41 rfl rfl
          have s31_42 : a31.tmps.getD 42 undef = (Value.bool (decide ((putR (takeR bl).1) ≠ bl))) := hph31 9 _ 42 rfl rfl
          clear hbs31 hph31
          have E31 : w14.grownBy w31 none := E31
          have z_w31 := E31.size
          have h := h.keep0 E31
          have hv := hv.keep0 E31
          have hO13 := hO13.keep0 E31
          have hb := below_step0 hb E31 hb.size
          refine hK17 _ _ ?_
          refine wp_cond_split (ev_base hN31 rfl s31_42) (fun c42 => ?_) (fun c42 => ?_)
          · -- 42 True
            have c42 := of_decide_eq_true c42
            exact absurd (put_take g34) c42
          · -- 42 False
            have c42 := of_decide_eq_false c42
            refine wp_skip ?_
            refine hK16 _ _ ?_
            refine seq_any fun K32 hK32 => ?_
            refine seq_any fun K33 hK33 => ?_
            refine one_reg ?_
            refine op_move (ev_base hN31 rfl s31_0) ?_
            refine op_fn (vs := [v]) ok47 ⟨(ev_hit hN31 rfl), trivial⟩ (rowMay_ret l _ _ (by first | assumption | omega | (simp only [List.length_append, List.length_cons, List.length_nil, List.length_drop, List.length_take]; omega) | (dsimp only; omega) | decide | (simp [keyV, be8_len]; done)) ho (show RdC w31 0 w31.heap.size 3 v l.length (l.flatMap cellsV) from by simpa [cellsV] using (h.mono (L' := 0) (B' := w31.heap.size) (Nat.zero_le _) (by omega)))) ?_
            rintro _ w34 ⟨E35, rfl⟩
            have E35 := grown_of_below E35
            have z_w34 := E35.size
            have h := h.keep0 E35
            have hv := hv.keep0 E35
            have hO13 := hO13.keep0 E35
            have hO18 := hO18.keep0 E35
            have hb := below_step0 hb E35 hb.size
            rcases Bool.eq_false_or_eq_true ((mayR l)) with c44 | c44
            · -- 44 True
              rw [c44]
              refine op_not (ev_hit hN31 rfl) ?_
              refine reg_nil ?_
              refine hK33 _ _ ?_
              refine wp_cond_false (ev_hit hN31 rfl) ?_
              refine wp_skip ?_
              refine hK32 _ _ ?_
              refine seq_any fun K36 hK36 => ?_
              refine one_reg ?_
              refine op_move (ev_base hN31 rfl s31_0) ?_
              have hpp := putR_pos c44
              have hpl := place_rng cut ((putR l).length : Int) hpp
              have hr2 := takeR_len (putR l)
              refine op_fn (vs := [v]) ok49 ⟨(ev_hit hN31 rfl), trivial⟩ (rowPut_ret l _ _ (by first | assumption | omega | (simp only [List.length_append, List.length_cons, List.length_nil, List.length_drop, List.length_take]; omega) | (dsimp only; omega) | decide | (simp [keyV, be8_len]; done)) ho (show RdC w34 0 w34.heap.size 3 v l.length (l.flatMap cellsV) from by simpa [cellsV] using (h.mono (L' := 0) (B' := w34.heap.size) (Nat.zero_le _) (by omega)))) ?_
              rintro v37 w38 ⟨E39, hO37⟩
              have dj40 : DJ v37 v18 := fun k hk hg => by have q1 := (hO37.lt k hk).1; have q2 := (hO18.lt k hg).2; omega
              have E39 := grown_of_below E39
              have z_w38 := E39.size
              have h := h.keep0 E39
              have hv := hv.keep0 E39
              have hO13 := hO13.keep0 E39
              have hO18 := hO18.keep0 E39
              have hb := below_step0 hb E39 hb.size
              have hO37 := hO37.mono (base' := w34.heap.size) (by omega)
              refine op_assign (ev_hit hN31 rfl) ?_
              refine reg_nil ?_
              refine hK36 _ _ ?_
              refine seq_any fun K41 hK41 => ?_
              refine one_reg ?_
              refine op_move (ev_hit hN31 rfl) ?_
              have hq42 : RdC w38 0 w38.heap.size 1 v37 (putR l).length ((putR l).map u8v) := by have hh : RdC w38 0 w38.heap.size 1 _ _ _ := (hO37.rdw.mono (L' := 0) (B' := w38.heap.size) (Nat.zero_le _) (by omega)); first | simpa using hh | simpa [Nat.add_comm, Nat.add_left_comm, Nat.add_assoc] using hh | exact hh.cast (by simp; try omega) (by simp)
              refine op_fn (vs := [v37]) ok45 ⟨(ev_hit hN31 rfl), trivial⟩ (rowTake_ret (putR l) v37 _ (by first | assumption | omega | (simp only [List.length_append, List.length_cons, List.length_nil, List.length_drop, List.length_take]; omega) | (dsimp only; omega) | decide | (simp [keyV, be8_len]; done)) hq42) ?_
              rintro _ w44 ⟨E45, u43, rfl, hO43⟩
              have dj46 : DJ u43 u13 := fun k hk hg => by have q1 := (hO43.lt k hk).1; have q2 := (hO13.lt k hg).2; omega
              have E45 := grown_of_below E45
              have z_w44 := E45.size
              have h := h.keep0 E45
              have hv := hv.keep0 E45
              have hO13 := hO13.keep0 E45
              have hO18 := hO18.keep0 E45
              have hO37 := hO37.keep0 E45
              have hb := below_step0 hb E45 hb.size
              have hO43 := hO43.mono (base' := w38.heap.size) (by omega)
              refine op_move (ev_hit hN31 rfl) ?_
              refine op_extract (ev_hit hN31 rfl) rfl ?_
              refine op_extract (ev_hit hN31 rfl) rfl ?_
              refine op_assign (ev_hit hN31 rfl) ?_
              refine op_assign (ev_hit hN31 rfl) ?_
              refine reg_nil ?_
              refine hK41 _ _ ?_
              refine seq_any fun K47 hK47 => ?_
              refine one_reg ?_
              refine op_move (ev_hit hN31 rfl) ?_
              refine op_move (ev_base hN31 rfl s31_2) ?_
              refine op_move (ev_hit hN31 rfl) ?_
              refine op_len_rd Try.underlying22 (ev_hit hN31 rfl) hO37.rdw ?_
              refine op_fn (vs := [(Value.int .i64 cut), (Value.int .i64 (((putR l).length : Nat) : Int))]) ok52 ⟨(ev_hit hN31 rfl), ⟨(ev_hit hN31 rfl), trivial⟩⟩ (Place_ret cut (((putR l).length : Nat) : Int) _ (by first | assumption | omega | (simp only [List.length_append, List.length_cons, List.length_nil, List.length_drop, List.length_take]; omega) | (dsimp only; omega) | decide | (simp [keyV, be8_len]; done)) (by first | assumption | omega | (simp only [List.length_append, List.length_cons, List.length_nil, List.length_drop, List.length_take]; omega) | (dsimp only; omega) | decide | (simp [keyV, be8_len]; done))) ?_
              rintro _ w48 ⟨E49, rfl⟩
              have E49 := grown_of_below E49
              have z_w48 := E49.size
              have h := h.keep0 E49
              have hv := hv.keep0 E49
              have hO13 := hO13.keep0 E49
              have hO18 := hO18.keep0 E49
              have hO37 := hO37.keep0 E49
              have hO43 := hO43.keep0 E49
              have hb := below_step0 hb E49 hb.size
              refine op_slice_rd (lo := 0) (hi := (placeI cut ((putR l).length : Int)).toNat) slt22 (ev_hit hN31 rfl) hO37.rdw (.inl ⟨rfl, rfl⟩) (.inr ⟨_, _, rfl, (ev_hit hN31 rfl).trans (congrArg (Value.int _) (by omega))⟩) (by omega) (by omega) ?_
              intro v50 hR51
              have hR51 : RdC w48 w34.heap.size w48.heap.size 1 v50 ((placeI cut ((putR l).length : Int)).toNat) ((((putR l).take (placeI cut ((putR l).length : Int)).toNat)).map u8v) := by simpa [List.map_take] using hR51
              have hq52 : RdC w48 0 w48.heap.size 1 v50 ((putR l).take (placeI cut ((putR l).length : Int)).toNat).length (((putR l).take (placeI cut ((putR l).length : Int)).toNat).map u8v) := by have hh : RdC w48 0 w48.heap.size 1 _ _ _ := (hR51.mono (L' := 0) (B' := w48.heap.size) (Nat.zero_le _) (by omega)); first | simpa using hh | simpa [Nat.add_comm, Nat.add_left_comm, Nat.add_assoc] using hh | exact hh.cast (by simp; try omega) (by simp)
              refine op_fn (vs := [v50]) ok45 ⟨(ev_hit hN31 rfl), trivial⟩ (rowTake_ret ((putR l).take (placeI cut ((putR l).length : Int)).toNat) v50 _ (by first | assumption | omega | (simp only [List.length_append, List.length_cons, List.length_nil, List.length_drop, List.length_take]; omega) | (dsimp only; omega) | decide | (simp [keyV, be8_len]; done)) hq52) ?_
              rintro _ w54 ⟨E55, u53, rfl, hO53⟩
              have dj56 : DJ u53 u13 := fun k hk hg => by have q1 := (hO53.lt k hk).1; have q2 := (hO13.lt k hg).2; omega
              have dj57 : DJ u53 u43 := fun k hk hg => by have q1 := (hO53.lt k hk).1; have q2 := (hO43.lt k hg).2; omega
              have E55 := grown_of_below E55
              have z_w54 := E55.size
              have h := h.keep0 E55
              have hv := hv.keep0 E55
              have hO13 := hO13.keep0 E55
              have hO18 := hO18.keep0 E55
              have hO37 := hO37.keep0 E55
              have hO43 := hO43.keep0 E55
              have hR51 := hR51.keep0 E55
              have hb := below_step0 hb E55 hb.size
              have hO53 := hO53.mono (base' := w48.heap.size) (by omega)
              refine op_move (ev_hit hN31 rfl) ?_
              refine op_extract (ev_hit hN31 rfl) rfl ?_
              refine op_extract (ev_hit hN31 rfl) rfl ?_
              refine op_assign (ev_hit hN31 rfl) ?_
              refine op_assign (ev_hit hN31 rfl) ?_
              refine reg_nil ?_
              refine hK47 _ _ ?_
              refine seq_any fun K58 hK58 => ?_
              refine one_reg ?_
              refine op_bslice (e := 5) (pv := []) (cs := []) trivial (by kernel_rfl) ?_
              intro w59 b60 lo_b60 hi_b60 hB62 E61
              have ne_b60_v18 : v18.ownBlock ≠ some b60 := fun hh => by have := (hO18.lt _ hh).2; omega
              have ne_b60_v37 : v37.ownBlock ≠ some b60 := fun hh => by have := (hO37.lt _ hh).2; omega
              have z_w59 := E61.size
              have h := h.keep0 E61
              have hv := hv.keep0 E61
              have hO13 := hO13.keep0 E61
              have hO18 := hO18.keep0 E61
              have hO37 := hO37.keep0 E61
              have hO43 := hO43.keep0 E61
              have hR51 := hR51.keep0 E61
              have hO53 := hO53.keep0 E61
              have hb := below_step0 hb E61 hb.size
              refine op_move (ev_hit hN31 rfl) ?_
              have hP68 := (Own.ofBx (base := w.heap.size) (sz := 1) (n := 0) hB62 rfl (by decide) (by omega))
              refine op_append slt22 (ev_hit hN31 rfl) hP68 (ev_hit hN31 rfl) (Src.ofRd Try.underlying22 (by decide) hO37.rdw (by simp [Value.oneCell', u8v])) (by unfold maxLen; omega) (by omega) hb.size ?_
              intro v63 w64 hO66 E65 hm67
              have dj69 : DJ v18 (Value.slice (some ⟨b60, 0, none⟩) 0 0) := fun k hk hg => by simp [Value.ownBlock] at hg; subst hg; exact ne_b60_v18 hk
              have dj70 : DJ v18 v63 := DJ.step hm67 (fun k hk => (hO18.lt k hk).2) dj69
              have dj71 : DJ v37 (Value.slice (some ⟨b60, 0, none⟩) 0 0) := fun k hk hg => by simp [Value.ownBlock] at hg; subst hg; exact ne_b60_v37 hk
              have dj72 : DJ v37 v63 := DJ.step hm67 (fun k hk => (hO37.lt k hk).2) dj71
              have z_w64 := E65.size
              have h := h.keepO hP68 E65 (by omega)
              have hv := hv.keepO hP68 E65 (by omega)
              have hO13 := hO13.keepT hP68 E65 (by decide)
              have hO18 := hO18.keepD E65 dj69
              have hO37 := hO37.keepD E65 dj71
              have hO43 := hO43.keepT hP68 E65 (by decide)
              have hO53 := hO53.keepT hP68 E65 (by decide)
              have hb := below_stepO hb hP68 E65 hb.size (by omega)
              have hO66 : Own w64 w.heap.size 5 1 v63 (0 + (putR l).length) (((putR l)).map u8v) := by simpa [u8v, cellsV] using hO66
              refine op_move (ev_base hN31 rfl s31_3) ?_
              refine op_bslice (e := 5) (pv := [(0, (Value.int .u8 (mo.toNat : Int)))]) (cs := [(Value.int .u8 (mo.toNat : Int))]) ⟨rfl, (ev_hit hN31 rfl), trivial⟩ (by kernel_rfl) ?_
              intro w73 b74 lo_b74 hi_b74 hB76 E75
              have ne_b74_v18 : v18.ownBlock ≠ some b74 := fun hh => by have := (hO18.lt _ hh).2; omega
              have ne_b74_v37 : v37.ownBlock ≠ some b74 := fun hh => by have := (hO37.lt _ hh).2; omega
              have ne_b74_v63 : v63.ownBlock ≠ some b74 := fun hh => by have := (hO66.lt _ hh).2; omega
              have z_w73 := E75.size
              have h := h.keep0 E75
              have hv := hv.keep0 E75
              have hO13 := hO13.keep0 E75
              have hO18 := hO18.keep0 E75
              have hO37 := hO37.keep0 E75
              have hO43 := hO43.keep0 E75
              have hO53 := hO53.keep0 E75
              have hO66 := hO66.keep0 E75
              have hb := below_step0 hb E75 hb.size
              have hP82 := hO66
              refine op_append slt22 (ev_hit hN31 rfl) hP82 (ev_hit hN31 rfl) (Src.ofRd Try.underlying22 (by decide) (RdC.ofBx (sz := 1) (n := 1) hB76 rfl (by decide)) (by simp [Value.oneCell', u8v])) (by unfold maxLen; omega) (by omega) hb.size ?_
              intro v77 w78 hO80 E79 hm81
              have dj83 : DJ v18 v77 := DJ.step hm81 (fun k hk => (hO18.lt k hk).2) dj70
              have dj84 : DJ v37 v77 := DJ.step hm81 (fun k hk => (hO37.lt k hk).2) dj72
              have z_w78 := E79.size
              have h := h.keepO hP82 E79 (by omega)
              have hv := hv.keepO hP82 E79 (by omega)
              have hO13 := hO13.keepT hP82 E79 (by decide)
              have hO18 := hO18.keepD E79 dj70
              have hO37 := hO37.keepD E79 dj72
              have hO43 := hO43.keepT hP82 E79 (by decide)
              have hO53 := hO53.keepT hP82 E79 (by decide)
              have hB76 := hB76.keep E79 (fun hh => ne_b74_v63 hh.symm)
              have hb := below_stepO hb hP82 E79 hb.size (by omega)
              have hO80 : Own w78 w.heap.size 5 1 v77 ((0 + (putR l).length) + 1) ((((putR l) ++ [mo])).map u8v) := by simpa [u8v, cellsV] using hO80
              have ne_b74_v77 : v77.ownBlock ≠ some b74 := ne_step (w1 := w73) ⟨E79, hm81⟩ (by omega) ne_b74_v63
              have hq85 : RdC w78 0 w78.heap.size 1 v77 ((putR l) ++ [mo]).length (((putR l) ++ [mo]).map u8v) := by have hh : RdC w78 0 w78.heap.size 1 _ _ _ := (hO80.rdw.mono (L' := 0) (B' := w78.heap.size) (Nat.zero_le _) (by omega)); first | simpa using hh | simpa [Nat.add_comm, Nat.add_left_comm, Nat.add_assoc] using hh | exact hh.cast (by simp; try omega) (by simp)
              refine op_fn (vs := [v77]) ok45 ⟨(ev_hit hN31 rfl), trivial⟩ (rowTake_ret ((putR l) ++ [mo]) v77 _ (by first | assumption | omega | (simp only [List.length_append, List.length_cons, List.length_nil, List.length_drop, List.length_take]; omega) | (dsimp only; omega) | decide | (simp [keyV, be8_len]; done)) hq85) ?_
              rintro _ w87 ⟨E88, u86, rfl, hO86⟩
              have dj89 : DJ u86 u13 := fun k hk hg => by have q1 := (hO86.lt k hk).1; have q2 := (hO13.lt k hg).2; omega
              have dj90 : DJ u86 u43 := fun k hk hg => by have q1 := (hO86.lt k hk).1; have q2 := (hO43.lt k hg).2; omega
              have dj91 : DJ u86 u53 := fun k hk hg => by have q1 := (hO86.lt k hk).1; have q2 := (hO53.lt k hg).2; omega
              have E88 := grown_of_below E88
              have z_w87 := E88.size
              have h := h.keep0 E88
              have hv := hv.keep0 E88
              have hO13 := hO13.keep0 E88
              have hO18 := hO18.keep0 E88
              have hO37 := hO37.keep0 E88
              have hO43 := hO43.keep0 E88
              have hO53 := hO53.keep0 E88
              have hB76 := hB76.keep0 E88
              have hO80 := hO80.keep0 E88
              have hb := below_step0 hb E88 hb.size
              have hO86 := hO86.mono (base' := w78.heap.size) (by omega)
              refine op_move (ev_hit hN31 rfl) ?_
              refine op_extract (ev_hit hN31 rfl) rfl ?_
              refine op_extract (ev_hit hN31 rfl) rfl ?_
              refine op_assign (ev_hit hN31 rfl) ?_
              refine op_assign (ev_hit hN31 rfl) ?_
              refine reg_nil ?_
              refine hK58 _ _ ?_
              refine seq_any fun K92 hK92 => ?_
              refine one_reg ?_
              refine op_move (ev_hit hN31 rfl) ?_
              refine op_eql (ev_hit hN31 rfl) rfl (fun c78 => ?_) (fun c78 => ?_)
              · -- 78 True
                refine op_move (ev_hit hN31 rfl) ?_
                refine g_true (j := 2) (dj := 79) (b := true) rfl rfl rfl (ev_hit hN31 rfl) ?_
                refine op_move (ev_hit hN31 rfl) ?_
                refine g_true (j := 2) (dj := 79) (b := true) rfl rfl rfl (ev_hit hN31 rfl) ?_
                refine op_move (ev_base hN31 rfl s31_0) ?_
                refine g_true (j := 2) (dj := 79) (b := true) rfl rfl rfl (ev_hit hN31 rfl) ?_
                refine op_fn (vs := [u43, v]) ok51 ⟨(ev_hit hN31 rfl), ⟨(ev_hit hN31 rfl), trivial⟩⟩ (SameRow_ret (takeR (putR l)).1 l _ _ _ (by first | assumption | omega | (simp only [List.length_append, List.length_cons, List.length_nil, List.length_drop, List.length_take]; omega) | (dsimp only; omega) | decide | (simp [keyV, be8_len]; done)) (show RdC w87 0 w87.heap.size 3 u43 (takeR (putR l)).1.length ((takeR (putR l)).1.flatMap cellsV) from by simpa [cellsV] using (hO43.rdw.mono (L' := 0) (B' := w87.heap.size) (Nat.zero_le _) (by omega))) (show RdC w87 0 w87.heap.size 3 v l.length (l.flatMap cellsV) from by simpa [cellsV] using (h.mono (L' := 0) (B' := w87.heap.size) (Nat.zero_le _) (by omega)))) ?_
                rintro _ w93 ⟨E94, rfl⟩
                have E94 := grown_of_below E94
                have z_w93 := E94.size
                have h := h.keep0 E94
                have hv := hv.keep0 E94
                have hO13 := hO13.keep0 E94
                have hO18 := hO18.keep0 E94
                have hO37 := hO37.keep0 E94
                have hO43 := hO43.keep0 E94
                have hO53 := hO53.keep0 E94
                have hB76 := hB76.keep0 E94
                have hO80 := hO80.keep0 E94
                have hO86 := hO86.keep0 E94
                have hb := below_step0 hb E94 hb.size
                rcases Bool.eq_false_or_eq_true ((decide ((takeR (putR l)).1 = l))) with c82 | c82
                · -- 82 True
                  rw [c82]
                  refine op_pick_t (ev_hit hN31 rfl) (ev_hit hN31 rfl) ?_
                  refine op_move (ev_hit hN31 rfl) ?_
                  refine g_true (j := 7) (dj := 84) (b := true) rfl rfl rfl (ev_hit hN31 rfl) ?_
                  refine op_move (ev_hit hN31 rfl) ?_
                  refine g_true (j := 7) (dj := 84) (b := true) rfl rfl rfl (ev_hit hN31 rfl) ?_
                  refine op_eql (ev_hit hN31 rfl) rfl (fun c86 => ?_) (fun c86 => ?_)
                  · -- 86 True
                    refine op_pick_t (ev_hit hN31 rfl) (ev_hit hN31 rfl) ?_
                    refine op_move (ev_hit hN31 rfl) ?_
                    refine g_true (j := 11) (dj := 88) (b := true) rfl rfl rfl (ev_hit hN31 rfl) ?_
                    refine op_move (ev_hit hN31 rfl) ?_
                    refine g_true (j := 11) (dj := 88) (b := true) rfl rfl rfl (ev_hit hN31 rfl) ?_
                    refine op_eql (ev_hit hN31 rfl) rfl (fun c90 => ?_) (fun c90 => ?_)
                    · -- 90 True
                      refine op_pick_t (ev_hit hN31 rfl) (ev_hit hN31 rfl) ?_
                      refine op_move (ev_hit hN31 rfl) ?_
                      refine g_true (j := 15) (dj := 92) (b := true) rfl rfl rfl (ev_hit hN31 rfl) ?_
                      refine op_move (ev_hit hN31 rfl) ?_
                      refine g_true (j := 15) (dj := 92) (b := true) rfl rfl rfl (ev_hit hN31 rfl) ?_
                      refine op_len_rd Try.underlying22 (ev_hit hN31 rfl) hO37.rdw ?_
                      refine g_true (j := 15) (dj := 92) (b := true) rfl rfl rfl (ev_hit hN31 rfl) ?_
                      refine op_lss (ev_hit hN31 rfl) rfl (fun c95 => ?_) (fun c95 => ?_)
                      · -- 95 True
                        refine op_pick_t (ev_hit hN31 rfl) (ev_hit hN31 rfl) ?_
                        refine op_assign (ev_hit hN31 rfl) ?_
                        refine reg_nil ?_
                        refine hK92 _ _ ?_
                        refine wp_ret ?_
                        refine ret1 rfl hd31 (ev_hit hN31 rfl) ⟨_, rfl, ?_⟩
                        -- path 21T 26F 34T 42F 44T 78T 82T 86T 90T 95T
                        exact ⟨hb, rfl⟩
                      · -- 95 False
                        exact absurd (by have := putR_200 c44; omega) c95
                    · -- 90 False
                      exact absurd (take_more c44 ho mo) c90
                  · -- 86 False
                    exact absurd (take_cut c44 ho (by omega)) c86
                · -- 82 False
                  exact absurd c82 (by rw [take_put0 c44 ho]; simp)
              · -- 78 False
                exact absurd (by rw [take_put0 c44 ho]) c78
            · -- 44 False
              rw [c44]
              refine op_not (ev_hit hN31 rfl) ?_
              refine reg_nil ?_
              refine hK33 _ _ ?_
              refine wp_cond_true (ev_hit hN31 rfl) ?_
              refine seq_any fun K95 hK95 => ?_
              refine one_reg ?_
              refine op_move (ev_base hN31 rfl s31_0) ?_
              refine op_fn (vs := [v]) ok49 ⟨(ev_hit hN31 rfl), trivial⟩ (rowPut_ret l _ _ (by first | assumption | omega | (simp only [List.length_append, List.length_cons, List.length_nil, List.length_drop, List.length_take]; omega) | (dsimp only; omega) | decide | (simp [keyV, be8_len]; done)) ho (show RdC w34 0 w34.heap.size 3 v l.length (l.flatMap cellsV) from by simpa [cellsV] using (h.mono (L' := 0) (B' := w34.heap.size) (Nat.zero_le _) (by omega)))) ?_
              rintro v96 w97 ⟨E98, hO96⟩
              have dj99 : DJ v96 v18 := fun k hk hg => by have q1 := (hO96.lt k hk).1; have q2 := (hO18.lt k hg).2; omega
              have E98 := grown_of_below E98
              have z_w97 := E98.size
              have h := h.keep0 E98
              have hv := hv.keep0 E98
              have hO13 := hO13.keep0 E98
              have hO18 := hO18.keep0 E98
              have hb := below_step0 hb E98 hb.size
              have hO96 := hO96.mono (base' := w34.heap.size) (by omega)
              refine op_len_rd Try.underlying22 (ev_hit hN31 rfl) hO96.rdw ?_
              refine op_eql (ev_hit hN31 rfl) rfl (fun c49 => ?_) (fun c49 => ?_)
              · -- 49 True
                refine op_assign (ev_hit hN31 rfl) ?_
                refine reg_nil ?_
                refine hK95 _ _ ?_
                refine wp_ret (then_ret ( ?_))
                refine ret1 rfl hd31 (ev_hit hN31 rfl) ⟨_, rfl, ?_⟩
                -- path 21T 26F 34T 42F 44F 49T
                exact ⟨hb, rfl⟩
              · -- 49 False
                exact absurd (by simp [putR, c44]) c49
      · -- 34 False
        refine reg_quiet (Φ := phiL [(fun uz _ => uz = (Value.int .i64 (takeR bl).2)), (fun uz _ => uz = (Value.bool false)), (fun uz _ => uz = (Value.bool false)), (fun uz _ => uz = undef), (fun uz _ => uz = undef), (fun uz _ => uz = undef), (fun uz _ => uz = undef), (fun uz _ => uz = undef), (fun uz _ => uz = undef), (fun uz _ => uz = (Value.bool false))]) mixed (by kernel_rfl) (by kernel_rfl) (by kernel_rfl) hN (StL.get (StL.eq (StL.eq (StL.eq (StL.eq (StL.eq (StL.eq (StL.eq (StL.eq (StL.eq (StL.eq (StL.nil _)))))))))))) (ObL.get (s := 10) (ObL.cons ?_ (ObL.cons ?_ (ObL.cons ?_ (ObL.cons ?_ (ObL.cons ?_ (ObL.cons ?_ (ObL.cons ?_ (ObL.cons ?_ (ObL.cons ?_ (ObL.cons ?_ (ObL.nil))))))))))) rfl) ?_
        · -- operation 0, slot 33
          intro a100 w100 hN100 hR100 hbs100 hdp100
          have hR100 : w14.grownBy w100 none := hR100
          have q100_10 : a100.tmps.getD 10 undef = (Value.int .i64 (takeR bl).2) := (hbs100 10 rfl).trans (sl_hit hN rfl)
          clear hbs100 hdp100
          refine op_move (ev_base hN100 rfl q100_10) ?_
          exact obN_end rfl rfl ((grown_refl _ _))
        · -- operation 1, slot 34
          intro a101 w101 hN101 hR101 hbs101 hdp101
          have hR101 : w14.grownBy w101 none := hR101
          have q101_33 : a101.tmps.getD 33 undef = (Value.int .i64 (takeR bl).2) := hdp101 0 _ 33 (by kernel_rfl) rfl rfl
          clear hbs101 hdp101
          refine op_cmp (b := false) (ev_base hN101 rfl q101_33) rfl (b_eql (decide_eq_false g34)) ?_
          exact obN_end rfl rfl ((grown_refl _ _))
        · -- operation 2, slot 35
          intro a102 w102 hN102 hR102 hbs102 hdp102
          have hR102 : w14.grownBy w102 none := hR102
          have q102_34 : a102.tmps.getD 34 undef = (Value.bool false) := hdp102 1 _ 34 (by kernel_rfl) rfl rfl
          clear hbs102 hdp102
          refine op_move (ev_base hN102 rfl q102_34) ?_
          exact obN_end rfl rfl ((grown_refl _ _))
        · -- operation 3, slot 36
          intro a103 w103 hN103 hR103 hbs103 hdp103
          have hR103 : w14.grownBy w103 none := hR103
          have q103_9 : a103.tmps.getD 9 undef = u13 := (hbs103 9 rfl).trans (sl_hit hN rfl)
          have q103_35 : a103.tmps.getD 35 undef = (Value.bool false) := hdp103 2 _ 35 (by kernel_rfl) rfl rfl
          clear hbs103 hdp103
          refine g_false (j := 2) (dj := 35) (b := true) rfl rfl rfl (ev_base hN103 rfl q103_35) rfl rfl ?_
          exact obN_end rfl rfl (grown_refl _ _)
        · -- operation 4, slot 37
          intro a104 w104 hN104 hR104 hbs104 hdp104
          have hR104 : w14.grownBy w104 none := hR104
          have z_w104 := hR104.size
          have h := h.keep0 hR104
          have hv := hv.keep0 hR104
          have hO13 := hO13.keep0 hR104
          have hb := below_step0 hb hR104 hb.size
          have q104_36 : a104.tmps.getD 36 undef = undef := hdp104 3 _ 36 (by kernel_rfl) rfl rfl
          have q104_35 : a104.tmps.getD 35 undef = (Value.bool false) := hdp104 2 _ 35 (by kernel_rfl) rfl rfl
          clear hbs104 hdp104
          refine g_false (j := 2) (dj := 35) (b := true) rfl rfl rfl (ev_base hN104 rfl q104_35) rfl rfl ?_
          exact obN_end rfl rfl (grown_refl _ _)
        · -- operation 5, slot 38
          intro a105 w105 hN105 hR105 hbs105 hdp105
          have hR105 : w14.grownBy w105 none := hR105
          have z_w105 := hR105.size
          have h := h.keep0 hR105
          have hv := hv.keep0 hR105
          have hO13 := hO13.keep0 hR105
          have hb := below_step0 hb hR105 hb.size
          have q105_37 : a105.tmps.getD 37 undef = undef := hdp105 4 _ 37 (by kernel_rfl) rfl rfl
          have q105_35 : a105.tmps.getD 35 undef = (Value.bool false) := hdp105 2 _ 35 (by kernel_rfl) rfl rfl
          clear hbs105 hdp105
          refine g_false (j := 2) (dj := 35) (b := true) rfl rfl rfl (ev_base hN105 rfl q105_35) rfl rfl ?_
          exact obN_end rfl rfl (grown_refl _ _)
        · -- operation 6, slot 39
          intro a106 w106 hN106 hR106 hbs106 hdp106
          have hR106 : w14.grownBy w106 none := hR106
          have q106_1 : a106.tmps.getD 1 undef = u := (hbs106 1 rfl).trans (sl_base hN rfl s1)
          have q106_35 : a106.tmps.getD 35 undef = (Value.bool false) := hdp106 2 _ 35 (by kernel_rfl) rfl rfl
          clear hbs106 hdp106
          refine g_false (j := 2) (dj := 35) (b := true) rfl rfl rfl (ev_base hN106 rfl q106_35) rfl rfl ?_
          exact obN_end rfl rfl (grown_refl _ _)
        · -- operation 7, slot 40
          intro a107 w107 hN107 hR107 hbs107 hdp107
          have hR107 : w14.grownBy w107 none := hR107
          have z_w107 := hR107.size
          have h := h.keep0 hR107
          have hv := hv.keep0 hR107
          have hO13 := hO13.keep0 hR107
          have hb := below_step0 hb hR107 hb.size
          have q107_39 : a107.tmps.getD 39 undef = undef := hdp107 6 _ 39 (by kernel_rfl) rfl rfl
          have q107_35 : a107.tmps.getD 35 undef = (Value.bool false) := hdp107 2 _ 35 (by kernel_rfl) rfl rfl
          clear hbs107 hdp107
          refine g_false (j := 2) (dj := 35) (b := true) rfl rfl rfl (ev_base hN107 rfl q107_35) rfl rfl ?_
          exact obN_end rfl rfl (grown_refl _ _)
        · -- operation 8, slot 41
          intro a108 w108 hN108 hR108 hbs108 hdp108
          have hR108 : w14.grownBy w108 none := hR108
          have q108_38 : a108.tmps.getD 38 undef = undef := hdp108 5 _ 38 (by kernel_rfl) rfl rfl
          have q108_40 : a108.tmps.getD 40 undef = undef := hdp108 7 _ 40 (by kernel_rfl) rfl rfl
          have q108_35 : a108.tmps.getD 35 undef = (Value.bool false) := hdp108 2 _ 35 (by kernel_rfl) rfl rfl
          clear hbs108 hdp108
          refine g_false (j := 2) (dj := 35) (b := true) rfl rfl rfl (ev_base hN108 rfl q108_35) rfl rfl ?_
          exact obN_end rfl rfl (grown_refl _ _)
        · -- operation 9, slot 42
          intro a109 w109 hN109 hR109 hbs109 hdp109
          have hR109 : w14.grownBy w109 none := hR109
          have q109_35 : a109.tmps.getD 35 undef = (Value.bool false) := hdp109 2 _ 35 (by kernel_rfl) rfl rfl
          have q109_41 : a109.tmps.getD 41 undef = undef := hdp109 8 _ 41 (by kernel_rfl) rfl rfl
          clear hbs109 hdp109
          refine op_pick_f (ev_base hN109 rfl q109_35) rfl ?_
          exact obN_end rfl rfl ((grown_refl _ _))
        · -- behind the region
          intro a110 w110 hN110 hd110 hbs110 hph110 E110
          have hd110 := hd110.trans hd
          have s110_0 : a110.tmps.getD 0 undef = v := (hbs110 0 rfl).trans (sl_base hN rfl s0)
          have s110_1 : a110.tmps.getD 1 undef = u := (hbs110 1 rfl).trans (sl_base hN rfl s1)
          have s110_2 : a110.tmps.getD 2 undef = (Value.int .i64 cut) := (hbs110 2 rfl).trans (sl_base hN rfl s2)
          have s110_3 : a110.tmps.getD 3 undef = (Value.int .u8 (mo.toNat : Int)) := (hbs110 3 rfl).trans (sl_base hN rfl s3)
          have s110_8 : a110.tmps.getD 8 undef = (Value.bool false) := (hbs110 8 rfl).trans (sl_hit hN rfl)
          have s110_9 : a110.tmps.getD 9 undef = u13 := (hbs110 9 rfl).trans (sl_hit hN rfl)
          have s110_10 : a110.tmps.getD 10 undef = (Value.int .i64 (takeR bl).2) := (hbs110 10 rfl).trans (sl_hit hN rfl)
          have s110_18 : a110.tmps.getD 18 undef = (Value.bool true) := (hbs110 18 rfl).trans (sl_hit hN rfl)
          have s110_19 : a110.tmps.getD 19 undef = (Value.bool false) := (hbs110 19 rfl).trans (sl_hit hN rfl)
          have s110_20 : a110.tmps.getD 20 undef = v := (hbs110 20 rfl).trans (sl_hit hN rfl)
          have s110_21 : a110.tmps.getD 21 undef = (Value.bool true) := (hbs110 21 rfl).trans (sl_hit hN rfl)
          have s110_22 : a110.tmps.getD 22 undef = (Value.bool false) := (hbs110 22 rfl).trans (sl_hit hN rfl)
          have s110_23 : a110.tmps.getD 23 undef = (Value.bool false) := (hbs110 23 rfl).trans (sl_hit hN rfl)
          have s110_24 : a110.tmps.getD 24 undef = u := (hbs110 24 rfl).trans (sl_hit hN rfl)
          have s110_25 : a110.tmps.getD 25 undef = (Value.int .i64 ((bl.length : Nat) : Int)) := (hbs110 25 rfl).trans (sl_hit hN rfl)
          have s110_26 : a110.tmps.getD 26 undef = (Value.bool false) := (hbs110 26 rfl).trans (sl_hit hN rfl)
          have s110_27 : a110.tmps.getD 27 undef = (Value.bool false) := (hbs110 27 rfl).trans (sl_hit hN rfl)
          have s110_28 : a110.tmps.getD 28 undef = (Value.tuple #[u13, (Value.int .i64 (takeR bl).2)]) := (hbs110 28 rfl).trans (sl_hit hN rfl)
          have s110_29 : a110.tmps.getD 29 undef = u := (hbs110 29 rfl).trans (sl_hit hN rfl)
          have s110_30 : a110.tmps.getD 30 undef = (Value.tuple #[u13, (Value.int .i64 (takeR bl).2)]) := (hbs110 30 rfl).trans (sl_hit hN rfl)
          have s110_31 : a110.tmps.getD 31 undef = u13 := (hbs110 31 rfl).trans (sl_hit hN rfl)
          have s110_32 : a110.tmps.getD 32 undef = (Value.int .i64 (takeR bl).2) := (hbs110 32 rfl).trans (sl_hit hN rfl)
          have s110_33 : a110.tmps.getD 33 undef = (Value.int .i64 (takeR bl).2) := hph110 0 _ 33 rfl rfl
          have s110_34 : a110.tmps.getD 34 undef = (Value.bool false) := hph110 1 _ 34 rfl rfl
          have s110_35 : a110.tmps.getD 35 undef = (Value.bool false) := hph110 2 _ 35 rfl rfl
          have s110_36 : a110.tmps.getD 36 undef = undef := hph110 3 _ 36 rfl rfl
          have s110_37 : a110.tmps.getD 37 undef = undef := hph110 4 _ 37 rfl rfl
          have s110_38 : a110.tmps.getD 38 undef = undef := hph110 5 _ 38 rfl rfl
          have s110_39 : a110.tmps.getD 39 undef = undef := hph110 6 _ 39 rfl rfl
          have s110_40 : a110.tmps.getD 40 undef = undef := hph110 7 _ 40 rfl rfl
          have s110_41 : a110.tmps.getD 41 undef = undef := hph110 8 _ 41 rfl rfl
          have s110_42 : a110.tmps.getD 42 undef = (Value.bool false) := hph110 9 _ 42 rfl rfl
          clear hbs110 hph110
          have E110 : w14.grownBy w110 none := E110
          have z_w110 := E110.size
          have h := h.keep0 E110
          have hv := hv.keep0 E110
          have hO13 := hO13.keep0 E110
          have hb := below_step0 hb E110 hb.size
          refine hK17 _ _ ?_
          refine wp_cond_false (ev_base hN110 rfl s110_42) ?_
          refine wp_skip ?_
          refine hK16 _ _ ?_
          refine seq_any fun K111 hK111 => ?_
          refine seq_any fun K112 hK112 => ?_
          refine one_reg ?_
          refine op_move (ev_base hN110 rfl s110_0) ?_
          refine op_fn (vs := [v]) ok47 ⟨(ev_hit hN110 rfl), trivial⟩ (rowMay_ret l _ _ (by first | assumption | omega | (simp only [List.length_append, List.length_cons, List.length_nil, List.length_drop, List.length_take]; omega) | (dsimp only; omega) | decide | (simp [keyV, be8_len]; done)) ho (show RdC w110 0 w110.heap.size 3 v l.length (l.flatMap cellsV) from by simpa [cellsV] using (h.mono (L' := 0) (B' := w110.heap.size) (Nat.zero_le _) (by omega)))) ?_
          rintro _ w113 ⟨E114, rfl⟩
          have E114 := grown_of_below E114
          have z_w113 := E114.size
          have h := h.keep0 E114
          have hv := hv.keep0 E114
          have hO13 := hO13.keep0 E114
          have hb := below_step0 hb E114 hb.size
          rcases Bool.eq_false_or_eq_true ((mayR l)) with c44 | c44
          · -- 44 True
            rw [c44]
            refine op_not (ev_hit hN110 rfl) ?_
            refine reg_nil ?_
            refine hK112 _ _ ?_
            refine wp_cond_false (ev_hit hN110 rfl) ?_
            refine wp_skip ?_
            refine hK111 _ _ ?_
            refine seq_any fun K115 hK115 => ?_
            refine one_reg ?_
            refine op_move (ev_base hN110 rfl s110_0) ?_
            have hpp := putR_pos c44
            have hpl := place_rng cut ((putR l).length : Int) hpp
            have hr2 := takeR_len (putR l)
            refine op_fn (vs := [v]) ok49 ⟨(ev_hit hN110 rfl), trivial⟩ (rowPut_ret l _ _ (by first | assumption | omega | (simp only [List.length_append, List.length_cons, List.length_nil, List.length_drop, List.length_take]; omega) | (dsimp only; omega) | decide | (simp [keyV, be8_len]; done)) ho (show RdC w113 0 w113.heap.size 3 v l.length (l.flatMap cellsV) from by simpa [cellsV] using (h.mono (L' := 0) (B' := w113.heap.size) (Nat.zero_le _) (by omega)))) ?_
            rintro v116 w117 ⟨E118, hO116⟩
            have E118 := grown_of_below E118
            have z_w117 := E118.size
            have h := h.keep0 E118
            have hv := hv.keep0 E118
            have hO13 := hO13.keep0 E118
            have hb := below_step0 hb E118 hb.size
            have hO116 := hO116.mono (base' := w113.heap.size) (by omega)
            refine op_assign (ev_hit hN110 rfl) ?_
            refine reg_nil ?_
            refine hK115 _ _ ?_
            refine seq_any fun K119 hK119 => ?_
            refine one_reg ?_
            refine op_move (ev_hit hN110 rfl) ?_
            have hq120 : RdC w117 0 w117.heap.size 1 v116 (putR l).length ((putR l).map u8v) := by have hh : RdC w117 0 w117.heap.size 1 _ _ _ := (hO116.rdw.mono (L' := 0) (B' := w117.heap.size) (Nat.zero_le _) (by omega)); first | simpa using hh | simpa [Nat.add_comm, Nat.add_left_comm, Nat.add_assoc] using hh | exact hh.cast (by simp; try omega) (by simp)
            refine op_fn (vs := [v116]) ok45 ⟨(ev_hit hN110 rfl), trivial⟩ (rowTake_ret (putR l) v116 _ (by first | assumption | omega | (simp only [List.length_append, List.length_cons, List.length_nil, List.length_drop, List.length_take]; omega) | (dsimp only; omega) | decide | (simp [keyV, be8_len]; done)) hq120) ?_
            rintro _ w122 ⟨E123, u121, rfl, hO121⟩
            have dj124 : DJ u121 u13 := fun k hk hg => by have q1 := (hO121.lt k hk).1; have q2 := (hO13.lt k hg).2; omega
            have E123 := grown_of_below E123
            have z_w122 := E123.size
            have h := h.keep0 E123
            have hv := hv.keep0 E123
            have hO13 := hO13.keep0 E123
            have hO116 := hO116.keep0 E123
            have hb := below_step0 hb E123 hb.size
            have hO121 := hO121.mono (base' := w117.heap.size) (by omega)
            refine op_move (ev_hit hN110 rfl) ?_
            refine op_extract (ev_hit hN110 rfl) rfl ?_
            refine op_extract (ev_hit hN110 rfl) rfl ?_
            refine op_assign (ev_hit hN110 rfl) ?_
            refine op_assign (ev_hit hN110 rfl) ?_
            refine reg_nil ?_
            refine hK119 _ _ ?_
            refine seq_any fun K125 hK125 => ?_
            refine one_reg ?_
            refine op_move (ev_hit hN110 rfl) ?_
            refine op_move (ev_base hN110 rfl s110_2) ?_
            refine op_move (ev_hit hN110 rfl) ?_
            refine op_len_rd Try.underlying22 (ev_hit hN110 rfl) hO116.rdw ?_
            refine op_fn (vs := [(Value.int .i64 cut), (Value.int .i64 (((putR l).length : Nat) : Int))]) ok52 ⟨(ev_hit hN110 rfl), ⟨(ev_hit hN110 rfl), trivial⟩⟩ (Place_ret cut (((putR l).length : Nat) : Int) _ (by first | assumption | omega | (simp only [List.length_append, List.length_cons, List.length_nil, List.length_drop, List.length_take]; omega) | (dsimp only; omega) | decide | (simp [keyV, be8_len]; done)) (by first | assumption | omega | (simp only [List.length_append, List.length_cons, List.length_nil, List.length_drop, List.length_take]; omega) | (dsimp only; omega) | decide | (simp [keyV, be8_len]; done))) ?_
            rintro _ w126 ⟨E127, rfl⟩
            have E127 := grown_of_below E127
            have z_w126 := E127.size
            have h := h.keep0 E127
            have hv := hv.keep0 E127
            have hO13 := hO13.keep0 E127
            have hO116 := hO116.keep0 E127
            have hO121 := hO121.keep0 E127
            have hb := below_step0 hb E127 hb.size
            refine op_slice_rd (lo := 0) (hi := (placeI cut ((putR l).length : Int)).toNat) slt22 (ev_hit hN110 rfl) hO116.rdw (.inl ⟨rfl, rfl⟩) (.inr ⟨_, _, rfl, (ev_hit hN110 rfl).trans (congrArg (Value.int _) (by omega))⟩) (by omega) (by omega) ?_
            intro v128 hR129
            have hR129 : RdC w126 w113.heap.size w126.heap.size 1 v128 ((placeI cut ((putR l).length : Int)).toNat) ((((putR l).take (placeI cut ((putR l).length : Int)).toNat)).map u8v) := by simpa [List.map_take] using hR129
            have hq130 : RdC w126 0 w126.heap.size 1 v128 ((putR l).take (placeI cut ((putR l).length : Int)).toNat).length (((putR l).take (placeI cut ((putR l).length : Int)).toNat).map u8v) := by have hh : RdC w126 0 w126.heap.size 1 _ _ _ := (hR129.mono (L' := 0) (B' := w126.heap.size) (Nat.zero_le _) (by omega)); first | simpa using hh | simpa [Nat.add_comm, Nat.add_left_comm, Nat.add_assoc] using hh | exact hh.cast (by simp; try omega) (by simp)
            refine op_fn (vs := [v128]) ok45 ⟨(ev_hit hN110 rfl), trivial⟩ (rowTake_ret ((putR l).take (placeI cut ((putR l).length : Int)).toNat) v128 _ (by first | assumption | omega | (simp only [List.length_append, List.length_cons, List.length_nil, List.length_drop, List.length_take]; omega) | (dsimp only; omega) | decide | (simp [keyV, be8_len]; done)) hq130) ?_
            rintro _ w132 ⟨E133, u131, rfl, hO131⟩
            have dj134 : DJ u131 u13 := fun k hk hg => by have q1 := (hO131.lt k hk).1; have q2 := (hO13.lt k hg).2; omega
            have dj135 : DJ u131 u121 := fun k hk hg => by have q1 := (hO131.lt k hk).1; have q2 := (hO121.lt k hg).2; omega
            have E133 := grown_of_below E133
            have z_w132 := E133.size
            have h := h.keep0 E133
            have hv := hv.keep0 E133
            have hO13 := hO13.keep0 E133
            have hO116 := hO116.keep0 E133
            have hO121 := hO121.keep0 E133
            have hR129 := hR129.keep0 E133
            have hb := below_step0 hb E133 hb.size
            have hO131 := hO131.mono (base' := w126.heap.size) (by omega)
            refine op_move (ev_hit hN110 rfl) ?_
            refine op_extract (ev_hit hN110 rfl) rfl ?_
            refine op_extract (ev_hit hN110 rfl) rfl ?_
            refine op_assign (ev_hit hN110 rfl) ?_
            refine op_assign (ev_hit hN110 rfl) ?_
            refine reg_nil ?_
            refine hK125 _ _ ?_
            refine seq_any fun K136 hK136 => ?_
            refine one_reg ?_
            refine op_bslice (e := 5) (pv := []) (cs := []) trivial (by kernel_rfl) ?_
            intro w137 b138 lo_b138 hi_b138 hB140 E139
            have ne_b138_v116 : v116.ownBlock ≠ some b138 := fun hh => by have := (hO116.lt _ hh).2; omega
            have z_w137 := E139.size
            have h := h.keep0 E139
            have hv := hv.keep0 E139
            have hO13 := hO13.keep0 E139
            have hO116 := hO116.keep0 E139
            have hO121 := hO121.keep0 E139
            have hR129 := hR129.keep0 E139
            have hO131 := hO131.keep0 E139
            have hb := below_step0 hb E139 hb.size
            refine op_move (ev_hit hN110 rfl) ?_
            have hP146 := (Own.ofBx (base := w.heap.size) (sz := 1) (n := 0) hB140 rfl (by decide) (by omega))
            refine op_append slt22 (ev_hit hN110 rfl) hP146 (ev_hit hN110 rfl) (Src.ofRd Try.underlying22 (by decide) hO116.rdw (by simp [Value.oneCell', u8v])) (by unfold maxLen; omega) (by omega) hb.size ?_
            intro v141 w142 hO144 E143 hm145
            have dj147 : DJ v116 (Value.slice (some ⟨b138, 0, none⟩) 0 0) := fun k hk hg => by simp [Value.ownBlock] at hg; subst hg; exact ne_b138_v116 hk
            have dj148 : DJ v116 v141 := DJ.step hm145 (fun k hk => (hO116.lt k hk).2) dj147
            have z_w142 := E143.size
            have h := h.keepO hP146 E143 (by omega)
            have hv := hv.keepO hP146 E143 (by omega)
            have hO13 := hO13.keepT hP146 E143 (by decide)
            have hO116 := hO116.keepD E143 dj147
            have hO121 := hO121.keepT hP146 E143 (by decide)
            have hO131 := hO131.keepT hP146 E143 (by decide)
            have hb := below_stepO hb hP146 E143 hb.size (by omega)
            have hO144 : Own w142 w.heap.size 5 1 v141 (0 + (putR l).length) (((putR l)).map u8v) := by simpa [u8v, cellsV] using hO144
            refine op_move (ev_base hN110 rfl s110_3) ?_
            refine op_bslice (e := 5) (pv := [(0, (Value.int .u8 (mo.toNat : Int)))]) (cs := [(Value.int .u8 (mo.toNat : Int))]) ⟨rfl, (ev_hit hN110 rfl), trivial⟩ (by kernel_rfl) ?_
            intro w149 b150 lo_b150 hi_b150 hB152 E151
            have ne_b150_v116 : v116.ownBlock ≠ some b150 := fun hh => by have := (hO116.lt _ hh).2; omega
            have ne_b150_v141 : v141.ownBlock ≠ some b150 := fun hh => by have := (hO144.lt _ hh).2; omega
            have z_w149 := E151.size
            have h := h.keep0 E151
            have hv := hv.keep0 E151
            have hO13 := hO13.keep0 E151
            have hO116 := hO116.keep0 E151
            have hO121 := hO121.keep0 E151
            have hO131 := hO131.keep0 E151
            have hO144 := hO144.keep0 E151
            have hb := below_step0 hb E151 hb.size
            have hP158 := hO144
            refine op_append slt22 (ev_hit hN110 rfl) hP158 (ev_hit hN110 rfl) (Src.ofRd Try.underlying22 (by decide) (RdC.ofBx (sz := 1) (n := 1) hB152 rfl (by decide)) (by simp [Value.oneCell', u8v])) (by unfold maxLen; omega) (by omega) hb.size ?_
            intro v153 w154 hO156 E155 hm157
            have dj159 : DJ v116 v153 := DJ.step hm157 (fun k hk => (hO116.lt k hk).2) dj148
            have z_w154 := E155.size
            have h := h.keepO hP158 E155 (by omega)
            have hv := hv.keepO hP158 E155 (by omega)
            have hO13 := hO13.keepT hP158 E155 (by decide)
            have hO116 := hO116.keepD E155 dj148
            have hO121 := hO121.keepT hP158 E155 (by decide)
            have hO131 := hO131.keepT hP158 E155 (by decide)
            have hB152 := hB152.keep E155 (fun hh => ne_b150_v141 hh.symm)
            have hb := below_stepO hb hP158 E155 hb.size (by omega)
            have hO156 : Own w154 w.heap.size 5 1 v153 ((0 + (putR l).length) + 1) ((((putR l) ++ [mo])).map u8v) := by simpa [u8v, cellsV] using hO156
            have ne_b150_v153 : v153.ownBlock ≠ some b150 := ne_step (w1 := w149) ⟨E155, hm157⟩ (by omega) ne_b150_v141
            have hq160 : RdC w154 0 w154.heap.size 1 v153 ((putR l) ++ [mo]).length (((putR l) ++ [mo]).map u8v) := by have hh : RdC w154 0 w154.heap.size 1 _ _ _ := (hO156.rdw.mono (L' := 0) (B' := w154.heap.size) (Nat.zero_le _) (by omega)); first | simpa using hh | simpa [Nat.add_comm, Nat.add_left_comm, Nat.add_assoc] using hh | exact hh.cast (by simp; try omega) (by simp)
            refine op_fn (vs := [v153]) ok45 ⟨(ev_hit hN110 rfl), trivial⟩ (rowTake_ret ((putR l) ++ [mo]) v153 _ (by first | assumption | omega | (simp only [List.length_append, List.length_cons, List.length_nil, List.length_drop, List.length_take]; omega) | (dsimp only; omega) | decide | (simp [keyV, be8_len]; done)) hq160) ?_
            rintro _ w162 ⟨E163, u161, rfl, hO161⟩
            have dj164 : DJ u161 u13 := fun k hk hg => by have q1 := (hO161.lt k hk).1; have q2 := (hO13.lt k hg).2; omega
            have dj165 : DJ u161 u121 := fun k hk hg => by have q1 := (hO161.lt k hk).1; have q2 := (hO121.lt k hg).2; omega
            have dj166 : DJ u161 u131 := fun k hk hg => by have q1 := (hO161.lt k hk).1; have q2 := (hO131.lt k hg).2; omega
            have E163 := grown_of_below E163
            have z_w162 := E163.size
            have h := h.keep0 E163
            have hv := hv.keep0 E163
            have hO13 := hO13.keep0 E163
            have hO116 := hO116.keep0 E163
            have hO121 := hO121.keep0 E163
            have hO131 := hO131.keep0 E163
            have hB152 := hB152.keep0 E163
            have hO156 := hO156.keep0 E163
            have hb := below_step0 hb E163 hb.size
            have hO161 := hO161.mono (base' := w154.heap.size) (by omega)
            refine op_move (ev_hit hN110 rfl) ?_
            refine op_extract (ev_hit hN110 rfl) rfl ?_
            refine op_extract (ev_hit hN110 rfl) rfl ?_
            refine op_assign (ev_hit hN110 rfl) ?_
            refine op_assign (ev_hit hN110 rfl) ?_
            refine reg_nil ?_
            refine hK136 _ _ ?_
            refine seq_any fun K167 hK167 => ?_
            refine one_reg ?_
            refine op_move (ev_hit hN110 rfl) ?_
            refine op_eql (ev_hit hN110 rfl) rfl (fun c78 => ?_) (fun c78 => ?_)
            · -- 78 True
              refine op_move (ev_hit hN110 rfl) ?_
              refine g_true (j := 2) (dj := 79) (b := true) rfl rfl rfl (ev_hit hN110 rfl) ?_
              refine op_move (ev_hit hN110 rfl) ?_
              refine g_true (j := 2) (dj := 79) (b := true) rfl rfl rfl (ev_hit hN110 rfl) ?_
              refine op_move (ev_base hN110 rfl s110_0) ?_
              refine g_true (j := 2) (dj := 79) (b := true) rfl rfl rfl (ev_hit hN110 rfl) ?_
              refine op_fn (vs := [u121, v]) ok51 ⟨(ev_hit hN110 rfl), ⟨(ev_hit hN110 rfl), trivial⟩⟩ (SameRow_ret (takeR (putR l)).1 l _ _ _ (by first | assumption | omega | (simp only [List.length_append, List.length_cons, List.length_nil, List.length_drop, List.length_take]; omega) | (dsimp only; omega) | decide | (simp [keyV, be8_len]; done)) (show RdC w162 0 w162.heap.size 3 u121 (takeR (putR l)).1.length ((takeR (putR l)).1.flatMap cellsV) from by simpa [cellsV] using (hO121.rdw.mono (L' := 0) (B' := w162.heap.size) (Nat.zero_le _) (by omega))) (show RdC w162 0 w162.heap.size 3 v l.length (l.flatMap cellsV) from by simpa [cellsV] using (h.mono (L' := 0) (B' := w162.heap.size) (Nat.zero_le _) (by omega)))) ?_
              rintro _ w168 ⟨E169, rfl⟩
              have E169 := grown_of_below E169
              have z_w168 := E169.size
              have h := h.keep0 E169
              have hv := hv.keep0 E169
              have hO13 := hO13.keep0 E169
              have hO116 := hO116.keep0 E169
              have hO121 := hO121.keep0 E169
              have hO131 := hO131.keep0 E169
              have hB152 := hB152.keep0 E169
              have hO156 := hO156.keep0 E169
              have hO161 := hO161.keep0 E169
              have hb := below_step0 hb E169 hb.size
              rcases Bool.eq_false_or_eq_true ((decide ((takeR (putR l)).1 = l))) with c82 | c82
              · -- 82 True
                rw [c82]
                refine op_pick_t (ev_hit hN110 rfl) (ev_hit hN110 rfl) ?_
                refine op_move (ev_hit hN110 rfl) ?_
                refine g_true (j := 7) (dj := 84) (b := true) rfl rfl rfl (ev_hit hN110 rfl) ?_
                refine op_move (ev_hit hN110 rfl) ?_
                refine g_true (j := 7) (dj := 84) (b := true) rfl rfl rfl (ev_hit hN110 rfl) ?_
                refine op_eql (ev_hit hN110 rfl) rfl (fun c86 => ?_) (fun c86 => ?_)
                · -- 86 True
                  refine op_pick_t (ev_hit hN110 rfl) (ev_hit hN110 rfl) ?_
                  refine op_move (ev_hit hN110 rfl) ?_
                  refine g_true (j := 11) (dj := 88) (b := true) rfl rfl rfl (ev_hit hN110 rfl) ?_
                  refine op_move (ev_hit hN110 rfl) ?_
                  refine g_true (j := 11) (dj := 88) (b := true) rfl rfl rfl (ev_hit hN110 rfl) ?_
                  refine op_eql (ev_hit hN110 rfl) rfl (fun c90 => ?_) (fun c90 => ?_)
                  · -- 90 True
                    refine op_pick_t (ev_hit hN110 rfl) (ev_hit hN110 rfl) ?_
                    refine op_move (ev_hit hN110 rfl) ?_
                    refine g_true (j := 15) (dj := 92) (b := true) rfl rfl rfl (ev_hit hN110 rfl) ?_
                    refine op_move (ev_hit hN110 rfl) ?_
                    refine g_true (j := 15) (dj := 92) (b := true) rfl rfl rfl (ev_hit hN110 rfl) ?_
                    refine op_len_rd Try.underlying22 (ev_hit hN110 rfl) hO116.rdw ?_
                    refine g_true (j := 15) (dj := 92) (b := true) rfl rfl rfl (ev_hit hN110 rfl) ?_
                    refine op_lss (ev_hit hN110 rfl) rfl (fun c95 => ?_) (fun c95 => ?_)
                    · -- 95 True
                      refine op_pick_t (ev_hit hN110 rfl) (ev_hit hN110 rfl) ?_
                      refine op_assign (ev_hit hN110 rfl) ?_
                      refine reg_nil ?_
                      refine hK167 _ _ ?_
                      refine wp_ret ?_
                      refine ret1 rfl hd110 (ev_hit hN110 rfl) ⟨_, rfl, ?_⟩
                      -- path 21T 26F 34F 44T 78T 82T 86T 90T 95T
                      exact ⟨hb, rfl⟩
                    · -- 95 False
                      exact absurd (by have := putR_200 c44; omega) c95
                  · -- 90 False
                    exact absurd (take_more c44 ho mo) c90
                · -- 86 False
                  exact absurd (take_cut c44 ho (by omega)) c86
              · -- 82 False
                exact absurd c82 (by rw [take_put0 c44 ho]; simp)
            · -- 78 False
              exact absurd (by rw [take_put0 c44 ho]) c78
          · -- 44 False
            rw [c44]
            refine op_not (ev_hit hN110 rfl) ?_
            refine reg_nil ?_
            refine hK112 _ _ ?_
            refine wp_cond_true (ev_hit hN110 rfl) ?_
            refine seq_any fun K170 hK170 => ?_
            refine one_reg ?_
            refine op_move (ev_base hN110 rfl s110_0) ?_
            refine op_fn (vs := [v]) ok49 ⟨(ev_hit hN110 rfl), trivial⟩ (rowPut_ret l _ _ (by first | assumption | omega | (simp only [List.length_append, List.length_cons, List.length_nil, List.length_drop, List.length_take]; omega) | (dsimp only; omega) | decide | (simp [keyV, be8_len]; done)) ho (show RdC w113 0 w113.heap.size 3 v l.length (l.flatMap cellsV) from by simpa [cellsV] using (h.mono (L' := 0) (B' := w113.heap.size) (Nat.zero_le _) (by omega)))) ?_
            rintro v171 w172 ⟨E173, hO171⟩
            have E173 := grown_of_below E173
            have z_w172 := E173.size
            have h := h.keep0 E173
            have hv := hv.keep0 E173
            have hO13 := hO13.keep0 E173
            have hb := below_step0 hb E173 hb.size
            have hO171 := hO171.mono (base' := w113.heap.size) (by omega)
            refine op_len_rd Try.underlying22 (ev_hit hN110 rfl) hO171.rdw ?_
            refine op_eql (ev_hit hN110 rfl) rfl (fun c49 => ?_) (fun c49 => ?_)
            · -- 49 True
              refine op_assign (ev_hit hN110 rfl) ?_
              refine reg_nil ?_
              refine hK170 _ _ ?_
              refine wp_ret (then_ret ( ?_))
              refine ret1 rfl hd110 (ev_hit hN110 rfl) ⟨_, rfl, ?_⟩
              -- path 21T 26F 34F 44F 49T
              exact ⟨hb, rfl⟩
            · -- 49 False
              exact absurd (by simp [putR, c44]) c49
  · -- 21 False
    rw [c21]
    refine op_not (ev_hit hN rfl) ?_
    refine op_move (ev_hit hN rfl) ?_
    refine g_false (j := 3) (dj := 23) (b := false) rfl rfl rfl (ev_hit hN rfl) rfl rfl ?_
    refine g_false (j := 3) (dj := 23) (b := false) rfl rfl rfl (ev_hit hN rfl) rfl rfl ?_
    refine g_false (j := 3) (dj := 23) (b := false) rfl rfl rfl (ev_hit hN rfl) rfl rfl ?_
    refine op_pick_t (ev_hit hN rfl) rfl ?_
    refine reg_nil ?_
    refine hK7 _ _ ?_
    refine wp_cond_true (ev_hit hN rfl) ?_
    refine seq_any fun K174 hK174 => ?_
    refine one_reg ?_
    refine op_assign rfl ?_
    refine reg_nil ?_
    refine hK174 _ _ ?_
    refine wp_ret (then_ret ( ?_))
    refine ret1 rfl hd (ev_hit hN rfl) ⟨_, rfl, ?_⟩
    -- path 21F
    exact ⟨hb, rfl⟩

end Go.Proofs.Ytkkongnmcfdioaa
