/- Walks, written by a program: what each function of the translation hands back. -/
import Derived.Test.YtpmnljffdofkeaaProg
import Derived.KernelRfl
import Derived.Test.YtpmnljffdofkeaaB6
namespace Go.Proofs.Ytpmnljffdofkeaa
open Go.Gx Go.RowKit
attribute [local irreducible] wpList wpStill Code.wp Calls

theorem begun1_ret (w : World) : Ret Try.prog 23 #[] w (fun v' w' => Below w.heap.size w w' ∧ v' = .bool true) := by
 have hz1 : (normL [3, 1, 3]).length = 2 := by decide +kernel
 have hz2 : (takeL [1, 0, 7]).1.length = 1 := by decide +kernel
 have hb := Below.refl w.heap.size w
 refine enter (N := 74) Try.func23 rfl rfl (by simp) fun a0 hN hd hA => ?_
 clear hA
 refine seq_any fun K1 hK1 => ?_
 refine one_reg ?_
 refine op_assign rfl ?_
 refine reg_nil ?_
 refine hK1 _ _ ?_
 refine seq_any fun K2 hK2 => ?_
 refine one_reg ?_
 refine op_bslice (e := 35) (pv := [(0, (Value.int .u16 3)), (1, (Value.int .u16 1)), (2, (Value.int .u16 3))]) (cs := [(Value.int .u16 3), (Value.int .u16 1), (Value.int .u16 3)]) ⟨rfl, rfl, ⟨rfl, rfl, ⟨rfl, rfl, trivial⟩⟩⟩ (by kernel_rfl) ?_
 intro w3 b4 lo_b4 hi_b4 hB6 E5
 have z_w3 := E5.size
 have hb := below_step0 hb E5 hb.size
 refine op_fn (vs := [(Value.slice (some ⟨b4, 0, none⟩) 3 3)]) ok24 ⟨(ev_hit hN rfl), trivial⟩ (normW_ret [3, 1, 3] _ _ (by first | assumption | omega | (simp only [List.length_append, List.length_cons, List.length_nil, List.length_drop, List.length_take]; omega) | (dsimp only; omega) | decide | (simp [keyV, be8_len]; done)) (show RdC w3 0 w3.heap.size 1 (Value.slice (some ⟨b4, 0, none⟩) 3 3) [3, 1, 3].length ([3, 1, 3].map u16v) from by have hh : RdC w3 0 w3.heap.size 1 _ _ _ := ((RdC.ofBx (sz := 1) (n := 3) hB6 rfl (by decide)).mono (L' := 0) (B' := w3.heap.size) (Nat.zero_le _) (by have := hB6.lt; omega)); first | exact hh | exact hh.cast (by first | omega | (simp; try omega)) (by first | rfl | simp [u16v]))) ?_
 rintro _ w8 ⟨E9, v7, rfl, hO7⟩
 have E9 := grown_of_below E9
 have z_w8 := E9.size
 have hB6 := hB6.keep0 E9
 have hb := below_step0 hb E9 hb.size
 have hO7 := hO7.mono (base' := w.heap.size) (by omega)
 have hnl7 := normL_len [3, 1, 3]
 refine op_move (ev_hit hN rfl) ?_
 refine op_extract (ev_hit hN rfl) rfl ?_
 refine op_extract (ev_hit hN rfl) rfl ?_
 refine op_assign (ev_hit hN rfl) ?_
 refine op_assign (ev_hit hN rfl) ?_
 refine reg_nil ?_
 refine hK2 _ _ ?_
 refine seq_any fun K10 hK10 => ?_
 refine one_reg ?_
 refine op_bslice (e := 5) (pv := [(0, (Value.int .u8 1)), (1, (Value.int .u8 0)), (2, (Value.int .u8 7))]) (cs := [(Value.int .u8 1), (Value.int .u8 0), (Value.int .u8 7)]) ⟨rfl, rfl, ⟨rfl, rfl, ⟨rfl, rfl, trivial⟩⟩⟩ (by kernel_rfl) ?_
 intro w11 b12 lo_b12 hi_b12 hB14 E13
 have z_w11 := E13.size
 have hB6 := hB6.keep0 E13
 have hO7 := hO7.keep0 E13
 have hb := below_step0 hb E13 hb.size
 have hq15 : RdC w11 0 w11.heap.size 1 (Value.slice (some ⟨b12, 0, none⟩) 3 3) [1, 0, 7].length ([1, 0, 7].map u8v) := by have hh : RdC w11 0 w11.heap.size 1 _ _ _ := ((RdC.ofBx (sz := 1) (n := 3) hB14 rfl (by decide)).mono (L' := 0) (B' := w11.heap.size) (Nat.zero_le _) (by have := hB14.lt; omega)); first | simpa using hh | simpa [Nat.add_comm, Nat.add_left_comm, Nat.add_assoc] using hh | exact hh.cast (by first | rfl | (simp; try omega)) (by first | rfl | (simp; done) | simp [u8v])
 refine op_fn (vs := [(Value.slice (some ⟨b12, 0, none⟩) 3 3)]) ok38 ⟨(ev_hit hN rfl), trivial⟩ (labTake_ret [1, 0, 7] (Value.slice (some ⟨b12, 0, none⟩) 3 3) _ (by first | assumption | omega | (simp only [List.length_append, List.length_cons, List.length_nil, List.length_drop, List.length_take]; omega) | (dsimp only; omega) | decide | (simp [keyV, be8_len]; done)) hq15) ?_
 rintro _ w17 ⟨E18, u16, rfl, hO16⟩
 have dj19 : DJ u16 v7 := fun k hk hg => by have q1 := (hO16.lt k hk).1; have q2 := (hO7.lt k hg).2; omega
 have E18 := grown_of_below E18
 have z_w17 := E18.size
 have hB6 := hB6.keep0 E18
 have hO7 := hO7.keep0 E18
 have hB14 := hB14.keep0 E18
 have hb := below_step0 hb E18 hb.size
 have hO16 := hO16.mono (base' := w11.heap.size) (by omega)
 refine op_move (ev_hit hN rfl) ?_
 refine op_extract (ev_hit hN rfl) rfl ?_
 refine op_extract (ev_hit hN rfl) rfl ?_
 refine op_extract (ev_hit hN rfl) rfl ?_
 refine op_assign (ev_hit hN rfl) ?_
 refine op_assign (ev_hit hN rfl) ?_
 refine op_assign (ev_hit hN rfl) ?_
 refine reg_nil ?_
 refine hK10 _ _ ?_
 refine seq_any fun K20 hK20 => ?_
 refine one_reg ?_
 refine op_move (ev_hit hN rfl) ?_
 refine op_eql (ev_hit hN rfl) rfl (fun c18 => ?_) (fun c18 => ?_)
 · -- 18T
  refine op_move (ev_hit hN rfl) ?_
  refine g_true (j := 2) (dj := 19) (b := true) rfl rfl rfl (ev_hit hN rfl) ?_
  refine op_move (ev_hit hN rfl) ?_
  refine g_true (j := 2) (dj := 19) (b := true) rfl rfl rfl (ev_hit hN rfl) ?_
  refine op_len_rd Try.underlying23 (ev_hit hN rfl) hO7.rdw ?_
  refine g_true (j := 2) (dj := 19) (b := true) rfl rfl rfl (ev_hit hN rfl) ?_
  refine op_eql (ev_hit hN rfl) rfl (fun c22 => ?_) (fun c22 => ?_)
  · -- 22T
   refine op_pick_t (ev_hit hN rfl) (ev_hit hN rfl) ?_
   refine op_move (ev_hit hN rfl) ?_
   refine g_true (j := 7) (dj := 24) (b := true) rfl rfl rfl (ev_hit hN rfl) ?_
   refine op_move (ev_hit hN rfl) ?_
   refine g_true (j := 7) (dj := 24) (b := true) rfl rfl rfl (ev_hit hN rfl) ?_
   refine op_index_rd slt23 (ev_hit hN rfl) hO7.rdw rfl (by omega) (by omega) ?_
   intro b21 o22 h0b21 h1b21 hc23
   refine g_true (j := 7) (dj := 24) (b := true) rfl rfl rfl (ev_hit hN rfl) ?_
   refine op_load1 (v := (Value.int .u16 (((normL [3, 1, 3]).getD 0 0).toNat : Int))) one35 (ev_hit hN rfl) (by have := hc23 0 (Value.int .u16 (((normL [3, 1, 3]).getD 0 0).toNat : Int)) (by decide) (el_u16 (i := 0) (by omega) (by omega)); simpa using this) ?_
   refine g_true (j := 7) (dj := 24) (b := true) rfl rfl rfl (ev_hit hN rfl) ?_
   refine op_eql (ev_hit hN rfl) rfl (fun c28 => ?_) (fun c28 => ?_)
   · -- 28T
    refine op_pick_t (ev_hit hN rfl) (ev_hit hN rfl) ?_
    refine op_move (ev_hit hN rfl) ?_
    refine g_true (j := 13) (dj := 30) (b := true) rfl rfl rfl (ev_hit hN rfl) ?_
    refine op_move (ev_hit hN rfl) ?_
    refine g_true (j := 13) (dj := 30) (b := true) rfl rfl rfl (ev_hit hN rfl) ?_
    refine op_fn (vs := [v7]) ok26 ⟨(ev_hit hN rfl), trivial⟩ (labMay_ret (normL [3, 1, 3]) _ _ (by first | assumption | omega | (simp only [List.length_append, List.length_cons, List.length_nil, List.length_drop, List.length_take]; omega) | (dsimp only; omega) | decide | (simp [keyV, be8_len]; done)) (show RdC w17 0 w17.heap.size 1 v7 (normL [3, 1, 3]).length ((normL [3, 1, 3]).map u16v) from by have hh : RdC w17 0 w17.heap.size 1 _ _ _ := (hO7.rdw.mono (L' := 0) (B' := w17.heap.size) (Nat.zero_le _) (by omega)); first | exact hh | exact hh.cast (by first | omega | (simp; try omega)) (by first | rfl | simp [u16v]))) ?_
    rintro _ w24 ⟨E25, rfl⟩
    have E25 := grown_of_below E25
    have z_w24 := E25.size
    have hB6 := hB6.keep0 E25
    have hO7 := hO7.keep0 E25
    have hB14 := hB14.keep0 E25
    have hO16 := hO16.keep0 E25
    have hb := below_step0 hb E25 hb.size
    rcases Bool.eq_false_or_eq_true ((mayL (normL [3, 1, 3]))) with c32 | c32
    · -- 32T
     rw [c32]
     refine op_pick_t (ev_hit hN rfl) (ev_hit hN rfl) ?_
     refine op_move (ev_hit hN rfl) ?_
     refine g_true (j := 17) (dj := 34) (b := true) rfl rfl rfl (ev_hit hN rfl) ?_
     refine op_move (ev_hit hN rfl) ?_
     refine g_true (j := 17) (dj := 34) (b := true) rfl rfl rfl (ev_hit hN rfl) ?_
     refine op_fn (vs := [(Value.slice none 0 0), v7]) ok27 ⟨rfl, ⟨(ev_hit hN rfl), trivial⟩⟩ (flowsW_ret ([] : Lb) (normL [3, 1, 3]) _ _ _ (by first | assumption | omega | (simp only [List.length_append, List.length_cons, List.length_nil, List.length_drop, List.length_take]; omega) | (dsimp only; omega) | decide | (simp [keyV, be8_len]; done)) (by first | assumption | omega | (simp only [List.length_append, List.length_cons, List.length_nil, List.length_drop, List.length_take]; omega) | (dsimp only; omega) | decide | (simp [keyV, be8_len]; done)) (show RdC w24 0 w24.heap.size 1 (Value.slice none 0 0) ([] : Lb).length (([] : Lb).map u16v) from by have hh : RdC w24 0 w24.heap.size 1 _ _ _ := ((RdC.nil _ 0 0 1).mono (L' := 0) (B' := w24.heap.size) (Nat.zero_le _) (by omega)); first | exact hh | exact hh.cast (by first | omega | (simp; try omega)) (by first | rfl | simp [u16v])) (show RdC w24 0 w24.heap.size 1 v7 (normL [3, 1, 3]).length ((normL [3, 1, 3]).map u16v) from by have hh : RdC w24 0 w24.heap.size 1 _ _ _ := (hO7.rdw.mono (L' := 0) (B' := w24.heap.size) (Nat.zero_le _) (by omega)); first | exact hh | exact hh.cast (by first | omega | (simp; try omega)) (by first | rfl | simp [u16v]))) ?_
     rintro _ w26 ⟨E27, rfl⟩
     have E27 := grown_of_below E27
     have z_w26 := E27.size
     have hB6 := hB6.keep0 E27
     have hO7 := hO7.keep0 E27
     have hB14 := hB14.keep0 E27
     have hO16 := hO16.keep0 E27
     have hb := below_step0 hb E27 hb.size
     rcases Bool.eq_false_or_eq_true ((flowsL ([] : Lb) (normL [3, 1, 3]))) with c36 | c36
     · -- 36T
      rw [c36]
      refine op_pick_t (ev_hit hN rfl) (ev_hit hN rfl) ?_
      refine op_move (ev_hit hN rfl) ?_
      refine g_true (j := 21) (dj := 38) (b := true) rfl rfl rfl (ev_hit hN rfl) ?_
      refine op_move (ev_hit hN rfl) ?_
      refine g_true (j := 21) (dj := 38) (b := true) rfl rfl rfl (ev_hit hN rfl) ?_
      refine op_fn (vs := [v7, (Value.slice none 0 0)]) ok27 ⟨(ev_hit hN rfl), ⟨rfl, trivial⟩⟩ (flowsW_ret (normL [3, 1, 3]) ([] : Lb) _ _ _ (by first | assumption | omega | (simp only [List.length_append, List.length_cons, List.length_nil, List.length_drop, List.length_take]; omega) | (dsimp only; omega) | decide | (simp [keyV, be8_len]; done)) (by first | assumption | omega | (simp only [List.length_append, List.length_cons, List.length_nil, List.length_drop, List.length_take]; omega) | (dsimp only; omega) | decide | (simp [keyV, be8_len]; done)) (show RdC w26 0 w26.heap.size 1 v7 (normL [3, 1, 3]).length ((normL [3, 1, 3]).map u16v) from by have hh : RdC w26 0 w26.heap.size 1 _ _ _ := (hO7.rdw.mono (L' := 0) (B' := w26.heap.size) (Nat.zero_le _) (by omega)); first | exact hh | exact hh.cast (by first | omega | (simp; try omega)) (by first | rfl | simp [u16v])) (show RdC w26 0 w26.heap.size 1 (Value.slice none 0 0) ([] : Lb).length (([] : Lb).map u16v) from by have hh : RdC w26 0 w26.heap.size 1 _ _ _ := ((RdC.nil _ 0 0 1).mono (L' := 0) (B' := w26.heap.size) (Nat.zero_le _) (by omega)); first | exact hh | exact hh.cast (by first | omega | (simp; try omega)) (by first | rfl | simp [u16v]))) ?_
      rintro _ w28 ⟨E29, rfl⟩
      have E29 := grown_of_below E29
      have z_w28 := E29.size
      have hB6 := hB6.keep0 E29
      have hO7 := hO7.keep0 E29
      have hB14 := hB14.keep0 E29
      have hO16 := hO16.keep0 E29
      have hb := below_step0 hb E29 hb.size
      rcases Bool.eq_false_or_eq_true ((flowsL (normL [3, 1, 3]) ([] : Lb))) with c40 | c40
      · -- 40T
       exact absurd c40 (by decide +kernel)
      · -- 40F
       rw [c40]
       refine g_true (j := 21) (dj := 38) (b := true) rfl rfl rfl (ev_hit hN rfl) ?_
       refine op_not (ev_hit hN rfl) ?_
       refine op_pick_t (ev_hit hN rfl) (ev_hit hN rfl) ?_
       refine op_move (ev_hit hN rfl) ?_
       refine g_true (j := 26) (dj := 43) (b := true) rfl rfl rfl (ev_hit hN rfl) ?_
       refine op_move (ev_hit hN rfl) ?_
       refine g_true (j := 26) (dj := 43) (b := true) rfl rfl rfl (ev_hit hN rfl) ?_
       refine op_bslice (e := 35) (pv := [(0, (Value.int .u16 2))]) (cs := [(Value.int .u16 2)]) ⟨rfl, rfl, trivial⟩ (by kernel_rfl) ?_
       intro w30 b31 lo_b31 hi_b31 hB33 E32
       have ne_b31_v7 : v7.ownBlock ≠ some b31 := fun hh => by have := (hO7.lt _ hh).2; omega
       have ne_b31_u16 : u16.ownBlock ≠ some b31 := fun hh => by have := (hO16.lt _ hh).2; omega
       have z_w30 := E32.size
       have hB6 := hB6.keep0 E32
       have hO7 := hO7.keep0 E32
       have hB14 := hB14.keep0 E32
       have hO16 := hO16.keep0 E32
       have hb := below_step0 hb E32 hb.size
       have hz3 := join_len (normL [3, 1, 3]) [2]
       have hz4 : (joinL (normL [3, 1, 3]) [2]).length = 3 := by decide +kernel
       refine g_true (j := 26) (dj := 43) (b := true) rfl rfl rfl (ev_hit hN rfl) ?_
       refine op_fn (vs := [v7, (Value.slice (some ⟨b31, 0, none⟩) 1 1)]) ok28 ⟨(ev_hit hN rfl), ⟨(ev_hit hN rfl), trivial⟩⟩ (joinW_ret (normL [3, 1, 3]) [2] _ _ _ (by first | assumption | omega | (simp only [List.length_append, List.length_cons, List.length_nil, List.length_drop, List.length_take]; omega) | (dsimp only; omega) | decide | (simp [keyV, be8_len]; done)) (by first | assumption | omega | (simp only [List.length_append, List.length_cons, List.length_nil, List.length_drop, List.length_take]; omega) | (dsimp only; omega) | decide | (simp [keyV, be8_len]; done)) (show RdC w30 0 w30.heap.size 1 v7 (normL [3, 1, 3]).length ((normL [3, 1, 3]).map u16v) from by have hh : RdC w30 0 w30.heap.size 1 _ _ _ := (hO7.rdw.mono (L' := 0) (B' := w30.heap.size) (Nat.zero_le _) (by omega)); first | exact hh | exact hh.cast (by first | omega | (simp; try omega)) (by first | rfl | simp [u16v])) (show RdC w30 0 w30.heap.size 1 (Value.slice (some ⟨b31, 0, none⟩) 1 1) [2].length ([2].map u16v) from by have hh : RdC w30 0 w30.heap.size 1 _ _ _ := ((RdC.ofBx (sz := 1) (n := 1) hB33 rfl (by decide)).mono (L' := 0) (B' := w30.heap.size) (Nat.zero_le _) (by have := hB33.lt; omega)); first | exact hh | exact hh.cast (by first | omega | (simp; try omega)) (by first | rfl | simp [u16v]))) ?_
       rintro v34 w35 ⟨E36, hO34⟩
       have dj37 : DJ v34 v7 := fun k hk hg => by have q1 := (hO34.lt k hk).1; have q2 := (hO7.lt k hg).2; omega
       have dj38 : DJ v34 u16 := fun k hk hg => by have q1 := (hO34.lt k hk).1; have q2 := (hO16.lt k hg).2; omega
       have E36 := grown_of_below E36
       have z_w35 := E36.size
       have hB6 := hB6.keep0 E36
       have hO7 := hO7.keep0 E36
       have hB14 := hB14.keep0 E36
       have hO16 := hO16.keep0 E36
       have hB33 := hB33.keep0 E36
       have hb := below_step0 hb E36 hb.size
       have hO34 := hO34.mono (base' := w.heap.size) (by omega)
       refine g_true (j := 26) (dj := 43) (b := true) rfl rfl rfl (ev_hit hN rfl) ?_
       refine op_len_rd Try.underlying23 (ev_hit hN rfl) hO34.rdw ?_
       refine g_true (j := 26) (dj := 43) (b := true) rfl rfl rfl (ev_hit hN rfl) ?_
       refine op_eql (ev_hit hN rfl) rfl (fun c48 => ?_) (fun c48 => ?_)
       · -- 48T
        refine op_pick_t (ev_hit hN rfl) (ev_hit hN rfl) ?_
        refine op_move (ev_hit hN rfl) ?_
        refine g_true (j := 33) (dj := 50) (b := true) rfl rfl rfl (ev_hit hN rfl) ?_
        refine op_move (ev_hit hN rfl) ?_
        refine g_true (j := 33) (dj := 50) (b := true) rfl rfl rfl (ev_hit hN rfl) ?_
        refine op_eql (ev_hit hN rfl) rfl (fun c52 => ?_) (fun c52 => ?_)
        · -- 52T
         refine op_pick_t (ev_hit hN rfl) (ev_hit hN rfl) ?_
         refine op_move (ev_hit hN rfl) ?_
         refine g_true (j := 37) (dj := 54) (b := true) rfl rfl rfl (ev_hit hN rfl) ?_
         refine op_move (ev_hit hN rfl) ?_
         refine g_true (j := 37) (dj := 54) (b := true) rfl rfl rfl (ev_hit hN rfl) ?_
         refine op_eql (ev_hit hN rfl) rfl (fun c56 => ?_) (fun c56 => ?_)
         · -- 56T
          refine op_pick_t (ev_hit hN rfl) (ev_hit hN rfl) ?_
          refine op_move (ev_hit hN rfl) ?_
          refine g_true (j := 41) (dj := 58) (b := true) rfl rfl rfl (ev_hit hN rfl) ?_
          refine op_move (ev_hit hN rfl) ?_
          refine g_true (j := 41) (dj := 58) (b := true) rfl rfl rfl (ev_hit hN rfl) ?_
          refine op_len_rd Try.underlying23 (ev_hit hN rfl) hO16.rdw ?_
          refine g_true (j := 41) (dj := 58) (b := true) rfl rfl rfl (ev_hit hN rfl) ?_
          refine op_eql (ev_hit hN rfl) rfl (fun c61 => ?_) (fun c61 => ?_)
          · -- 61T
           refine op_pick_t (ev_hit hN rfl) (ev_hit hN rfl) ?_
           refine op_move (ev_hit hN rfl) ?_
           refine g_true (j := 46) (dj := 63) (b := true) rfl rfl rfl (ev_hit hN rfl) ?_
           refine op_move (ev_hit hN rfl) ?_
           refine g_true (j := 46) (dj := 63) (b := true) rfl rfl rfl (ev_hit hN rfl) ?_
           refine op_index_rd slt23 (ev_hit hN rfl) hO16.rdw rfl (by omega) (by omega) ?_
           intro b39 o40 h0b39 h1b39 hc41
           refine g_true (j := 46) (dj := 63) (b := true) rfl rfl rfl (ev_hit hN rfl) ?_
           refine op_load1 (v := (Value.int .u16 (((takeL [1, 0, 7]).1.getD 0 0).toNat : Int))) one35 (ev_hit hN rfl) (by have := hc41 0 (Value.int .u16 (((takeL [1, 0, 7]).1.getD 0 0).toNat : Int)) (by decide) (el_u16 (i := 0) (by omega) (by omega)); simpa using this) ?_
           refine g_true (j := 46) (dj := 63) (b := true) rfl rfl rfl (ev_hit hN rfl) ?_
           refine op_eql (ev_hit hN rfl) rfl (fun c67 => ?_) (fun c67 => ?_)
           · -- 67T
            refine op_pick_t (ev_hit hN rfl) (ev_hit hN rfl) ?_
            refine op_move (ev_hit hN rfl) ?_
            refine g_true (j := 52) (dj := 69) (b := true) rfl rfl rfl (ev_hit hN rfl) ?_
            refine op_move (ev_hit hN rfl) ?_
            refine g_true (j := 52) (dj := 69) (b := true) rfl rfl rfl (ev_hit hN rfl) ?_
            refine op_fn (vs := [(Value.slice none 0 0), v7]) ok31 ⟨rfl, ⟨(ev_hit hN rfl), trivial⟩⟩ (lcmpW_ret ([] : Lb) (normL [3, 1, 3]) _ _ _ (by first | assumption | omega | (simp only [List.length_append, List.length_cons, List.length_nil, List.length_drop, List.length_take]; omega) | (dsimp only; omega) | decide | (simp [keyV, be8_len]; done)) (by first | assumption | omega | (simp only [List.length_append, List.length_cons, List.length_nil, List.length_drop, List.length_take]; omega) | (dsimp only; omega) | decide | (simp [keyV, be8_len]; done)) (show RdC w35 0 w35.heap.size 1 (Value.slice none 0 0) ([] : Lb).length (([] : Lb).map u16v) from by have hh : RdC w35 0 w35.heap.size 1 _ _ _ := ((RdC.nil _ 0 0 1).mono (L' := 0) (B' := w35.heap.size) (Nat.zero_le _) (by omega)); first | exact hh | exact hh.cast (by first | omega | (simp; try omega)) (by first | rfl | simp [u16v])) (show RdC w35 0 w35.heap.size 1 v7 (normL [3, 1, 3]).length ((normL [3, 1, 3]).map u16v) from by have hh : RdC w35 0 w35.heap.size 1 _ _ _ := (hO7.rdw.mono (L' := 0) (B' := w35.heap.size) (Nat.zero_le _) (by omega)); first | exact hh | exact hh.cast (by first | omega | (simp; try omega)) (by first | rfl | simp [u16v]))) ?_
            rintro _ w42 ⟨E43, rfl⟩
            have E43 := grown_of_below E43
            have z_w42 := E43.size
            have hB6 := hB6.keep0 E43
            have hO7 := hO7.keep0 E43
            have hB14 := hB14.keep0 E43
            have hO16 := hO16.keep0 E43
            have hB33 := hB33.keep0 E43
            have hO34 := hO34.keep0 E43
            have hb := below_step0 hb E43 hb.size
            refine g_true (j := 52) (dj := 69) (b := true) rfl rfl rfl (ev_hit hN rfl) ?_
            refine op_eql (ev_hit hN rfl) rfl (fun c72 => ?_) (fun c72 => ?_)
            · -- 72T
             refine op_pick_t (ev_hit hN rfl) (ev_hit hN rfl) ?_
             refine op_assign (ev_hit hN rfl) ?_
             refine reg_nil ?_
             refine hK20 _ _ ?_
             refine wp_ret ?_
             refine ret1 rfl hd (ev_hit hN rfl) ⟨_, rfl, ?_⟩
             -- path 18T 22T 28T 32T 36T 40F 48T 52T 56T 61T 67T 72T
             exact ⟨hb, rfl⟩
            · -- 72F
             exact absurd c72 (by decide +kernel)
           · -- 67F
            exact absurd c67 (by decide +kernel)
          · -- 61F
           exact absurd c61 (by decide +kernel)
         · -- 56F
          exact absurd c56 (by decide +kernel)
        · -- 52F
         exact absurd c52 (by decide +kernel)
       · -- 48F
        exact absurd c48 (by decide +kernel)
     · -- 36F
      exact absurd c36 (by decide +kernel)
    · -- 32F
     exact absurd c32 (by decide +kernel)
   · -- 28F
    exact absurd c28 (by decide +kernel)
  · -- 22F
   exact absurd c22 (by decide +kernel)
 · -- 18F
  exact absurd c18 (by decide +kernel)

theorem LabelMakes_ret (l : Lb) (vl : Value) (w : World) (hll : l.length ≤ 9223372036854775807) (hrl : RdC w 0 w.heap.size 1 vl l.length (l.map u16v)) : Ret Try.prog 6 #[vl] w (fun v' w' => Below w.heap.size w w' ∧ v' = .bool true) := by
 have hb := Below.refl w.heap.size w
 refine enter (N := 58) Try.func6 rfl rfl (by simp) fun a0 hN hd hA => ?_
 have s0 : a0.tmps.getD 0 undef = vl := hA 0 (by simp)
 clear hA
 refine seq_any fun K44 hK44 => ?_
 refine one_reg ?_
 refine op_assign rfl ?_
 refine reg_nil ?_
 refine hK44 _ _ ?_
 refine seq_any fun K45 hK45 => ?_
 refine seq_any fun K46 hK46 => ?_
 refine one_reg ?_
 refine op_fn (vs := []) ok23 trivial (begun1_ret _) ?_
 rintro _ w47 ⟨E48, rfl⟩
 have E48 := grown_of_below E48
 have z_w47 := E48.size
 have hrl := hrl.keep0 E48
 have hb := below_step0 hb E48 hb.size
 refine op_not (ev_hit hN rfl) ?_
 refine reg_nil ?_
 refine hK46 _ _ ?_
 refine wp_cond_false (ev_hit hN rfl) ?_
 refine wp_skip ?_
 refine hK45 _ _ ?_
 refine seq_any fun K49 hK49 => ?_
 refine seq_any fun K50 hK50 => ?_
 refine one_reg ?_
 refine op_move (ev_base hN rfl s0) ?_
 refine op_len_rd Try.underlying22 (ev_hit hN rfl) hrl ?_
 refine op_gtr (ev_hit hN rfl) rfl (fun c14 => ?_) (fun c14 => ?_)
 · -- 14T
  refine reg_nil ?_
  refine hK50 _ _ ?_
  refine wp_cond_true (ev_hit hN rfl) ?_
  refine seq_any fun K51 hK51 => ?_
  refine one_reg ?_
  refine op_assign rfl ?_
  refine reg_nil ?_
  refine hK51 _ _ ?_
  refine wp_ret (then_ret ( ?_))
  refine ret1 rfl hd (ev_hit hN rfl) ⟨_, rfl, ?_⟩
  -- path 14T
  exact ⟨hb, rfl⟩
 · -- 14F
  refine reg_nil ?_
  refine hK50 _ _ ?_
  refine wp_cond_false (ev_hit hN rfl) ?_
  refine wp_skip ?_
  refine hK49 _ _ ?_
  refine seq_any fun K52 hK52 => ?_
  refine one_reg ?_
  refine op_bslice (e := 35) (pv := []) (cs := []) trivial (by kernel_rfl) ?_
  intro w53 b54 lo_b54 hi_b54 hB56 E55
  have z_w53 := E55.size
  have hrl := hrl.keep0 E55
  have hb := below_step0 hb E55 hb.size
  refine op_move (ev_base hN rfl s0) ?_
  have hP62 := (Own.ofBx (base := w.heap.size) (sz := 1) (n := 0) hB56 rfl (by decide) (by omega))
  refine op_append slt22 (ev_hit hN rfl) hP62 (ev_hit hN rfl) (Src.ofRd Try.underlying22 (by decide) hrl (one_u16 _)) (by unfold maxLen; omega) (by omega) hb.size ?_
  intro v57 w58 hO60 E59 hm61
  have z_w58 := E59.size
  have hrl := hrl.keepO hP62 E59 (by omega)
  have hb := below_stepO hb hP62 E59 hb.size (by omega)
  have hO60 : Own w58 w.heap.size 35 1 v57 (0 + l.length) ((l).map u16v) := by simpa [u8v, u16v, cellsV] using hO60
  refine op_assign (ev_hit hN rfl) ?_
  refine reg_nil ?_
  refine hK52 _ _ ?_
  refine seq_any fun K63 hK63 => ?_
  refine one_reg ?_
  refine op_move (ev_base hN rfl s0) ?_
  refine op_fn (vs := [vl]) ok24 ⟨(ev_hit hN rfl), trivial⟩ (normW_ret l _ _ (by first | assumption | omega | (simp only [List.length_append, List.length_cons, List.length_nil, List.length_drop, List.length_take]; omega) | (dsimp only; omega) | decide | (simp [keyV, be8_len]; done)) (show RdC w58 0 w58.heap.size 1 vl l.length (l.map u16v) from by have hh : RdC w58 0 w58.heap.size 1 _ _ _ := (hrl.mono (L' := 0) (B' := w58.heap.size) (Nat.zero_le _) (by omega)); first | exact hh | exact hh.cast (by first | omega | (simp; try omega)) (by first | rfl | simp [u16v]))) ?_
  rintro _ w65 ⟨E66, v64, rfl, hO64⟩
  have dj67 : DJ v64 v57 := fun k hk hg => by have q1 := (hO64.lt k hk).1; have q2 := (hO60.lt k hg).2; omega
  have E66 := grown_of_below E66
  have z_w65 := E66.size
  have hrl := hrl.keep0 E66
  have hO60 := hO60.keep0 E66
  have hb := below_step0 hb E66 hb.size
  have hO64 := hO64.mono (base' := w.heap.size) (by omega)
  have hnl64 := normL_len l
  refine op_move (ev_hit hN rfl) ?_
  refine op_extract (ev_hit hN rfl) rfl ?_
  refine op_extract (ev_hit hN rfl) rfl ?_
  refine op_assign (ev_hit hN rfl) ?_
  refine op_assign (ev_hit hN rfl) ?_
  refine reg_nil ?_
  refine hK63 _ _ ?_
  refine seq_any fun K68 hK68 => ?_
  refine one_reg ?_
  refine op_move (ev_hit hN rfl) ?_
  refine op_fn (vs := [v57]) ok25 ⟨(ev_hit hN rfl), trivial⟩ (rnormW_ret l _ _ (by first | assumption | omega | (simp only [List.length_append, List.length_cons, List.length_nil, List.length_drop, List.length_take]; omega) | (dsimp only; omega) | decide | (simp [keyV, be8_len]; done)) (show RdC w65 0 w65.heap.size 1 v57 l.length (l.map u16v) from by have hh : RdC w65 0 w65.heap.size 1 _ _ _ := (hO60.rdw.mono (L' := 0) (B' := w65.heap.size) (Nat.zero_le _) (by omega)); first | exact hh | exact hh.cast (by first | omega | (simp; try omega)) (by first | rfl | simp [u16v]))) ?_
  rintro _ w70 ⟨E71, v69, rfl, hO69⟩
  have dj72 : DJ v69 v57 := fun k hk hg => by have q1 := (hO69.lt k hk).1; have q2 := (hO60.lt k hg).2; omega
  have dj73 : DJ v69 v64 := fun k hk hg => by have q1 := (hO69.lt k hk).1; have q2 := (hO64.lt k hg).2; omega
  have E71 := grown_of_below E71
  have z_w70 := E71.size
  have hrl := hrl.keep0 E71
  have hO60 := hO60.keep0 E71
  have hO64 := hO64.keep0 E71
  have hb := below_step0 hb E71 hb.size
  have hO69 := hO69.mono (base' := w.heap.size) (by omega)
  have hnl69 := normL_len l
  refine op_move (ev_hit hN rfl) ?_
  refine op_extract (ev_hit hN rfl) rfl ?_
  refine op_extract (ev_hit hN rfl) rfl ?_
  refine op_assign (ev_hit hN rfl) ?_
  refine op_assign (ev_hit hN rfl) ?_
  refine reg_nil ?_
  refine hK68 _ _ ?_
  refine seq_any fun K74 hK74 => ?_
  refine one_reg ?_
  refine op_move (ev_hit hN rfl) ?_
  refine op_move (ev_hit hN rfl) ?_
  refine op_eql (ev_hit hN rfl) (ev_hit hN rfl) (fun c30 => ?_) (fun c30 => ?_)
  · -- 30T
   refine op_move (ev_hit hN rfl) ?_
   refine g_true (j := 3) (dj := 31) (b := true) rfl rfl rfl (ev_hit hN rfl) ?_
   refine op_move (ev_hit hN rfl) ?_
   refine g_true (j := 3) (dj := 31) (b := true) rfl rfl rfl (ev_hit hN rfl) ?_
   refine op_move (ev_hit hN rfl) ?_
   refine g_true (j := 3) (dj := 31) (b := true) rfl rfl rfl (ev_hit hN rfl) ?_
   refine op_fn (vs := [v64, v69]) ok19 ⟨(ev_hit hN rfl), ⟨(ev_hit hN rfl), trivial⟩⟩ (sameL_ret (normL l) (normL l) _ _ _ (by first | assumption | omega | (simp only [List.length_append, List.length_cons, List.length_nil, List.length_drop, List.length_take]; omega) | (dsimp only; omega) | decide | (simp [keyV, be8_len]; done)) (by first | assumption | omega | (simp only [List.length_append, List.length_cons, List.length_nil, List.length_drop, List.length_take]; omega) | (dsimp only; omega) | decide | (simp [keyV, be8_len]; done)) (show RdC w70 0 w70.heap.size 1 v64 (normL l).length ((normL l).map u16v) from by have hh : RdC w70 0 w70.heap.size 1 _ _ _ := (hO64.rdw.mono (L' := 0) (B' := w70.heap.size) (Nat.zero_le _) (by omega)); first | exact hh | exact hh.cast (by first | omega | (simp; try omega)) (by first | rfl | simp [u16v])) (show RdC w70 0 w70.heap.size 1 v69 (normL l).length ((normL l).map u16v) from by have hh : RdC w70 0 w70.heap.size 1 _ _ _ := (hO69.rdw.mono (L' := 0) (B' := w70.heap.size) (Nat.zero_le _) (by omega)); first | exact hh | exact hh.cast (by first | omega | (simp; try omega)) (by first | rfl | simp [u16v]))) ?_
   rintro _ w75 ⟨E76, rfl⟩
   have E76 := grown_of_below E76
   have z_w75 := E76.size
   have hrl := hrl.keep0 E76
   have hO60 := hO60.keep0 E76
   have hO64 := hO64.keep0 E76
   have hO69 := hO69.keep0 E76
   have hb := below_step0 hb E76 hb.size
   rcases Bool.eq_false_or_eq_true ((decide ((normL l) = (normL l)))) with c34 | c34
   · -- 34T
    rw [c34]
    refine op_pick_t (ev_hit hN rfl) (ev_hit hN rfl) ?_
    refine op_move (ev_hit hN rfl) ?_
    refine g_true (j := 8) (dj := 36) (b := true) rfl rfl rfl (ev_hit hN rfl) ?_
    refine op_move (ev_base hN rfl s0) ?_
    refine g_true (j := 8) (dj := 36) (b := true) rfl rfl rfl (ev_hit hN rfl) ?_
    refine op_fn (vs := [vl]) ok26 ⟨(ev_hit hN rfl), trivial⟩ (labMay_ret l _ _ (by first | assumption | omega | (simp only [List.length_append, List.length_cons, List.length_nil, List.length_drop, List.length_take]; omega) | (dsimp only; omega) | decide | (simp [keyV, be8_len]; done)) (show RdC w75 0 w75.heap.size 1 vl l.length (l.map u16v) from by have hh : RdC w75 0 w75.heap.size 1 _ _ _ := (hrl.mono (L' := 0) (B' := w75.heap.size) (Nat.zero_le _) (by omega)); first | exact hh | exact hh.cast (by first | omega | (simp; try omega)) (by first | rfl | simp [u16v]))) ?_
    rintro _ w77 ⟨E78, rfl⟩
    have E78 := grown_of_below E78
    have z_w77 := E78.size
    have hrl := hrl.keep0 E78
    have hO60 := hO60.keep0 E78
    have hO64 := hO64.keep0 E78
    have hO69 := hO69.keep0 E78
    have hb := below_step0 hb E78 hb.size
    refine g_true (j := 8) (dj := 36) (b := true) rfl rfl rfl (ev_hit hN rfl) ?_
    refine op_move (ev_hit hN rfl) ?_
    refine g_true (j := 8) (dj := 36) (b := true) rfl rfl rfl (ev_hit hN rfl) ?_
    refine op_fn (vs := [v57]) ok13 ⟨(ev_hit hN rfl), trivial⟩ (refMay_ret l _ _ (by first | assumption | omega | (simp only [List.length_append, List.length_cons, List.length_nil, List.length_drop, List.length_take]; omega) | (dsimp only; omega) | decide | (simp [keyV, be8_len]; done)) (show RdC w77 0 w77.heap.size 1 v57 l.length (l.map u16v) from by have hh : RdC w77 0 w77.heap.size 1 _ _ _ := (hO60.rdw.mono (L' := 0) (B' := w77.heap.size) (Nat.zero_le _) (by omega)); first | exact hh | exact hh.cast (by first | omega | (simp; try omega)) (by first | rfl | simp [u16v]))) ?_
    rintro _ w79 ⟨E80, rfl⟩
    have E80 := grown_of_below E80
    have z_w79 := E80.size
    have hrl := hrl.keep0 E80
    have hO60 := hO60.keep0 E80
    have hO64 := hO64.keep0 E80
    have hO69 := hO69.keep0 E80
    have hb := below_step0 hb E80 hb.size
    refine g_true (j := 8) (dj := 36) (b := true) rfl rfl rfl (ev_hit hN rfl) ?_
    refine op_eqb Try.underlying4 (ev_hit hN rfl) (ev_hit hN rfl) ?_
    rcases Bool.eq_false_or_eq_true (((mayL l) == (mayL l))) with c41 | c41
    · -- 41T
     rw [c41]
     refine op_pick_t (ev_hit hN rfl) (ev_hit hN rfl) ?_
     refine op_assign (ev_hit hN rfl) ?_
     refine reg_nil ?_
     refine hK74 _ _ ?_
     refine seq_any fun K81 hK81 => ?_
     refine seq_any fun K82 hK82 => ?_
     refine one_reg ?_
     refine op_assign rfl ?_
     refine reg_nil ?_
     refine hK82 _ _ ?_
     refine wp_block ?_
     refine loop_m (fun mz_ az_ w' => ∃ (i : Nat) (cs1 : List Value), mz_ = (normL l).length - i ∧ (az_.tmps.getD 0 undef = vl) ∧ (az_.tmps.getD 2 undef = (Value.bool false)) ∧ (az_.tmps.getD 3 undef = v57) ∧ (az_.tmps.getD 4 undef = v64) ∧ (az_.tmps.getD 8 undef = (Value.bool true)) ∧ (az_.tmps.getD 9 undef = (Value.int .i64 ((i : Nat) : Int))) ∧ (i ≤ (normL l).length) ∧ (Below w.heap.size w w') ∧ (w79.heap.size ≤ w'.heap.size) ∧ (RdC w' 0 w.heap.size 1 vl l.length (l.map u16v)) ∧ (Own w' w.heap.size 35 1 v57 (0 + l.length) ((l).map u16v)) ∧ (Own w' w.heap.size 35 1 v69 (normL l).length ((normL l).map u16v)) ∧ (Own w' w.heap.size 35 1 v64 (normL l).length (cs1))) _ hN hd ⟨0, _, rfl, (sl_base hN rfl s0), (sl_hit hN rfl), (sl_hit hN rfl), (sl_hit hN rfl), (sl_hit hN rfl), (sl_hit hN rfl).trans (congrArg (Value.int .i64) (by omega)), Nat.zero_le _, hb, (Nat.le_refl _), hrl, hO60, hO69, hO64⟩ ?_
     rintro _ a83 w83 hN83 hd83 ⟨i, cs1, rfl, s83_0, s83_2, s83_3, s83_4, s83_8, s83_9, hi, hb, zl_w83, hrl, hO60, hO69, hO84⟩
     have z_w83 := hb.size
     refine seq_any fun K85 hK85 => ?_
     refine seq_any fun K86 hK86 => ?_
     refine one_reg ?_
     refine op_move (ev_base hN83 rfl s83_9) ?_
     refine op_move (ev_base hN83 rfl s83_4) ?_
     refine op_len_rd Try.underlying23 (ev_hit hN83 rfl) hO84.rdw ?_
     refine op_lss (ev_hit hN83 rfl) (ev_hit hN83 rfl) (fun c46 => ?_) (fun c46 => ?_)
     · -- 46T
      refine reg_nil ?_
      refine hK86 _ _ ?_
      refine wp_cond_true (ev_hit hN83 rfl) ?_
      refine wp_skip ?_
      refine hK85 _ _ ?_
      refine seq_any fun K87 hK87 => ?_
      refine wp_block ?_
      refine one_reg ?_
      refine op_move (ev_base hN83 rfl s83_4) ?_
      refine op_move (ev_base hN83 rfl s83_9) ?_
      refine op_index_own (i := i) slt23 (ev_hit hN83 rfl) hO84 (ev_hit hN83 rfl) (by omega) (by omega) ?_
      intro b88 o89 lo_b88 hA90
      have hA90 : AtV v64 (i) b88 o89 := by simpa using hA90
      have hP93 := hO84
      refine op_store_own (vs := [(Value.int .u16 777)]) size35 (ev_hit hN83 rfl) rfl rfl rfl rfl hP93 hA90 (by have := hP93.1; simp; omega) ?_
      intro w91 hO94 E92
      have z_w91 := E92.size
      have hrl := hrl.keepO hP93 E92 (by omega)
      have hO60 := hO60.keepD E92 dj67.symm
      have hO69 := hO69.keepD E92 dj73
      have hb := below_stepO hb hP93 E92 hb.size (by omega)
      have hO94 : Own w91 w.heap.size 35 1 v64 (normL l).length ((cs1.take (i) ++ [(Value.int .u16 777)] ++ cs1.drop (i + 1))) := by simpa using hO94
      refine reg_nil ?_
      refine hK87 _ _ ?_
      refine one_reg ?_
      refine op_move (ev_base hN83 rfl s83_9) ?_
      refine op_add (ev_hit hN83 rfl) rfl (add64 (by omega)) ?_
      refine op_assign (ev_hit hN83 rfl) ?_
      refine reg_nil ?_
      -- round 14F 30T 34T 41T 46T
      exact loop_next _ hN83 hd83 ⟨i + 1, _, rfl, (sl_base hN83 rfl s83_0), (sl_base hN83 rfl s83_2), (sl_base hN83 rfl s83_3), (sl_base hN83 rfl s83_4), (sl_base hN83 rfl s83_8), (sl_hit hN83 rfl).trans (congrArg (Value.int .i64) (by omega)), (by omega), hb, (by omega), hrl, hO60, hO69, hO94⟩ (by omega)
     · -- 46F
      refine reg_nil ?_
      refine hK86 _ _ ?_
      refine wp_cond_false (ev_hit hN83 rfl) ?_
      refine wp_exit (then_exit (then_exit (blk_hit ?_)))
      refine hK81 _ _ ?_
      refine seq_any fun K95 hK95 => ?_
      refine one_reg ?_
      refine op_move (ev_base hN83 rfl s83_8) ?_
      refine op_move (ev_hit hN83 rfl) ?_
      refine g_true (j := 1) (dj := 53) (b := true) rfl rfl rfl (ev_hit hN83 rfl) ?_
      refine op_move (ev_base hN83 rfl s83_0) ?_
      refine g_true (j := 1) (dj := 53) (b := true) rfl rfl rfl (ev_hit hN83 rfl) ?_
      refine op_move (ev_base hN83 rfl s83_3) ?_
      refine g_true (j := 1) (dj := 53) (b := true) rfl rfl rfl (ev_hit hN83 rfl) ?_
      refine op_fn (vs := [vl, v57]) ok19 ⟨(ev_hit hN83 rfl), ⟨(ev_hit hN83 rfl), trivial⟩⟩ (sameL_ret l l _ _ _ (by first | assumption | omega | (simp only [List.length_append, List.length_cons, List.length_nil, List.length_drop, List.length_take]; omega) | (dsimp only; omega) | decide | (simp [keyV, be8_len]; done)) (by first | assumption | omega | (simp only [List.length_append, List.length_cons, List.length_nil, List.length_drop, List.length_take]; omega) | (dsimp only; omega) | decide | (simp [keyV, be8_len]; done)) (show RdC w83 0 w83.heap.size 1 vl l.length (l.map u16v) from by have hh : RdC w83 0 w83.heap.size 1 _ _ _ := (hrl.mono (L' := 0) (B' := w83.heap.size) (Nat.zero_le _) (by omega)); first | exact hh | exact hh.cast (by first | omega | (simp; try omega)) (by first | rfl | simp [u16v])) (show RdC w83 0 w83.heap.size 1 v57 l.length (l.map u16v) from by have hh : RdC w83 0 w83.heap.size 1 _ _ _ := (hO60.rdw.mono (L' := 0) (B' := w83.heap.size) (Nat.zero_le _) (by omega)); first | exact hh | exact hh.cast (by first | omega | (simp; try omega)) (by first | rfl | simp [u16v]))) ?_
      rintro _ w96 ⟨E97, rfl⟩
      have E97 := grown_of_below E97
      have z_w96 := E97.size
      have hrl := hrl.keep0 E97
      have hO60 := hO60.keep0 E97
      have hO69 := hO69.keep0 E97
      have hO84 := hO84.keep0 E97
      have hb := below_step0 hb E97 hb.size
      rcases Bool.eq_false_or_eq_true ((decide (l = l))) with c56 | c56
      · -- 56T
       rw [c56]
       refine op_pick_t (ev_hit hN83 rfl) (ev_hit hN83 rfl) ?_
       refine op_assign (ev_hit hN83 rfl) ?_
       refine reg_nil ?_
       refine hK95 _ _ ?_
       refine wp_ret ?_
       refine ret1 rfl hd83 (ev_hit hN83 rfl) ⟨_, rfl, ?_⟩
       -- path 14F 30T 34T 41T 46F 56T
       exact ⟨hb, rfl⟩
      · -- 56F
       exact absurd c56 (by simp)
    · -- 41F
     exact absurd c41 (by simp)
   · -- 34F
    exact absurd c34 (by simp)
  · -- 30F
   exact absurd rfl c30

end Go.Proofs.Ytpmnljffdofkeaa

/- Walks, written by a program: what each function of the translation hands back. -/
namespace Go.Proofs.Ytpmnljffdofkeaa
open Go.Gx Go.RowKit
attribute [local irreducible] wpList wpStill Code.wp Calls

theorem Twin_ret (bl : List UInt8) (v : Value) (w : World) (hl : bl.length ≤ 140000000000000) (hv : RdC w 0 w.heap.size 1 v bl.length (bl.map u8v)) : Ret Try.prog 33 #[v] w (fun v' w' => Below w.heap.size w w' ∧ ∃ g, v' = .slice (some ⟨g, 0, none⟩) bl.length (bl.length + 3) ∧ w.heap.size ≤ g ∧ g < w'.heap.size ∧ Bx w' g 5 ((bl ++ [229, 229, 229]).map u8v)) := by
 have hb := Below.refl w.heap.size w
 refine enter (N := 27) Try.func33 rfl rfl (by simp) fun a0 hN hd hA => ?_
 have s0 : a0.tmps.getD 0 undef = v := hA 0 (by simp)
 clear hA
 refine seq_any fun K1 hK1 => ?_
 refine one_reg ?_
 refine op_assign rfl ?_
 refine reg_nil ?_
 refine hK1 _ _ ?_
 refine seq_any fun K2 hK2 => ?_
 refine one_reg ?_
 refine op_move (ev_base hN rfl s0) ?_
 refine op_len_rd Try.underlying39 (ev_hit hN rfl) hv ?_
 refine op_add (ev_hit hN rfl) rfl (add64 (by omega)) ?_
 refine op_make_row (n := (bl.length + 3)) slt39 ((ev_hit hN rfl).trans (congrArg (Value.int _) (by omega))) ((ev_hit hN rfl).trans (congrArg (Value.int _) (by omega))) rfl (by omega) (by omega) ?_
 intro w3 b8 lo_b8 hi_b8 hB9 E4
 have z_w3 := E4.size
 have hv := hv.keep0 E4
 have hb := below_step0 hb E4 hb.size
 have hB9 : Bx w3 b8 5 (((List.replicate (bl.length + 3) (0 : UInt8)).map u8v)) := by simpa [u8v] using hB9
 refine op_assign (ev_hit hN rfl) ?_
 refine reg_nil ?_
 refine hK2 _ _ ?_
 refine seq_any fun K10 hK10 => ?_
 refine one_reg ?_
 refine op_move (ev_hit hN rfl) ?_
 refine op_move (ev_base hN rfl s0) ?_
 have hB9_old := hB9
 refine op_copy_row slt39 (ev_hit hN rfl) hB9 (by simp) (ev_hit hN rfl) (m := ((bl.length : Nat) : Int)) hv (by simp) (by simp [Value.oneCell', u8v]) ?_
 intro w11 hB9 E12
 have z_w11 := E12.size
 have hv := hv.keep E12 (fun k hk => .inr (by simp at hk; omega))
 have hb := below_step1 hb E12 hb.size (by omega)
 have hB9 : Bx w11 b8 5 (((bl ++ [0, 0, 0]).map u8v)) := by rw [twin_copy] at hB9; exact hB9
 refine reg_nil ?_
 refine hK10 _ _ ?_
 refine seq_any fun K13 hK13 => ?_
 refine seq_any fun K14 hK14 => ?_
 refine one_reg ?_
 refine op_move (ev_base hN rfl s0) ?_
 refine op_len_rd Try.underlying39 (ev_hit hN rfl) hv ?_
 refine op_assign (ev_hit hN rfl) ?_
 refine reg_nil ?_
 refine hK14 _ _ ?_
 refine wp_block ?_
 refine wp_loop_rounds 4 ?_
 refine rounds_any fun K15 hK15 => ?_
 refine seq_any fun K16 hK16 => ?_
 refine seq_any fun K17 hK17 => ?_
 refine one_reg ?_
 refine op_move (ev_hit hN rfl) ?_
 refine op_move (ev_hit hN rfl) ?_
 refine op_len_rd Try.underlying39 (ev_hit hN rfl) (show RdC w11 b8 (b8 + 1) 1 (Value.slice (some ⟨b8, 0, none⟩) (bl.length + 3) (bl.length + 3)) (bl.length + 3) (((bl ++ [0, 0, 0]).map u8v)) from RdC.ofRowAll (c := (bl.length + 3)) hB9 (by simp) (by omega) (by unfold maxLen; omega)) ?_
 refine op_lss (ev_hit hN rfl) (ev_hit hN rfl) (fun c17 => ?_) (fun c17 => ?_)
 · -- 17T
  refine reg_nil ?_
  refine hK17 _ _ ?_
  refine wp_cond_true (ev_hit hN rfl) ?_
  refine wp_skip ?_
  refine hK16 _ _ ?_
  refine seq_any fun K18 hK18 => ?_
  refine wp_block ?_
  refine one_reg ?_
  refine op_move (ev_hit hN rfl) ?_
  refine op_move (ev_hit hN rfl) ?_
  refine op_index_row (i := (bl.length)) slt39 (ev_hit hN rfl) (ev_hit hN rfl) (by omega) (by omega) ?_
  have hB9_old := hB9
  refine op_store_row (v := (Value.int .u8 229)) size5 (ev_hit hN rfl) rfl rfl rfl hB9 (by first | (simp; done) | (simp; omega)) ?_
  intro w19 hB9 E20
  have z_w19 := E20.size
  have hv := hv.keep E20 (fun k hk => .inr (by simp at hk; omega))
  have hb := below_step1 hb E20 hb.size (by omega)
  have hB9 : Bx w19 b8 5 (((bl ++ [229, 0, 0]).map u8v)) := by exact (congrArg (Bx _ _ _) (set_tail bl [0, 0, 0] 0 229)).mp hB9
  refine reg_nil ?_
  refine hK18 _ _ ?_
  refine one_reg ?_
  refine op_move (ev_hit hN rfl) ?_
  refine op_add (ev_hit hN rfl) rfl (add64 (by omega)) ?_
  refine op_assign (ev_hit hN rfl) ?_
  refine reg_nil ?_
  refine hK15 _ _ ?_
  refine rounds_any fun K21 hK21 => ?_
  refine seq_any fun K22 hK22 => ?_
  refine seq_any fun K23 hK23 => ?_
  refine one_reg ?_
  refine op_move (ev_hit hN rfl) ?_
  refine op_move (ev_hit hN rfl) ?_
  refine op_len_rd Try.underlying39 (ev_hit hN rfl) (show RdC w19 b8 (b8 + 1) 1 (Value.slice (some ⟨b8, 0, none⟩) (bl.length + 3) (bl.length + 3)) (bl.length + 3) (((bl ++ [229, 0, 0]).map u8v)) from RdC.ofRowAll (c := (bl.length + 3)) hB9 (by simp) (by omega) (by unfold maxLen; omega)) ?_
  refine op_lss (ev_hit hN rfl) (ev_hit hN rfl) (fun c17 => ?_) (fun c17 => ?_)
  · -- 17T
   refine reg_nil ?_
   refine hK23 _ _ ?_
   refine wp_cond_true (ev_hit hN rfl) ?_
   refine wp_skip ?_
   refine hK22 _ _ ?_
   refine seq_any fun K24 hK24 => ?_
   refine wp_block ?_
   refine one_reg ?_
   refine op_move (ev_hit hN rfl) ?_
   refine op_move (ev_hit hN rfl) ?_
   refine op_index_row (i := ((bl.length) + 1)) slt39 (ev_hit hN rfl) (ev_hit hN rfl) (by omega) (by omega) ?_
   have hB9_old := hB9
   refine op_store_row (v := (Value.int .u8 229)) size5 (ev_hit hN rfl) rfl rfl rfl hB9 (by first | (simp; done) | (simp; omega)) ?_
   intro w25 hB9 E26
   have z_w25 := E26.size
   have hv := hv.keep E26 (fun k hk => .inr (by simp at hk; omega))
   have hb := below_step1 hb E26 hb.size (by omega)
   have hB9 : Bx w25 b8 5 (((bl ++ [229, 229, 0]).map u8v)) := by exact (congrArg (Bx _ _ _) (set_tail bl [229, 0, 0] 1 229)).mp hB9
   refine reg_nil ?_
   refine hK24 _ _ ?_
   refine one_reg ?_
   refine op_move (ev_hit hN rfl) ?_
   refine op_add (ev_hit hN rfl) rfl (add64 (by omega)) ?_
   refine op_assign (ev_hit hN rfl) ?_
   refine reg_nil ?_
   refine hK21 _ _ ?_
   refine rounds_any fun K27 hK27 => ?_
   refine seq_any fun K28 hK28 => ?_
   refine seq_any fun K29 hK29 => ?_
   refine one_reg ?_
   refine op_move (ev_hit hN rfl) ?_
   refine op_move (ev_hit hN rfl) ?_
   refine op_len_rd Try.underlying39 (ev_hit hN rfl) (show RdC w25 b8 (b8 + 1) 1 (Value.slice (some ⟨b8, 0, none⟩) (bl.length + 3) (bl.length + 3)) (bl.length + 3) (((bl ++ [229, 229, 0]).map u8v)) from RdC.ofRowAll (c := (bl.length + 3)) hB9 (by simp) (by omega) (by unfold maxLen; omega)) ?_
   refine op_lss (ev_hit hN rfl) (ev_hit hN rfl) (fun c17 => ?_) (fun c17 => ?_)
   · -- 17T
    refine reg_nil ?_
    refine hK29 _ _ ?_
    refine wp_cond_true (ev_hit hN rfl) ?_
    refine wp_skip ?_
    refine hK28 _ _ ?_
    refine seq_any fun K30 hK30 => ?_
    refine wp_block ?_
    refine one_reg ?_
    refine op_move (ev_hit hN rfl) ?_
    refine op_move (ev_hit hN rfl) ?_
    refine op_index_row (i := (((bl.length) + 1) + 1)) slt39 (ev_hit hN rfl) (ev_hit hN rfl) (by omega) (by omega) ?_
    have hB9_old := hB9
    refine op_store_row (v := (Value.int .u8 229)) size5 (ev_hit hN rfl) rfl rfl rfl hB9 (by first | (simp; done) | (simp; omega)) ?_
    intro w31 hB9 E32
    have z_w31 := E32.size
    have hv := hv.keep E32 (fun k hk => .inr (by simp at hk; omega))
    have hb := below_step1 hb E32 hb.size (by omega)
    have hB9 : Bx w31 b8 5 (((bl ++ [229, 229, 229]).map u8v)) := by exact (congrArg (Bx _ _ _) (set_tail bl [229, 229, 0] 2 229)).mp hB9
    refine reg_nil ?_
    refine hK30 _ _ ?_
    refine one_reg ?_
    refine op_move (ev_hit hN rfl) ?_
    refine op_add (ev_hit hN rfl) rfl (add64 (by omega)) ?_
    refine op_assign (ev_hit hN rfl) ?_
    refine reg_nil ?_
    refine hK27 _ _ ?_
    refine rounds_any fun K33 hK33 => ?_
    refine seq_any fun K34 hK34 => ?_
    refine seq_any fun K35 hK35 => ?_
    refine one_reg ?_
    refine op_move (ev_hit hN rfl) ?_
    refine op_move (ev_hit hN rfl) ?_
    refine op_len_rd Try.underlying39 (ev_hit hN rfl) (show RdC w31 b8 (b8 + 1) 1 (Value.slice (some ⟨b8, 0, none⟩) (bl.length + 3) (bl.length + 3)) (bl.length + 3) (((bl ++ [229, 229, 229]).map u8v)) from RdC.ofRowAll (c := (bl.length + 3)) hB9 (by simp) (by omega) (by unfold maxLen; omega)) ?_
    refine op_lss (ev_hit hN rfl) (ev_hit hN rfl) (fun c17 => ?_) (fun c17 => ?_)
    · -- 17T
     exfalso; omega
    · -- 17F
     refine reg_nil ?_
     refine hK35 _ _ ?_
     refine wp_cond_false (ev_hit hN rfl) ?_
     refine wp_exit (then_exit (then_exit (blk_hit ?_)))
     refine hK13 _ _ ?_
     refine seq_any fun K36 hK36 => ?_
     refine one_reg ?_
     refine op_move (ev_hit hN rfl) ?_
     refine op_move (ev_base hN rfl s0) ?_
     refine op_len_rd Try.underlying39 (ev_hit hN rfl) hv ?_
     refine op_slice_row (m := bl.length) slt39 (ev_hit hN rfl) (ev_hit hN rfl) (by omega) (by omega) ?_
     refine op_assign (ev_hit hN rfl) ?_
     refine reg_nil ?_
     refine hK36 _ _ ?_
     refine wp_ret ?_
     refine ret1 rfl hd (ev_hit hN rfl) ⟨_, rfl, ?_⟩
     -- path 17T 17T 17T 17F
     exact ⟨hb, _, rfl, by omega, by have := hB9.lt; omega, hB9⟩
   · -- 17F
    exfalso; omega
  · -- 17F
   exfalso; omega
 · -- 17F
  exfalso; omega

theorem Kept_ret (tl bl : List UInt8) (g : Nat) (v : Value) (w : World) (htl : tl.length ≤ 140000000000000) (hl : bl.length ≤ 140000000000000) (hg : Bx w g 5 ((tl ++ [229, 229, 229]).map u8v)) (hv : RdC w 0 w.heap.size 1 v bl.length (bl.map u8v)) : Ret Try.prog 36 #[(Value.slice (some ⟨g, 0, none⟩) tl.length (tl.length + 3)), v] w (fun v' w' => Below w.heap.size w w' ∧ v' = .bool (decide (tl = bl))) := by
 have hg_lt := hg.lt
 have hlen : (tl ++ [229, 229, 229]).length = tl.length + 3 := by simp
 have hb := Below.refl w.heap.size w
 refine enter (N := 38) Try.func36 rfl rfl (by simp) fun a0 hN hd hA => ?_
 have s0 : a0.tmps.getD 0 undef = (Value.slice (some ⟨g, 0, none⟩) tl.length (tl.length + 3)) := hA 0 (by simp)
 have s1 : a0.tmps.getD 1 undef = v := hA 1 (by simp)
 clear hA
 refine seq_any fun K37 hK37 => ?_
 refine one_reg ?_
 refine op_assign rfl ?_
 refine reg_nil ?_
 refine hK37 _ _ ?_
 refine seq_any fun K38 hK38 => ?_
 refine one_reg ?_
 refine op_move (ev_base hN rfl s0) ?_
 refine op_move (ev_base hN rfl s0) ?_
 refine op_cap (c := (tl.length + 3)) Try.underlying39 (.inr ⟨_, _, (ev_hit hN rfl)⟩) ?_
 refine op_slice_row (m := (tl.length + 3)) slt39 (ev_hit hN rfl) (ev_hit hN rfl) (by omega) (by omega) ?_
 refine op_assign (ev_hit hN rfl) ?_
 refine reg_nil ?_
 refine hK38 _ _ ?_
 refine seq_any fun K39 hK39 => ?_
 refine seq_any fun K40 hK40 => ?_
 refine one_reg ?_
 refine op_move (ev_base hN rfl s0) ?_
 refine op_str_of (bl := tl) Try.underlying39 Try.underlying5 Try.underlying9 (ev_hit hN rfl) (show RdC w g (g + 1) 1 (Value.slice (some ⟨g, 0, none⟩) tl.length (tl.length + 3)) tl.length ((tl.map u8v)) from by simpa using (RdC.ofRow (sz := 1) (m := tl.length) (c := (tl.length + 3)) hg (by simp) (by omega) (by unfold maxLen; omega))) ?_
 refine op_move (ev_base hN rfl s1) ?_
 refine op_str_of (bl := bl) Try.underlying39 Try.underlying5 Try.underlying9 (ev_hit hN rfl) hv ?_
 refine op_sneq (ev_hit hN rfl) (ev_hit hN rfl) (fun c15 => ?_) (fun c15 => ?_)
 · -- 15T
  refine op_move (ev_hit hN rfl) ?_
  refine g_false (j := 5) (dj := 16) (b := false) rfl rfl rfl (ev_hit hN rfl) rfl rfl ?_
  refine g_false (j := 5) (dj := 16) (b := false) rfl rfl rfl (ev_hit hN rfl) rfl rfl ?_
  refine g_false (j := 5) (dj := 16) (b := false) rfl rfl rfl (ev_hit hN rfl) rfl rfl ?_
  refine g_false (j := 5) (dj := 16) (b := false) rfl rfl rfl (ev_hit hN rfl) rfl rfl ?_
  refine g_false (j := 5) (dj := 16) (b := false) rfl rfl rfl (ev_hit hN rfl) rfl rfl ?_
  refine g_false (j := 5) (dj := 16) (b := false) rfl rfl rfl (ev_hit hN rfl) rfl rfl ?_
  refine op_pick_t (ev_hit hN rfl) rfl ?_
  refine reg_nil ?_
  refine hK40 _ _ ?_
  refine wp_cond_true (ev_hit hN rfl) ?_
  refine seq_any fun K41 hK41 => ?_
  refine one_reg ?_
  refine op_assign rfl ?_
  refine reg_nil ?_
  refine hK41 _ _ ?_
  refine wp_ret (then_ret ( ?_))
  refine ret1 rfl hd (ev_hit hN rfl) ⟨_, rfl, ?_⟩
  -- path 15T
  exact ⟨hb, congrArg Value.bool (by simp [*])⟩
 · -- 15F
  refine op_move (ev_hit hN rfl) ?_
  refine g_true (j := 5) (dj := 16) (b := false) rfl rfl rfl (ev_hit hN rfl) ?_
  refine op_move (ev_hit hN rfl) ?_
  refine g_true (j := 5) (dj := 16) (b := false) rfl rfl rfl (ev_hit hN rfl) ?_
  refine op_len_rd Try.underlying39 (ev_hit hN rfl) (show RdC w g (g + 1) 1 (Value.slice (some ⟨g, 0, none⟩) (tl.length + 3) (tl.length + 3)) (tl.length + 3) (((tl ++ [229, 229, 229]).map u8v)) from RdC.ofRowAll (c := (tl.length + 3)) hg (by simp) (by omega) (by unfold maxLen; omega)) ?_
  refine g_true (j := 5) (dj := 16) (b := false) rfl rfl rfl (ev_hit hN rfl) ?_
  refine op_move (ev_base hN rfl s1) ?_
  refine g_true (j := 5) (dj := 16) (b := false) rfl rfl rfl (ev_hit hN rfl) ?_
  refine op_len_rd Try.underlying39 (ev_hit hN rfl) hv ?_
  refine g_true (j := 5) (dj := 16) (b := false) rfl rfl rfl (ev_hit hN rfl) ?_
  refine op_add (ev_hit hN rfl) rfl (add64 (by omega)) ?_
  refine g_true (j := 5) (dj := 16) (b := false) rfl rfl rfl (ev_hit hN rfl) ?_
  refine op_lss (ev_hit hN rfl) (ev_hit hN rfl) (fun c22 => ?_) (fun c22 => ?_)
  · -- 22T
   exfalso; have := congrArg List.length c15; omega
  · -- 22F
   refine op_pick_f (ev_hit hN rfl) (ev_hit hN rfl) ?_
   refine reg_nil ?_
   refine hK40 _ _ ?_
   refine wp_cond_false (ev_hit hN rfl) ?_
   refine wp_skip ?_
   refine hK39 _ _ ?_
   refine seq_any fun K42 hK42 => ?_
   refine seq_any fun K43 hK43 => ?_
   refine one_reg ?_
   refine op_move (ev_base hN rfl s1) ?_
   refine op_len_rd Try.underlying39 (ev_hit hN rfl) hv ?_
   refine op_assign (ev_hit hN rfl) ?_
   refine reg_nil ?_
   refine hK43 _ _ ?_
   refine wp_block ?_
   refine wp_loop_rounds 4 ?_
   refine rounds_any fun K44 hK44 => ?_
   refine seq_any fun K45 hK45 => ?_
   refine seq_any fun K46 hK46 => ?_
   refine one_reg ?_
   refine op_move (ev_hit hN rfl) ?_
   refine op_move (ev_base hN rfl s1) ?_
   refine op_len_rd Try.underlying39 (ev_hit hN rfl) hv ?_
   refine op_add (ev_hit hN rfl) rfl (add64 (by omega)) ?_
   refine op_lss (ev_hit hN rfl) (ev_hit hN rfl) (fun c30 => ?_) (fun c30 => ?_)
   · -- 30T
    refine reg_nil ?_
    refine hK46 _ _ ?_
    refine wp_cond_true (ev_hit hN rfl) ?_
    refine wp_skip ?_
    refine hK45 _ _ ?_
    refine seq_any fun K47 hK47 => ?_
    refine wp_block ?_
    refine seq_any fun K48 hK48 => ?_
    refine one_reg ?_
    have hlen2 := congrArg List.length c15
    refine op_move (ev_hit hN rfl) ?_
    refine op_move (ev_hit hN rfl) ?_
    refine op_index_rd slt39 (ev_hit hN rfl) (show RdC w g (g + 1) 1 (Value.slice (some ⟨g, 0, none⟩) (tl.length + 3) (tl.length + 3)) (tl.length + 3) (((tl ++ [229, 229, 229]).map u8v)) from RdC.ofRowAll (c := (tl.length + 3)) hg (by simp) (by omega) (by unfold maxLen; omega)) (ev_hit hN rfl) (by omega) (by omega) ?_
    intro b49 o50 h0b49 h1b49 hc51
    refine op_load1 (v := (Value.int .u8 (((tl ++ [229, 229, 229]).getD (bl.length) 0).toNat : Int))) one5 (ev_hit hN rfl) (by have := hc51 0 (Value.int .u8 (((tl ++ [229, 229, 229]).getD (bl.length) 0).toNat : Int)) (by decide) (el_u8 (i := (bl.length)) (by omega) (by omega)); simpa using this) ?_
    refine op_neq (ev_hit hN rfl) rfl (fun c37 => ?_) (fun c37 => ?_)
    · -- 37T
     exfalso; subst c15; exact c37 (congrArg (fun q : UInt8 => ((q.toNat : Nat) : Int)) (getD_tail tl [229, 229, 229] 0))
    · -- 37F
     refine reg_nil ?_
     refine hK48 _ _ ?_
     refine wp_cond_false (ev_hit hN rfl) ?_
     refine wp_skip ?_
     refine hK47 _ _ ?_
     refine one_reg ?_
     have hlen2 := congrArg List.length c15
     refine op_move (ev_hit hN rfl) ?_
     refine op_add (ev_hit hN rfl) rfl (add64 (by omega)) ?_
     refine op_assign (ev_hit hN rfl) ?_
     refine reg_nil ?_
     refine hK44 _ _ ?_
     refine rounds_any fun K52 hK52 => ?_
     refine seq_any fun K53 hK53 => ?_
     refine seq_any fun K54 hK54 => ?_
     refine one_reg ?_
     refine op_move (ev_hit hN rfl) ?_
     refine op_move (ev_base hN rfl s1) ?_
     refine op_len_rd Try.underlying39 (ev_hit hN rfl) hv ?_
     refine op_add (ev_hit hN rfl) rfl (add64 (by omega)) ?_
     refine op_lss (ev_hit hN rfl) (ev_hit hN rfl) (fun c30 => ?_) (fun c30 => ?_)
     · -- 30T
      refine reg_nil ?_
      refine hK54 _ _ ?_
      refine wp_cond_true (ev_hit hN rfl) ?_
      refine wp_skip ?_
      refine hK53 _ _ ?_
      refine seq_any fun K55 hK55 => ?_
      refine wp_block ?_
      refine seq_any fun K56 hK56 => ?_
      refine one_reg ?_
      have hlen2 := congrArg List.length c15
      refine op_move (ev_hit hN rfl) ?_
      refine op_move (ev_hit hN rfl) ?_
      refine op_index_rd slt39 (ev_hit hN rfl) (show RdC w g (g + 1) 1 (Value.slice (some ⟨g, 0, none⟩) (tl.length + 3) (tl.length + 3)) (tl.length + 3) (((tl ++ [229, 229, 229]).map u8v)) from RdC.ofRowAll (c := (tl.length + 3)) hg (by simp) (by omega) (by unfold maxLen; omega)) (ev_hit hN rfl) (by omega) (by omega) ?_
      intro b57 o58 h0b57 h1b57 hc59
      refine op_load1 (v := (Value.int .u8 (((tl ++ [229, 229, 229]).getD ((bl.length) + 1) 0).toNat : Int))) one5 (ev_hit hN rfl) (by have := hc59 0 (Value.int .u8 (((tl ++ [229, 229, 229]).getD ((bl.length) + 1) 0).toNat : Int)) (by decide) (el_u8 (i := ((bl.length) + 1)) (by omega) (by omega)); simpa using this) ?_
      refine op_neq (ev_hit hN rfl) rfl (fun c37 => ?_) (fun c37 => ?_)
      · -- 37T
       exfalso; subst c15; exact c37 (congrArg (fun q : UInt8 => ((q.toNat : Nat) : Int)) (getD_tail tl [229, 229, 229] 1))
      · -- 37F
       refine reg_nil ?_
       refine hK56 _ _ ?_
       refine wp_cond_false (ev_hit hN rfl) ?_
       refine wp_skip ?_
       refine hK55 _ _ ?_
       refine one_reg ?_
       have hlen2 := congrArg List.length c15
       refine op_move (ev_hit hN rfl) ?_
       refine op_add (ev_hit hN rfl) rfl (add64 (by omega)) ?_
       refine op_assign (ev_hit hN rfl) ?_
       refine reg_nil ?_
       refine hK52 _ _ ?_
       refine rounds_any fun K60 hK60 => ?_
       refine seq_any fun K61 hK61 => ?_
       refine seq_any fun K62 hK62 => ?_
       refine one_reg ?_
       refine op_move (ev_hit hN rfl) ?_
       refine op_move (ev_base hN rfl s1) ?_
       refine op_len_rd Try.underlying39 (ev_hit hN rfl) hv ?_
       refine op_add (ev_hit hN rfl) rfl (add64 (by omega)) ?_
       refine op_lss (ev_hit hN rfl) (ev_hit hN rfl) (fun c30 => ?_) (fun c30 => ?_)
       · -- 30T
        refine reg_nil ?_
        refine hK62 _ _ ?_
        refine wp_cond_true (ev_hit hN rfl) ?_
        refine wp_skip ?_
        refine hK61 _ _ ?_
        refine seq_any fun K63 hK63 => ?_
        refine wp_block ?_
        refine seq_any fun K64 hK64 => ?_
        refine one_reg ?_
        have hlen2 := congrArg List.length c15
        refine op_move (ev_hit hN rfl) ?_
        refine op_move (ev_hit hN rfl) ?_
        refine op_index_rd slt39 (ev_hit hN rfl) (show RdC w g (g + 1) 1 (Value.slice (some ⟨g, 0, none⟩) (tl.length + 3) (tl.length + 3)) (tl.length + 3) (((tl ++ [229, 229, 229]).map u8v)) from RdC.ofRowAll (c := (tl.length + 3)) hg (by simp) (by omega) (by unfold maxLen; omega)) (ev_hit hN rfl) (by omega) (by omega) ?_
        intro b65 o66 h0b65 h1b65 hc67
        refine op_load1 (v := (Value.int .u8 (((tl ++ [229, 229, 229]).getD (((bl.length) + 1) + 1) 0).toNat : Int))) one5 (ev_hit hN rfl) (by have := hc67 0 (Value.int .u8 (((tl ++ [229, 229, 229]).getD (((bl.length) + 1) + 1) 0).toNat : Int)) (by decide) (el_u8 (i := (((bl.length) + 1) + 1)) (by omega) (by omega)); simpa using this) ?_
        refine op_neq (ev_hit hN rfl) rfl (fun c37 => ?_) (fun c37 => ?_)
        · -- 37T
         exfalso; subst c15; exact c37 (congrArg (fun q : UInt8 => ((q.toNat : Nat) : Int)) (getD_tail tl [229, 229, 229] 2))
        · -- 37F
         refine reg_nil ?_
         refine hK64 _ _ ?_
         refine wp_cond_false (ev_hit hN rfl) ?_
         refine wp_skip ?_
         refine hK63 _ _ ?_
         refine one_reg ?_
         have hlen2 := congrArg List.length c15
         refine op_move (ev_hit hN rfl) ?_
         refine op_add (ev_hit hN rfl) rfl (add64 (by omega)) ?_
         refine op_assign (ev_hit hN rfl) ?_
         refine reg_nil ?_
         refine hK60 _ _ ?_
         refine rounds_any fun K68 hK68 => ?_
         refine seq_any fun K69 hK69 => ?_
         refine seq_any fun K70 hK70 => ?_
         refine one_reg ?_
         refine op_move (ev_hit hN rfl) ?_
         refine op_move (ev_base hN rfl s1) ?_
         refine op_len_rd Try.underlying39 (ev_hit hN rfl) hv ?_
         refine op_add (ev_hit hN rfl) rfl (add64 (by omega)) ?_
         refine op_lss (ev_hit hN rfl) (ev_hit hN rfl) (fun c30 => ?_) (fun c30 => ?_)
         · -- 30T
          exfalso; omega
         · -- 30F
          refine reg_nil ?_
          refine hK70 _ _ ?_
          refine wp_cond_false (ev_hit hN rfl) ?_
          refine wp_exit (then_exit (then_exit (blk_hit ?_)))
          refine hK42 _ _ ?_
          refine seq_any fun K71 hK71 => ?_
          refine one_reg ?_
          refine op_assign rfl ?_
          refine reg_nil ?_
          refine hK71 _ _ ?_
          refine wp_ret ?_
          refine ret1 rfl hd (ev_hit hN rfl) ⟨_, rfl, ?_⟩
          -- path 15F 22F 30T 37F 30T 37F 30T 37F 30F
          exact ⟨hb, congrArg Value.bool (by simp [*])⟩
       · -- 30F
        exfalso; omega
     · -- 30F
      exfalso; omega
   · -- 30F
    exfalso; omega

theorem Spoil_ret (v : Value) (n base : Nat) (cs : List Value) (w : World) (O : Own w base 5 1 v n cs) : Ret Try.prog 37 #[v] w (fun v' w' => w.grownBy w' v.ownBlock ∧ v' = .tuple #[]) := by
 have hb := grown_refl w v.ownBlock
 refine enter (N := 17) Try.func37 rfl rfl (by simp) fun a0 hN hd hA => ?_
 have s0 : a0.tmps.getD 0 undef = v := hA 0 (by simp)
 clear hA
 refine seq_any fun K72 hK72 => ?_
 refine one_reg ?_
 refine op_move (ev_base hN rfl s0) ?_
 refine op_move (ev_base hN rfl s0) ?_
 obtain ⟨cap73, hcap74_1, hcap74_2, hcap74⟩ := O.capOf
 have hcap74_3 : cap73 ≤ 9223372036854775807 := hcap74_2
 refine op_cap (c := cap73) Try.underlying39 (by rw [(ev_hit hN rfl)]; exact hcap74) ?_
 refine op_slice_cap slt39 (ev_hit hN rfl) O hcap74 (ev_hit hN rfl) ?_
 intro v75 cs76 hO77 ho78
 refine op_assign (ev_hit hN rfl) ?_
 refine reg_nil ?_
 refine hK72 _ _ ?_
 refine seq_any fun K79 hK79 => ?_
 refine one_reg ?_
 refine op_assign rfl ?_
 refine reg_nil ?_
 refine hK79 _ _ ?_
 refine wp_block ?_
 refine loop_m (fun mz_ az_ w' => ∃ (i : Nat) (cs1 : List Value), mz_ = cap73 - i ∧ (az_.tmps.getD 2 undef = v75) ∧ (az_.tmps.getD 3 undef = (Value.int .i64 ((i : Nat) : Int))) ∧ (i ≤ cap73) ∧ (w.grownBy w' v.ownBlock) ∧ (w.heap.size ≤ w'.heap.size) ∧ (Own w' base 5 1 v75 cap73 (cs1))) _ hN hd ⟨0, _, rfl, (sl_hit hN rfl), (sl_hit hN rfl), Nat.zero_le _, hb, (Nat.le_refl _), hO77⟩ ?_
 rintro _ a80 w80 hN80 hd80 ⟨i, cs1, rfl, s80_2, s80_3, hi, hb, zl_w80, hO81⟩
 have z_w80 := hb.size
 refine seq_any fun K82 hK82 => ?_
 refine seq_any fun K83 hK83 => ?_
 refine one_reg ?_
 refine op_move (ev_base hN80 rfl s80_3) ?_
 refine op_move (ev_base hN80 rfl s80_2) ?_
 refine op_len_rd Try.underlying39 (ev_hit hN80 rfl) hO81.rdw ?_
 refine op_lss (ev_hit hN80 rfl) (ev_hit hN80 rfl) (fun c11 => ?_) (fun c11 => ?_)
 · -- 11T
  refine reg_nil ?_
  refine hK83 _ _ ?_
  refine wp_cond_true (ev_hit hN80 rfl) ?_
  refine wp_skip ?_
  refine hK82 _ _ ?_
  refine seq_any fun K84 hK84 => ?_
  refine wp_block ?_
  refine one_reg ?_
  refine op_move (ev_base hN80 rfl s80_2) ?_
  refine op_move (ev_base hN80 rfl s80_3) ?_
  refine op_index_own (i := i) slt39 (ev_hit hN80 rfl) hO81 (ev_hit hN80 rfl) (by omega) (by omega) ?_
  intro b85 o86 lo_b85 hA87
  have hA87 : AtV v75 (i) b85 o86 := by simpa using hA87
  have hP90 := hO81
  refine op_store_own (vs := [(Value.int .u8 90)]) size5 (ev_hit hN80 rfl) rfl rfl rfl rfl hP90 hA87 (by have := hP90.1; simp; omega) ?_
  intro w88 hO91 E89
  have z_w88 := E89.size
  have hb := grow_stepX hb E89 (ho78.trans rfl)
  have hO91 : Own w88 base 5 1 v75 cap73 ((cs1.take (i) ++ [(Value.int .u8 90)] ++ cs1.drop (i + 1))) := by simpa using hO91
  refine reg_nil ?_
  refine hK84 _ _ ?_
  refine one_reg ?_
  refine op_move (ev_base hN80 rfl s80_3) ?_
  refine op_add (ev_hit hN80 rfl) rfl (add64 (by omega)) ?_
  refine op_assign (ev_hit hN80 rfl) ?_
  refine reg_nil ?_
  -- round 11T
  exact loop_next _ hN80 hd80 ⟨i + 1, _, rfl, (sl_base hN80 rfl s80_2), (sl_hit hN80 rfl).trans (congrArg (Value.int .i64) (by omega)), (by omega), hb, (by omega), hO91⟩ (by omega)
 · -- 11F
  refine reg_nil ?_
  refine hK83 _ _ ?_
  refine wp_cond_false (ev_hit hN80 rfl) ?_
  refine wp_exit (then_exit (then_exit (blk_hit ?_)))
  refine end_ret ?_
  refine ret0 rfl hd80  ⟨_, rfl, ?_⟩
  -- path 11F
  exact ⟨hb, rfl⟩

theorem Place_ret (k n : Int) (w : World) (hk : -9223372036854775808 ≤ k ∧ k ≤ 9223372036854775807) (hn : n ≤ 9223372036854775807) : Ret Try.prog 40 #[(Value.int .i64 k), (Value.int .i64 n)] w (fun v' w' => Below w.heap.size w w' ∧ v' = .int .i64 (placeI k n)) := by
 have hb := Below.refl w.heap.size w
 refine enter (N := 16) Try.func40 rfl rfl (by simp) fun a0 hN hd hA => ?_
 have s0 : a0.tmps.getD 0 undef = (Value.int .i64 k) := hA 0 (by simp)
 have s1 : a0.tmps.getD 1 undef = (Value.int .i64 n) := hA 1 (by simp)
 clear hA
 refine seq_any fun K92 hK92 => ?_
 refine one_reg ?_
 refine op_assign rfl ?_
 refine reg_nil ?_
 refine hK92 _ _ ?_
 refine seq_any fun K93 hK93 => ?_
 refine seq_any fun K94 hK94 => ?_
 refine one_reg ?_
 refine op_move (ev_base hN rfl s1) ?_
 refine op_lss (ev_hit hN rfl) rfl (fun c6 => ?_) (fun c6 => ?_)
 · -- 6T
  refine reg_nil ?_
  refine hK94 _ _ ?_
  refine wp_cond_true (ev_hit hN rfl) ?_
  refine seq_any fun K95 hK95 => ?_
  refine one_reg ?_
  refine op_assign rfl ?_
  refine reg_nil ?_
  refine hK95 _ _ ?_
  refine wp_ret (then_ret ( ?_))
  refine ret1 rfl hd (ev_hit hN rfl) ⟨_, rfl, ?_⟩
  -- path 6T
  exact ⟨hb, congrArg (Value.int .i64) (by rw [placeI, if_pos (by omega)])⟩
 · -- 6F
  refine reg_nil ?_
  refine hK94 _ _ ?_
  refine wp_cond_false (ev_hit hN rfl) ?_
  refine wp_skip ?_
  refine hK93 _ _ ?_
  refine seq_any fun K96 hK96 => ?_
  refine one_reg ?_
  refine op_move (ev_base hN rfl s0) ?_
  refine op_move (ev_base hN rfl s1) ?_
  refine op_rem (r := (k.tmod n)) (ev_hit hN rfl) (ev_hit hN rfl) (by omega) rfl ?_
  refine op_assign (ev_hit hN rfl) ?_
  refine reg_nil ?_
  refine hK96 _ _ ?_
  refine seq_any fun K97 hK97 => ?_
  refine seq_any fun K98 hK98 => ?_
  refine one_reg ?_
  have htm := tmod_rng (k := k) (n := n) (by omega)
  refine op_move (ev_hit hN rfl) ?_
  refine op_lss (ev_hit hN rfl) rfl (fun c11 => ?_) (fun c11 => ?_)
  · -- 11T
   refine reg_nil ?_
   refine hK98 _ _ ?_
   refine wp_cond_true (ev_hit hN rfl) ?_
   refine one_reg ?_
   refine op_move (ev_hit hN rfl) ?_
   refine op_move (ev_base hN rfl s1) ?_
   refine op_add (ev_hit hN rfl) (ev_hit hN rfl) (add64 (by omega)) ?_
   refine op_assign (ev_hit hN rfl) ?_
   refine reg_nil ?_
   refine hK97 _ _ ?_
   refine seq_any fun K99 hK99 => ?_
   refine one_reg ?_
   refine op_move (ev_hit hN rfl) ?_
   refine op_assign (ev_hit hN rfl) ?_
   refine reg_nil ?_
   refine hK99 _ _ ?_
   refine wp_ret ?_
   refine ret1 rfl hd (ev_hit hN rfl) ⟨_, rfl, ?_⟩
   -- path 6F 11T
   exact ⟨hb, congrArg (Value.int .i64) (by rw [placeI, if_neg (by omega)]; exact tmod_neg (by omega) (by omega))⟩
  · -- 11F
   refine reg_nil ?_
   refine hK98 _ _ ?_
   refine wp_cond_false (ev_hit hN rfl) ?_
   refine wp_skip ?_
   refine hK97 _ _ ?_
   refine seq_any fun K100 hK100 => ?_
   refine one_reg ?_
   refine op_move (ev_hit hN rfl) ?_
   refine op_assign (ev_hit hN rfl) ?_
   refine reg_nil ?_
   refine hK100 _ _ ?_
   refine wp_ret ?_
   refine ret1 rfl hd (ev_hit hN rfl) ⟨_, rfl, ?_⟩
   -- path 6F 11F
   exact ⟨hb, congrArg (Value.int .i64) (by rw [placeI, if_neg (by omega)]; exact tmod_pos (by omega) (by omega))⟩

theorem LabelBytes_ret (b : List UInt8) (l : Lb) (rest : List UInt8) (cut : Int) (vb vl vr : Value) (w : World) (hlb : b.length ≤ 9223372036854775807) (hll : l.length ≤ 9223372036854775807) (hlr : rest.length ≤ 9223372036854775807) (hcut : -9223372036854775808 ≤ cut ∧ cut ≤ 9223372036854775807) (hrb : RdC w 0 w.heap.size 1 vb b.length (b.map u8v)) (hrl : RdC w 0 w.heap.size 1 vl l.length (l.map u16v)) (hrr : RdC w 0 w.heap.size 1 vr rest.length (rest.map u8v)) : Ret Try.prog 9 #[vb, vl, vr, (Value.int .i64 cut)] w (fun v' w' => Below w.heap.size w w' ∧ v' = .bool true) := by
 have hb := Below.refl w.heap.size w
 refine enter (N := 134) Try.func9 rfl rfl (by simp) fun a0 hN hd hA => ?_
 have s0 : a0.tmps.getD 0 undef = vb := hA 0 (by simp)
 have s1 : a0.tmps.getD 1 undef = vl := hA 1 (by simp)
 have s2 : a0.tmps.getD 2 undef = vr := hA 2 (by simp)
 have s3 : a0.tmps.getD 3 undef = (Value.int .i64 cut) := hA 3 (by simp)
 clear hA
 refine seq_any fun K101 hK101 => ?_
 refine one_reg ?_
 refine op_assign rfl ?_
 refine reg_nil ?_
 refine hK101 _ _ ?_
 refine seq_any fun K102 hK102 => ?_
 refine seq_any fun K103 hK103 => ?_
 refine one_reg ?_
 refine op_fn (vs := []) ok23 trivial (begun1_ret _) ?_
 rintro _ w104 ⟨E105, rfl⟩
 have E105 := grown_of_below E105
 have z_w104 := E105.size
 have hrb := hrb.keep0 E105
 have hrl := hrl.keep0 E105
 have hrr := hrr.keep0 E105
 have hb := below_step0 hb E105 hb.size
 refine op_not (ev_hit hN rfl) ?_
 refine reg_nil ?_
 refine hK103 _ _ ?_
 refine wp_cond_false (ev_hit hN rfl) ?_
 refine wp_skip ?_
 refine hK102 _ _ ?_
 refine seq_any fun K106 hK106 => ?_
 refine seq_any fun K107 hK107 => ?_
 refine one_reg ?_
 refine op_move (ev_base hN rfl s0) ?_
 refine op_len_rd Try.underlying39 (ev_hit hN rfl) hrb ?_
 refine op_gtr (ev_hit hN rfl) rfl (fun c29 => ?_) (fun c29 => ?_)
 · -- 29T
  refine op_move (ev_hit hN rfl) ?_
  refine g_false (j := 3) (dj := 30) (b := false) rfl rfl rfl (ev_hit hN rfl) rfl rfl ?_
  refine g_false (j := 3) (dj := 30) (b := false) rfl rfl rfl (ev_hit hN rfl) rfl rfl ?_
  refine g_false (j := 3) (dj := 30) (b := false) rfl rfl rfl (ev_hit hN rfl) rfl rfl ?_
  refine op_pick_t (ev_hit hN rfl) rfl ?_
  refine op_move (ev_hit hN rfl) ?_
  refine g_false (j := 8) (dj := 35) (b := false) rfl rfl rfl (ev_hit hN rfl) rfl rfl ?_
  refine g_false (j := 8) (dj := 35) (b := false) rfl rfl rfl (ev_hit hN rfl) rfl rfl ?_
  refine g_false (j := 8) (dj := 35) (b := false) rfl rfl rfl (ev_hit hN rfl) rfl rfl ?_
  refine op_pick_t (ev_hit hN rfl) rfl ?_
  refine reg_nil ?_
  refine hK107 _ _ ?_
  refine wp_cond_true (ev_hit hN rfl) ?_
  refine seq_any fun K108 hK108 => ?_
  refine one_reg ?_
  refine op_assign rfl ?_
  refine reg_nil ?_
  refine hK108 _ _ ?_
  refine wp_ret (then_ret ( ?_))
  refine ret1 rfl hd (ev_hit hN rfl) ⟨_, rfl, ?_⟩
  -- path 29T
  exact ⟨hb, rfl⟩
 · -- 29F
  refine op_move (ev_hit hN rfl) ?_
  refine g_true (j := 3) (dj := 30) (b := false) rfl rfl rfl (ev_hit hN rfl) ?_
  refine op_move (ev_base hN rfl s2) ?_
  refine g_true (j := 3) (dj := 30) (b := false) rfl rfl rfl (ev_hit hN rfl) ?_
  refine op_len_rd Try.underlying39 (ev_hit hN rfl) hrr ?_
  refine g_true (j := 3) (dj := 30) (b := false) rfl rfl rfl (ev_hit hN rfl) ?_
  refine op_gtr (ev_hit hN rfl) rfl (fun c33 => ?_) (fun c33 => ?_)
  · -- 33T
   refine op_pick_f (ev_hit hN rfl) (ev_hit hN rfl) ?_
   refine op_move (ev_hit hN rfl) ?_
   refine g_false (j := 8) (dj := 35) (b := false) rfl rfl rfl (ev_hit hN rfl) rfl rfl ?_
   refine g_false (j := 8) (dj := 35) (b := false) rfl rfl rfl (ev_hit hN rfl) rfl rfl ?_
   refine g_false (j := 8) (dj := 35) (b := false) rfl rfl rfl (ev_hit hN rfl) rfl rfl ?_
   refine op_pick_t (ev_hit hN rfl) rfl ?_
   refine reg_nil ?_
   refine hK107 _ _ ?_
   refine wp_cond_true (ev_hit hN rfl) ?_
   refine seq_any fun K109 hK109 => ?_
   refine one_reg ?_
   refine op_assign rfl ?_
   refine reg_nil ?_
   refine hK109 _ _ ?_
   refine wp_ret (then_ret ( ?_))
   refine ret1 rfl hd (ev_hit hN rfl) ⟨_, rfl, ?_⟩
   -- path 29F 33T
   exact ⟨hb, rfl⟩
  · -- 33F
   refine op_pick_f (ev_hit hN rfl) (ev_hit hN rfl) ?_
   refine op_move (ev_hit hN rfl) ?_
   refine g_true (j := 8) (dj := 35) (b := false) rfl rfl rfl (ev_hit hN rfl) ?_
   refine op_move (ev_base hN rfl s1) ?_
   refine g_true (j := 8) (dj := 35) (b := false) rfl rfl rfl (ev_hit hN rfl) ?_
   refine op_fn (vs := [vl]) ok13 ⟨(ev_hit hN rfl), trivial⟩ (refMay_ret l _ _ (by first | assumption | omega | (simp only [List.length_append, List.length_cons, List.length_nil, List.length_drop, List.length_take]; omega) | (dsimp only; omega) | decide | (simp [keyV, be8_len]; done)) (show RdC w104 0 w104.heap.size 1 vl l.length (l.map u16v) from by have hh : RdC w104 0 w104.heap.size 1 _ _ _ := (hrl.mono (L' := 0) (B' := w104.heap.size) (Nat.zero_le _) (by omega)); first | exact hh | exact hh.cast (by first | omega | (simp; try omega)) (by first | rfl | simp [u16v]))) ?_
   rintro _ w110 ⟨E111, rfl⟩
   have E111 := grown_of_below E111
   have z_w110 := E111.size
   have hrb := hrb.keep0 E111
   have hrl := hrl.keep0 E111
   have hrr := hrr.keep0 E111
   have hb := below_step0 hb E111 hb.size
   rcases Bool.eq_false_or_eq_true ((mayL l)) with c37 | c37
   · -- 37T
    rw [c37]
    refine g_true (j := 8) (dj := 35) (b := false) rfl rfl rfl (ev_hit hN rfl) ?_
    refine op_not (ev_hit hN rfl) ?_
    refine op_pick_f (ev_hit hN rfl) (ev_hit hN rfl) ?_
    refine reg_nil ?_
    refine hK107 _ _ ?_
    refine wp_cond_false (ev_hit hN rfl) ?_
    refine wp_skip ?_
    refine hK106 _ _ ?_
    refine seq_any fun K112 hK112 => ?_
    refine one_reg ?_
    refine op_move (ev_base hN rfl s0) ?_
    have ll := mayL_len c37
    have hpl := putL_len l
    have hpc := place_rng cut ((putL l).length : Int) (by omega)
    have hq113 : RdC w110 0 w110.heap.size 1 vb b.length (b.map u8v) := by have hh : RdC w110 0 w110.heap.size 1 _ _ _ := (hrb.mono (L' := 0) (B' := w110.heap.size) (Nat.zero_le _) (by omega)); first | simpa using hh | simpa [Nat.add_comm, Nat.add_left_comm, Nat.add_assoc] using hh | exact hh.cast (by first | rfl | (simp; try omega)) (by first | rfl | (simp; done) | simp [u8v])
    refine op_fn (vs := [vb]) ok33 ⟨(ev_hit hN rfl), trivial⟩ (Twin_ret b vb _ (by first | assumption | omega | (simp only [List.length_append, List.length_cons, List.length_nil, List.length_drop, List.length_take]; omega) | (dsimp only; omega) | decide | (simp [keyV, be8_len]; done)) hq113) ?_
    rintro _ w116 ⟨E117, b114, rfl, lo_b114, hi_b114, hB115⟩
    have E117 := grown_of_below E117
    have z_w116 := E117.size
    have hrb := hrb.keep0 E117
    have hrl := hrl.keep0 E117
    have hrr := hrr.keep0 E117
    have hb := below_step0 hb E117 hb.size
    refine op_assign (ev_hit hN rfl) ?_
    refine reg_nil ?_
    refine hK112 _ _ ?_
    refine seq_any fun K118 hK118 => ?_
    refine one_reg ?_
    refine op_move (ev_hit hN rfl) ?_
    refine op_move (ev_base hN rfl s1) ?_
    have hq119 : RdC w116 0 w116.heap.size 1 (Value.slice (some ⟨b114, 0, none⟩) b.length (b.length + 3)) b.length (b.map u8v) := by have hh : RdC w116 0 w116.heap.size 1 _ _ _ := ((show RdC w116 b114 (b114 + 1) 1 (Value.slice (some ⟨b114, 0, none⟩) b.length (b.length + 3)) b.length ((b.map u8v)) from by simpa using (RdC.ofRow (sz := 1) (m := b.length) (c := (b.length + 3)) hB115 (by simp) (by omega) (by unfold maxLen; omega))).mono (L' := 0) (B' := w116.heap.size) (Nat.zero_le _) (by have := hB115.lt; omega)); first | simpa using hh | simpa [Nat.add_comm, Nat.add_left_comm, Nat.add_assoc] using hh | exact hh.cast (by first | rfl | (simp; try omega)) (by first | rfl | (simp; done) | simp [u8v])
    refine op_fn (vs := [(Value.slice (some ⟨b114, 0, none⟩) b.length (b.length + 3)), vl]) ok34 ⟨(ev_hit hN rfl), ⟨(ev_hit hN rfl), trivial⟩⟩ (labPut_ret b l _ _ _ (by first | assumption | omega | (simp only [List.length_append, List.length_cons, List.length_nil, List.length_drop, List.length_take]; omega) | (dsimp only; omega) | decide | (simp [keyV, be8_len]; done)) (by first | assumption | omega | (simp only [List.length_append, List.length_cons, List.length_nil, List.length_drop, List.length_take]; omega) | (dsimp only; omega) | decide | (simp [keyV, be8_len]; done)) hq119 (show RdC w116 0 w116.heap.size 1 vl l.length (l.map u16v) from by have hh : RdC w116 0 w116.heap.size 1 _ _ _ := (hrl.mono (L' := 0) (B' := w116.heap.size) (Nat.zero_le _) (by omega)); first | exact hh | exact hh.cast (by first | omega | (simp; try omega)) (by first | rfl | simp [u16v]))) ?_
    rintro v120 w121 ⟨E122, hO120⟩
    have E122 := grown_of_below E122
    have z_w121 := E122.size
    have hrb := hrb.keep0 E122
    have hrl := hrl.keep0 E122
    have hrr := hrr.keep0 E122
    have hB115 := hB115.keep0 E122
    have hb := below_step0 hb E122 hb.size
    have hO120 := hO120.mono (base' := w116.heap.size) (by omega)
    refine op_assign (ev_hit hN rfl) ?_
    refine reg_nil ?_
    refine hK118 _ _ ?_
    refine seq_any fun K123 hK123 => ?_
    refine reg_split (hd := [_, _, _, _, _, _]) (tl := _) 6 mixed (by kernel_rfl) rfl rfl ?_
    refine any_quiet (Φ := phiL [(fun uz _ => uz = v120), (fun uz _ => uz = (Value.string (bs (b ++ putL l)))), (fun uz _ => uz = vb), (fun uz _ => uz = vl), (fun uz w' => ∃ (v125 : Value), uz = v125 ∧ Own w' w121.heap.size 5 1 v125 (b.length + (putL l).length) ((b ++ putL l).map u8v)), (fun uz _ => uz = (Value.string (bs (b ++ putL l))))]) (by kernel_rfl) (by kernel_rfl) (by kernel_rfl) hN (StL.get (StL.eq (StL.eq (StL.eq (StL.eq (StL.cons (fun u w1 w2 E h => by obtain ⟨x0, hv, f0⟩ := h; exact ⟨x0, hv, f0.keep0 E⟩) (StL.eq (StL.nil _)))))))) (ObL.get (s := 6) (ObL.cons ?_ (ObL.cons ?_ (ObL.cons ?_ (ObL.cons ?_ (ObL.cons ?_ (ObL.cons ?_ (ObL.nil))))))) rfl) ?_
    ·
     intro aA wA hNA hRA hbsA hdpA
     have qA_10 := (hbsA 10 rfl).trans (sl_hit hN rfl)
     refine op_move (ev_base hNA rfl qA_10) ?_
     exact obN_end rfl rfl (grown_refl _ _)
    ·
     intro aA wA hNA hRA hbsA hdpA
     have hRA : w121.grownBy wA none := hRA
     have z_wA := hRA.size
     have hrb := hrb.keep0 hRA
     have hrl := hrl.keep0 hRA
     have hrr := hrr.keep0 hRA
     have hB115 := hB115.keep0 hRA
     have hO120 := hO120.keep0 hRA
     have hb := below_step0 hb hRA hb.size
     have qA_45 : Sl aA 45 v120 := hdpA 0 _ 45 (by kernel_rfl) rfl rfl
     clear hbsA hdpA
     refine op_str_of (bl := (b ++ putL l)) Try.underlying39 Try.underlying5 Try.underlying9 (ev_base hNA rfl qA_45) hO120.rdw ?_
     exact obN_end rfl rfl (grown_refl _ _)
    ·
     intro aA wA hNA hRA hbsA hdpA
     have qA_0 := (hbsA 0 rfl).trans (sl_base hN rfl s0)
     refine op_move (ev_base hNA rfl qA_0) ?_
     exact obN_end rfl rfl (grown_refl _ _)
    ·
     intro aA wA hNA hRA hbsA hdpA
     have qA_1 := (hbsA 1 rfl).trans (sl_base hN rfl s1)
     refine op_move (ev_base hNA rfl qA_1) ?_
     exact obN_end rfl rfl (grown_refl _ _)
    ·
     intro aA wA hNA hRA hbsA hdpA
     have hRA : w121.grownBy wA none := hRA
     have z_wA := hRA.size
     have hrb := hrb.keep0 hRA
     have hrl := hrl.keep0 hRA
     have hrr := hrr.keep0 hRA
     have hB115 := hB115.keep0 hRA
     have hO120 := hO120.keep0 hRA
     have hb := below_step0 hb hRA hb.size
     have qA_47 : Sl aA 47 vb := hdpA 2 _ 47 (by kernel_rfl) rfl rfl
     have qA_48 : Sl aA 48 vl := hdpA 3 _ 48 (by kernel_rfl) rfl rfl
     clear hbsA hdpA
     have hq124 : RdC wA 0 wA.heap.size 1 vb b.length (b.map u8v) := by have hh : RdC wA 0 wA.heap.size 1 _ _ _ := (hrb.mono (L' := 0) (B' := wA.heap.size) (Nat.zero_le _) (by omega)); first | simpa using hh | simpa [Nat.add_comm, Nat.add_left_comm, Nat.add_assoc] using hh | exact hh.cast (by first | rfl | (simp; try omega)) (by first | rfl | (simp; done) | simp [u8v])
     refine op_fn (vs := [vb, vl]) ok35 ⟨(ev_base hNA rfl qA_47), ⟨(ev_base hNA rfl qA_48), trivial⟩⟩ (refPut_ret b l _ _ _ (by first | assumption | omega | (simp only [List.length_append, List.length_cons, List.length_nil, List.length_drop, List.length_take]; omega) | (dsimp only; omega) | decide | (simp [keyV, be8_len]; done)) (by first | assumption | omega | (simp only [List.length_append, List.length_cons, List.length_nil, List.length_drop, List.length_take]; omega) | (dsimp only; omega) | decide | (simp [keyV, be8_len]; done)) hq124 (show RdC wA 0 wA.heap.size 1 vl l.length (l.map u16v) from by have hh : RdC wA 0 wA.heap.size 1 _ _ _ := (hrl.mono (L' := 0) (B' := wA.heap.size) (Nat.zero_le _) (by omega)); first | exact hh | exact hh.cast (by first | omega | (simp; try omega)) (by first | rfl | simp [u16v]))) ?_
     rintro v125 w126 ⟨E127, hO125⟩
     have dj128 : DJ v125 v120 := fun k hk hg => by have q1 := (hO125.lt k hk).1; have q2 := (hO120.lt k hg).2; omega
     have E127 := grown_of_below E127
     have z_w126 := E127.size
     have hrb := hrb.keep0 E127
     have hrl := hrl.keep0 E127
     have hrr := hrr.keep0 E127
     have hB115 := hB115.keep0 E127
     have hO120 := hO120.keep0 E127
     have hb := below_step0 hb E127 hb.size
     have hO125 := hO125.mono (base' := w121.heap.size) (by omega)
     exact obN_end rfl ⟨v125, rfl, hO125⟩ (E127)
    ·
     intro aA wA hNA hRA hbsA hdpA
     have hRA : w121.grownBy wA none := hRA
     have z_wA := hRA.size
     have hrb := hrb.keep0 hRA
     have hrl := hrl.keep0 hRA
     have hrr := hrr.keep0 hRA
     have hB115 := hB115.keep0 hRA
     have hO120 := hO120.keep0 hRA
     have hb := below_step0 hb hRA hb.size
     obtain ⟨v125, qA_49, hO125⟩ := hdpA 4 _ 49 (by kernel_rfl) rfl rfl
     have hO125 : Own wA w121.heap.size 5 1 v125 (b.length + (putL l).length) ((b ++ putL l).map u8v) := hO125
     clear hbsA hdpA
     refine op_str_of (bl := (b ++ putL l)) Try.underlying39 Try.underlying5 Try.underlying9 (ev_base hNA rfl qA_49) hO125.rdw ?_
     exact obN_end rfl rfl (grown_refl _ _)
    ·
     intro a129 w129 hN129 hd129 hbs129 hph129 E129
     have hd129 := hd129.trans hd
     have s129_0 := (hbs129 0 rfl).trans (sl_base hN rfl s0)
     have s129_1 := (hbs129 1 rfl).trans (sl_base hN rfl s1)
     have s129_2 := (hbs129 2 rfl).trans (sl_base hN rfl s2)
     have s129_3 := (hbs129 3 rfl).trans (sl_base hN rfl s3)
     have s129_8 := (hbs129 8 rfl).trans (sl_hit hN rfl)
     have s129_9 := (hbs129 9 rfl).trans (sl_hit hN rfl)
     have s129_10 := (hbs129 10 rfl).trans (sl_hit hN rfl)
     have s129_46 : Sl a129 46 (Value.string (bs (b ++ putL l))) := hph129 1 _ 46 rfl rfl
     have s129_50 : Sl a129 50 (Value.string (bs (b ++ putL l))) := hph129 5 _ 50 rfl rfl
     clear hbs129 hph129
     have E129 : w121.grownBy w129 none := E129
     have z_w129 := E129.size
     have hrb := hrb.keep0 E129
     have hrl := hrl.keep0 E129
     have hrr := hrr.keep0 E129
     have hB115 := hB115.keep0 E129
     have hO120 := hO120.keep0 E129
     have hb := below_step0 hb E129 hb.size
     refine split_end ?_
     refine from_still (m := 10) 4 (hd := [_, _, _, _]) (by kernel_rfl) rfl rfl ?_
     by_cases g51 : (b ++ putL l) = (b ++ putL l)
     · -- 51T
      refine st_step rfl (fun _ h9 => op_seqlb (b := true) (ev_base hN129 rfl s129_46) (ev_base hN129 rfl s129_50) (decide_eq_true g51) h9) ?_
      refine st_step rfl (fun _ h9 => op_move (ev_hit hN129 rfl) h9) ?_
      refine st_g_true (j := 7) (dj := 52) (b := true) rfl rfl rfl (ev_hit hN129 rfl) ?_
      refine st_step rfl (fun _ h9 => op_move (ev_base hN129 rfl s129_9) h9) ?_
      refine st_g_true (j := 7) (dj := 52) (b := true) rfl rfl rfl (ev_hit hN129 rfl) ?_
      refine st_step rfl (fun _ h9 => op_move (ev_base hN129 rfl s129_0) h9) ?_
      refine st_nil ?_
      refine from_seq (tl := [_, _, _]) (by decide) (by kernel_rfl) rfl ?_
      refine g_true (j := 7) (dj := 52) (b := true) rfl rfl rfl (ev_hit hN129 rfl) ?_
      have hq130 : RdC w129 0 w129.heap.size 1 vb b.length (b.map u8v) := by have hh : RdC w129 0 w129.heap.size 1 _ _ _ := (hrb.mono (L' := 0) (B' := w129.heap.size) (Nat.zero_le _) (by omega)); first | simpa using hh | simpa [Nat.add_comm, Nat.add_left_comm, Nat.add_assoc] using hh | exact hh.cast (by first | rfl | (simp; try omega)) (by first | rfl | (simp; done) | simp [u8v])
      refine op_fn (vs := [(Value.slice (some ⟨b114, 0, none⟩) b.length (b.length + 3)), vb]) ok36 ⟨(ev_hit hN129 rfl), ⟨(ev_hit hN129 rfl), trivial⟩⟩ (Ret.mono (Kept_ret b b _ vb _ (by first | assumption | omega | (simp only [List.length_append, List.length_cons, List.length_nil, List.length_drop, List.length_take]; omega) | (dsimp only; omega) | decide | (simp [keyV, be8_len]; done)) (by first | assumption | omega | (simp only [List.length_append, List.length_cons, List.length_nil, List.length_drop, List.length_take]; omega) | (dsimp only; omega) | decide | (simp [keyV, be8_len]; done)) hB115 hq130) (R' := fun v' w' => Below w129.heap.size w129 w' ∧ v' = .bool true) fun v1 w1 h => ⟨h.1, h.2.trans (congrArg Value.bool (decide_eq_true rfl))⟩) ?_
      rintro _ w131 ⟨E132, rfl⟩
      have E132 := grown_of_below E132
      have z_w131 := E132.size
      have hrb := hrb.keep0 E132
      have hrl := hrl.keep0 E132
      have hrr := hrr.keep0 E132
      have hB115 := hB115.keep0 E132
      have hO120 := hO120.keep0 E132
      have hb := below_step0 hb E132 hb.size
      refine op_pick_t (ev_hit hN129 rfl) (ev_hit hN129 rfl) ?_
      refine op_assign (ev_hit hN129 rfl) ?_
      refine reg_nil ?_
      refine hK123 _ _ ?_
      refine seq_any fun K133 hK133 => ?_
      refine one_reg ?_
      refine op_move (ev_base hN129 rfl s129_10) ?_
      refine op_fn (vs := [v120]) ok37 ⟨(ev_hit hN129 rfl), trivial⟩ (Spoil_ret v120 _ _ _ _ hO120) ?_
      rintro _ w134 ⟨E135, rfl⟩
      have z_w134 := E135.size
      have hrb := hrb.keepO hO120 E135 (by omega)
      have hrl := hrl.keepO hO120 E135 (by omega)
      have hrr := hrr.keepO hO120 E135 (by omega)
      have hB115 := hB115.keep E135 (fun hh => by have := (hO120.lt _ hh.symm).1; omega)
      have hb := below_stepO hb hO120 E135 hb.size (by omega)
      refine reg_nil ?_
      refine hK133 _ _ ?_
      refine seq_any fun K136 hK136 => ?_
      refine one_reg ?_
      refine op_move (ev_base hN129 rfl s129_0) ?_
      have hq137 : RdC w134 0 w134.heap.size 1 vb b.length (b.map u8v) := by have hh : RdC w134 0 w134.heap.size 1 _ _ _ := (hrb.mono (L' := 0) (B' := w134.heap.size) (Nat.zero_le _) (by omega)); first | simpa using hh | simpa [Nat.add_comm, Nat.add_left_comm, Nat.add_assoc] using hh | exact hh.cast (by first | rfl | (simp; try omega)) (by first | rfl | (simp; done) | simp [u8v])
      refine op_fn (vs := [vb]) ok38 ⟨(ev_hit hN129 rfl), trivial⟩ (labTake_ret b vb _ (by first | assumption | omega | (simp only [List.length_append, List.length_cons, List.length_nil, List.length_drop, List.length_take]; omega) | (dsimp only; omega) | decide | (simp [keyV, be8_len]; done)) hq137) ?_
      rintro _ w139 ⟨E140, u138, rfl, hO138⟩
      have E140 := grown_of_below E140
      have z_w139 := E140.size
      have hrb := hrb.keep0 E140
      have hrl := hrl.keep0 E140
      have hrr := hrr.keep0 E140
      have hB115 := hB115.keep0 E140
      have hb := below_step0 hb E140 hb.size
      have hO138 := hO138.mono (base' := w134.heap.size) (by omega)
      refine op_move (ev_hit hN129 rfl) ?_
      refine op_extract (ev_hit hN129 rfl) rfl ?_
      refine op_extract (ev_hit hN129 rfl) rfl ?_
      refine op_extract (ev_hit hN129 rfl) rfl ?_
      refine op_assign (ev_hit hN129 rfl) ?_
      refine op_assign (ev_hit hN129 rfl) ?_
      refine op_assign (ev_hit hN129 rfl) ?_
      refine reg_nil ?_
      refine hK136 _ _ ?_
      refine seq_any fun K141 hK141 => ?_
      refine one_reg ?_
      refine op_move (ev_base hN129 rfl s129_0) ?_
      have hq142 : RdC w139 0 w139.heap.size 1 vb b.length (b.map u8v) := by have hh : RdC w139 0 w139.heap.size 1 _ _ _ := (hrb.mono (L' := 0) (B' := w139.heap.size) (Nat.zero_le _) (by omega)); first | simpa using hh | simpa [Nat.add_comm, Nat.add_left_comm, Nat.add_assoc] using hh | exact hh.cast (by first | rfl | (simp; try omega)) (by first | rfl | (simp; done) | simp [u8v])
      refine op_fn (vs := [vb]) ok39 ⟨(ev_hit hN129 rfl), trivial⟩ (refTake_ret b vb _ (by first | assumption | omega | (simp only [List.length_append, List.length_cons, List.length_nil, List.length_drop, List.length_take]; omega) | (dsimp only; omega) | decide | (simp [keyV, be8_len]; done)) hq142) ?_
      rintro _ w144 ⟨E145, u143, rfl, hO143⟩
      have dj146 : DJ u143 u138 := fun k hk hg => by have q1 := (hO143.lt k hk).1; have q2 := (hO138.lt k hg).2; omega
      have E145 := grown_of_below E145
      have z_w144 := E145.size
      have hrb := hrb.keep0 E145
      have hrl := hrl.keep0 E145
      have hrr := hrr.keep0 E145
      have hB115 := hB115.keep0 E145
      have hO138 := hO138.keep0 E145
      have hb := below_step0 hb E145 hb.size
      have hO143 := hO143.mono (base' := w139.heap.size) (by omega)
      refine op_move (ev_hit hN129 rfl) ?_
      refine op_extract (ev_hit hN129 rfl) rfl ?_
      refine op_extract (ev_hit hN129 rfl) rfl ?_
      refine op_extract (ev_hit hN129 rfl) rfl ?_
      refine op_assign (ev_hit hN129 rfl) ?_
      refine op_assign (ev_hit hN129 rfl) ?_
      refine op_assign (ev_hit hN129 rfl) ?_
      refine reg_nil ?_
      refine hK141 _ _ ?_
      refine seq_any fun K147 hK147 => ?_
      refine one_reg ?_
      refine op_move (ev_base hN129 rfl s129_1) ?_
      have hq148 : RdC w144 0 w144.heap.size 1 (Value.slice none 0 0) ([] : List UInt8).length (([] : List UInt8).map u8v) := by have hh : RdC w144 0 w144.heap.size 1 _ _ _ := ((RdC.nil _ 0 0 1).mono (L' := 0) (B' := w144.heap.size) (Nat.zero_le _) (by omega)); first | simpa using hh | simpa [Nat.add_comm, Nat.add_left_comm, Nat.add_assoc] using hh | exact hh.cast (by first | rfl | (simp; try omega)) (by first | rfl | (simp; done) | simp [u8v])
      refine op_fn (vs := [(Value.slice none 0 0), vl]) ok34 ⟨rfl, ⟨(ev_hit hN129 rfl), trivial⟩⟩ (labPut_ret ([] : List UInt8) l _ _ _ (by first | assumption | omega | (simp only [List.length_append, List.length_cons, List.length_nil, List.length_drop, List.length_take]; omega) | (dsimp only; omega) | decide | (simp [keyV, be8_len]; done)) (by first | assumption | omega | (simp only [List.length_append, List.length_cons, List.length_nil, List.length_drop, List.length_take]; omega) | (dsimp only; omega) | decide | (simp [keyV, be8_len]; done)) hq148 (show RdC w144 0 w144.heap.size 1 vl l.length (l.map u16v) from by have hh : RdC w144 0 w144.heap.size 1 _ _ _ := (hrl.mono (L' := 0) (B' := w144.heap.size) (Nat.zero_le _) (by omega)); first | exact hh | exact hh.cast (by first | omega | (simp; try omega)) (by first | rfl | simp [u16v]))) ?_
      rintro v149 w150 ⟨E151, hO149⟩
      have E151 := grown_of_below E151
      have z_w150 := E151.size
      have hrb := hrb.keep0 E151
      have hrl := hrl.keep0 E151
      have hrr := hrr.keep0 E151
      have hB115 := hB115.keep0 E151
      have hO138 := hO138.keep0 E151
      have hO143 := hO143.keep0 E151
      have hb := below_step0 hb E151 hb.size
      have hO149 : Own w150 w144.heap.size 5 1 v149 (putL l).length ((putL l).map u8v) := (hO149.mono (base' := w144.heap.size) (by omega)).cast (by simp) (by simp)
      refine op_assign (ev_hit hN129 rfl) ?_
      refine reg_nil ?_
      refine hK147 _ _ ?_
      refine seq_any fun K152 hK152 => ?_
      refine one_reg ?_
      refine op_bslice (e := 5) (pv := []) (cs := []) trivial (by kernel_rfl) ?_
      intro w153 b154 lo_b154 hi_b154 hB156 E155
      have ne_b154_v149 : v149.ownBlock ≠ some b154 := fun hh => by have := (hO149.lt _ hh).2; omega
      have z_w153 := E155.size
      have hrb := hrb.keep0 E155
      have hrl := hrl.keep0 E155
      have hrr := hrr.keep0 E155
      have hB115 := hB115.keep0 E155
      have hO138 := hO138.keep0 E155
      have hO143 := hO143.keep0 E155
      have hO149 := hO149.keep0 E155
      have hb := below_step0 hb E155 hb.size
      refine op_move (ev_hit hN129 rfl) ?_
      have hP162 := (Own.ofBx (base := w.heap.size) (sz := 1) (n := 0) hB156 rfl (by decide) (by omega))
      refine op_append slt39 (ev_hit hN129 rfl) hP162 (ev_hit hN129 rfl) (Src.ofRd Try.underlying39 (by decide) hO149.rdw (by simp [Value.oneCell', u8v])) (by unfold maxLen; omega) (by omega) hb.size ?_
      intro v157 w158 hO160 E159 hm161
      have dj163 : DJ v149 (Value.slice (some ⟨b154, 0, none⟩) 0 0) := fun k hk hg => by simp [Value.ownBlock] at hg; subst hg; exact ne_b154_v149 hk
      have dj164 : DJ v149 v157 := DJ.step hm161 (fun k hk => (hO149.lt k hk).2) dj163
      have z_w158 := E159.size
      have hrb := hrb.keepO hP162 E159 (by omega)
      have hrl := hrl.keepO hP162 E159 (by omega)
      have hrr := hrr.keepO hP162 E159 (by omega)
      have hB115 := hB115.keep E159 (by simp [Value.ownBlock]; try omega)
      have hO138 := hO138.keepT hP162 E159 (by decide)
      have hO143 := hO143.keepT hP162 E159 (by decide)
      have hO149 := hO149.keepD E159 dj163
      have hb := below_stepO hb hP162 E159 hb.size (by omega)
      have hO160 : Own w158 w.heap.size 5 1 v157 (0 + (putL l).length) (((putL l)).map u8v) := by simpa [u8v, u16v, cellsV] using hO160
      have ne_b114_v157 : v157.ownBlock ≠ some b114 := ne_step (v := (Value.slice (some ⟨b154, 0, none⟩) 0 0)) (w1 := w153) ⟨E159, hm161⟩ (by omega) (by simp [Value.ownBlock]; try omega)
      refine op_move (ev_base hN129 rfl s129_2) ?_
      have hP170 := hO160
      refine op_append slt39 (ev_hit hN129 rfl) hP170 (ev_hit hN129 rfl) (Src.ofRd Try.underlying39 (by decide) hrr (by simp [Value.oneCell', u8v])) (by unfold maxLen; omega) (by omega) hb.size ?_
      intro v165 w166 hO168 E167 hm169
      have dj171 : DJ v149 v165 := DJ.step hm169 (fun k hk => (hO149.lt k hk).2) dj164
      have z_w166 := E167.size
      have hrb := hrb.keepO hP170 E167 (by omega)
      have hrl := hrl.keepO hP170 E167 (by omega)
      have hrr := hrr.keepO hP170 E167 (by omega)
      have hB115 := hB115.keep E167 (fun hh => ne_b114_v157 hh.symm)
      have hO138 := hO138.keepT hP170 E167 (by decide)
      have hO143 := hO143.keepT hP170 E167 (by decide)
      have hO149 := hO149.keepD E167 dj164
      have hb := below_stepO hb hP170 E167 hb.size (by omega)
      have hO168 : Own w166 w.heap.size 5 1 v165 ((0 + (putL l).length) + rest.length) ((((putL l) ++ rest)).map u8v) := by simpa [u8v, u16v, cellsV] using hO168
      have ne_b114_v165 : v165.ownBlock ≠ some b114 := ne_step (w1 := w158) ⟨E167, hm169⟩ (by omega) ne_b114_v157
      have hq172 : RdC w166 0 w166.heap.size 1 v165 ((putL l) ++ rest).length (((putL l) ++ rest).map u8v) := by have hh : RdC w166 0 w166.heap.size 1 _ _ _ := (hO168.rdw.mono (L' := 0) (B' := w166.heap.size) (Nat.zero_le _) (by omega)); first | simpa using hh | simpa [Nat.add_comm, Nat.add_left_comm, Nat.add_assoc] using hh | exact hh.cast (by first | rfl | (simp; try omega)) (by first | rfl | (simp; done) | simp [u8v])
      refine op_fn (vs := [v165]) ok38 ⟨(ev_hit hN129 rfl), trivial⟩ (labTake_ret ((putL l) ++ rest) v165 _ (by first | assumption | omega | (simp only [List.length_append, List.length_cons, List.length_nil, List.length_drop, List.length_take]; omega) | (dsimp only; omega) | decide | (simp [keyV, be8_len]; done)) hq172) ?_
      rintro _ w174 ⟨E175, u173, rfl, hO173⟩
      have dj176 : DJ u173 u138 := fun k hk hg => by have q1 := (hO173.lt k hk).1; have q2 := (hO138.lt k hg).2; omega
      have dj177 : DJ u173 u143 := fun k hk hg => by have q1 := (hO173.lt k hk).1; have q2 := (hO143.lt k hg).2; omega
      have E175 := grown_of_below E175
      have z_w174 := E175.size
      have hrb := hrb.keep0 E175
      have hrl := hrl.keep0 E175
      have hrr := hrr.keep0 E175
      have hB115 := hB115.keep0 E175
      have hO138 := hO138.keep0 E175
      have hO143 := hO143.keep0 E175
      have hO149 := hO149.keep0 E175
      have hO168 := hO168.keep0 E175
      have hb := below_step0 hb E175 hb.size
      have hO173 := hO173.mono (base' := w166.heap.size) (by omega)
      refine op_move (ev_hit hN129 rfl) ?_
      refine op_extract (ev_hit hN129 rfl) rfl ?_
      refine op_extract (ev_hit hN129 rfl) rfl ?_
      refine op_extract (ev_hit hN129 rfl) rfl ?_
      refine op_assign (ev_hit hN129 rfl) ?_
      refine op_assign (ev_hit hN129 rfl) ?_
      refine op_assign (ev_hit hN129 rfl) ?_
      refine reg_nil ?_
      refine hK152 _ _ ?_
      refine seq_any fun K178 hK178 => ?_
      refine one_reg ?_
      refine op_move (ev_hit hN129 rfl) ?_
      refine op_move (ev_base hN129 rfl s129_3) ?_
      refine op_move (ev_hit hN129 rfl) ?_
      refine op_len_rd Try.underlying39 (ev_hit hN129 rfl) hO149.rdw ?_
      refine op_fn (vs := [(Value.int .i64 cut), (Value.int .i64 (((putL l).length : Nat) : Int))]) ok40 ⟨(ev_hit hN129 rfl), ⟨(ev_hit hN129 rfl), trivial⟩⟩ (Place_ret cut (((putL l).length : Nat) : Int) _ (by first | assumption | omega | (simp only [List.length_append, List.length_cons, List.length_nil, List.length_drop, List.length_take]; omega) | (dsimp only; omega) | decide | (simp [keyV, be8_len]; done)) (by first | assumption | omega | (simp only [List.length_append, List.length_cons, List.length_nil, List.length_drop, List.length_take]; omega) | (dsimp only; omega) | decide | (simp [keyV, be8_len]; done))) ?_
      rintro _ w179 ⟨E180, rfl⟩
      have E180 := grown_of_below E180
      have z_w179 := E180.size
      have hrb := hrb.keep0 E180
      have hrl := hrl.keep0 E180
      have hrr := hrr.keep0 E180
      have hB115 := hB115.keep0 E180
      have hO138 := hO138.keep0 E180
      have hO143 := hO143.keep0 E180
      have hO149 := hO149.keep0 E180
      have hO168 := hO168.keep0 E180
      have hO173 := hO173.keep0 E180
      have hb := below_step0 hb E180 hb.size
      refine op_slice_rd (lo := 0) (hi := (placeI cut ((putL l).length : Int)).toNat) slt39 (ev_hit hN129 rfl) hO149.rdw (.inl ⟨rfl, rfl⟩) (.inr ⟨_, _, rfl, (ev_hit hN129 rfl).trans (congrArg (Value.int _) (by omega))⟩) (by omega) (by omega) ?_
      intro v181 hR182
      have hR182 : RdC w179 w144.heap.size w179.heap.size 1 v181 ((placeI cut ((putL l).length : Int)).toNat) ((((putL l).take (placeI cut ((putL l).length : Int)).toNat)).map u8v) := by simpa [List.map_take] using hR182
      have hq183 : RdC w179 0 w179.heap.size 1 v181 ((putL l).take (placeI cut ((putL l).length : Int)).toNat).length (((putL l).take (placeI cut ((putL l).length : Int)).toNat).map u8v) := by have hh : RdC w179 0 w179.heap.size 1 _ _ _ := (hR182.mono (L' := 0) (B' := w179.heap.size) (Nat.zero_le _) (by omega)); first | simpa using hh | simpa [Nat.add_comm, Nat.add_left_comm, Nat.add_assoc] using hh | exact hh.cast (by first | rfl | (simp; try omega)) (by first | rfl | (simp; done) | simp [u8v])
      refine op_fn (vs := [v181]) ok38 ⟨(ev_hit hN129 rfl), trivial⟩ (labTake_ret ((putL l).take (placeI cut ((putL l).length : Int)).toNat) v181 _ (by first | assumption | omega | (simp only [List.length_append, List.length_cons, List.length_nil, List.length_drop, List.length_take]; omega) | (dsimp only; omega) | decide | (simp [keyV, be8_len]; done)) hq183) ?_
      rintro _ w185 ⟨E186, u184, rfl, hO184⟩
      have dj187 : DJ u184 u138 := fun k hk hg => by have q1 := (hO184.lt k hk).1; have q2 := (hO138.lt k hg).2; omega
      have dj188 : DJ u184 u143 := fun k hk hg => by have q1 := (hO184.lt k hk).1; have q2 := (hO143.lt k hg).2; omega
      have dj189 : DJ u184 u173 := fun k hk hg => by have q1 := (hO184.lt k hk).1; have q2 := (hO173.lt k hg).2; omega
      have E186 := grown_of_below E186
      have z_w185 := E186.size
      have hrb := hrb.keep0 E186
      have hrl := hrl.keep0 E186
      have hrr := hrr.keep0 E186
      have hB115 := hB115.keep0 E186
      have hO138 := hO138.keep0 E186
      have hO143 := hO143.keep0 E186
      have hO149 := hO149.keep0 E186
      have hO168 := hO168.keep0 E186
      have hO173 := hO173.keep0 E186
      have hR182 := hR182.keep0w E186
      have hb := below_step0 hb E186 hb.size
      have hO184 := hO184.mono (base' := w179.heap.size) (by omega)
      refine op_move (ev_hit hN129 rfl) ?_
      refine op_extract (ev_hit hN129 rfl) rfl ?_
      refine op_extract (ev_hit hN129 rfl) rfl ?_
      refine op_extract (ev_hit hN129 rfl) rfl ?_
      refine op_assign (ev_hit hN129 rfl) ?_
      refine op_assign (ev_hit hN129 rfl) ?_
      refine op_assign (ev_hit hN129 rfl) ?_
      refine reg_nil ?_
      refine hK178 _ _ ?_
      refine seq_any fun K190 hK190 => ?_
      refine one_reg ?_
      refine op_move (ev_hit hN129 rfl) ?_
      refine op_move (ev_hit hN129 rfl) ?_
      refine g_true (j := 1) (dj := 95) (b := true) rfl rfl rfl (ev_hit hN129 rfl) ?_
      refine op_move (ev_base hN129 rfl s129_9) ?_
      refine g_true (j := 1) (dj := 95) (b := true) rfl rfl rfl (ev_hit hN129 rfl) ?_
      refine op_move (ev_base hN129 rfl s129_0) ?_
      refine g_true (j := 1) (dj := 95) (b := true) rfl rfl rfl (ev_hit hN129 rfl) ?_
      have hq191 : RdC w185 0 w185.heap.size 1 vb b.length (b.map u8v) := by have hh : RdC w185 0 w185.heap.size 1 _ _ _ := (hrb.mono (L' := 0) (B' := w185.heap.size) (Nat.zero_le _) (by omega)); first | simpa using hh | simpa [Nat.add_comm, Nat.add_left_comm, Nat.add_assoc] using hh | exact hh.cast (by first | rfl | (simp; try omega)) (by first | rfl | (simp; done) | simp [u8v])
      refine op_fn (vs := [(Value.slice (some ⟨b114, 0, none⟩) b.length (b.length + 3)), vb]) ok36 ⟨(ev_hit hN129 rfl), ⟨(ev_hit hN129 rfl), trivial⟩⟩ (Ret.mono (Kept_ret b b _ vb _ (by first | assumption | omega | (simp only [List.length_append, List.length_cons, List.length_nil, List.length_drop, List.length_take]; omega) | (dsimp only; omega) | decide | (simp [keyV, be8_len]; done)) (by first | assumption | omega | (simp only [List.length_append, List.length_cons, List.length_nil, List.length_drop, List.length_take]; omega) | (dsimp only; omega) | decide | (simp [keyV, be8_len]; done)) hB115 hq191) (R' := fun v' w' => Below w185.heap.size w185 w' ∧ v' = .bool true) fun v1 w1 h => ⟨h.1, h.2.trans (congrArg Value.bool (decide_eq_true rfl))⟩) ?_
      rintro _ w192 ⟨E193, rfl⟩
      have E193 := grown_of_below E193
      have z_w192 := E193.size
      have hrb := hrb.keep0 E193
      have hrl := hrl.keep0 E193
      have hrr := hrr.keep0 E193
      have hB115 := hB115.keep0 E193
      have hO138 := hO138.keep0 E193
      have hO143 := hO143.keep0 E193
      have hO149 := hO149.keep0 E193
      have hO168 := hO168.keep0 E193
      have hO173 := hO173.keep0 E193
      have hR182 := hR182.keep0w E193
      have hO184 := hO184.keep0 E193
      have hb := below_step0 hb E193 hb.size
      refine op_pick_t (ev_hit hN129 rfl) (ev_hit hN129 rfl) ?_
      refine op_move (ev_hit hN129 rfl) ?_
      refine g_true (j := 6) (dj := 100) (b := true) rfl rfl rfl (ev_hit hN129 rfl) ?_
      refine op_move (ev_hit hN129 rfl) ?_
      refine g_true (j := 6) (dj := 100) (b := true) rfl rfl rfl (ev_hit hN129 rfl) ?_
      refine op_move (ev_hit hN129 rfl) ?_
      refine g_true (j := 6) (dj := 100) (b := true) rfl rfl rfl (ev_hit hN129 rfl) ?_
      refine op_eql (ev_hit hN129 rfl) (ev_hit hN129 rfl) (fun c103 => ?_) (fun c103 => ?_)
      · -- 103T
       refine op_pick_t (ev_hit hN129 rfl) (ev_hit hN129 rfl) ?_
       refine op_move (ev_hit hN129 rfl) ?_
       refine g_true (j := 11) (dj := 105) (b := true) rfl rfl rfl (ev_hit hN129 rfl) ?_
       refine op_move (ev_hit hN129 rfl) ?_
       refine g_true (j := 11) (dj := 105) (b := true) rfl rfl rfl (ev_hit hN129 rfl) ?_
       refine op_move (ev_hit hN129 rfl) ?_
       refine g_true (j := 11) (dj := 105) (b := true) rfl rfl rfl (ev_hit hN129 rfl) ?_
       refine op_eql (ev_hit hN129 rfl) (ev_hit hN129 rfl) (fun c108 => ?_) (fun c108 => ?_)
       · -- 108T
        refine op_pick_t (ev_hit hN129 rfl) (ev_hit hN129 rfl) ?_
        refine op_move (ev_hit hN129 rfl) ?_
        refine g_true (j := 16) (dj := 110) (b := true) rfl rfl rfl (ev_hit hN129 rfl) ?_
        refine op_move (ev_hit hN129 rfl) ?_
        refine g_true (j := 16) (dj := 110) (b := true) rfl rfl rfl (ev_hit hN129 rfl) ?_
        refine op_move (ev_hit hN129 rfl) ?_
        have htl := takeL_len b
        refine g_true (j := 16) (dj := 110) (b := true) rfl rfl rfl (ev_hit hN129 rfl) ?_
        refine op_fn (vs := [u138, u143]) ok19 ⟨(ev_hit hN129 rfl), ⟨(ev_hit hN129 rfl), trivial⟩⟩ (sameL_ret (takeL b).1 (takeL b).1 _ _ _ (by first | assumption | omega | (simp only [List.length_append, List.length_cons, List.length_nil, List.length_drop, List.length_take]; omega) | (dsimp only; omega) | decide | (simp [keyV, be8_len]; done)) (by first | assumption | omega | (simp only [List.length_append, List.length_cons, List.length_nil, List.length_drop, List.length_take]; omega) | (dsimp only; omega) | decide | (simp [keyV, be8_len]; done)) (show RdC w192 0 w192.heap.size 1 u138 (takeL b).1.length ((takeL b).1.map u16v) from by have hh : RdC w192 0 w192.heap.size 1 _ _ _ := (hO138.rdw.mono (L' := 0) (B' := w192.heap.size) (Nat.zero_le _) (by omega)); first | exact hh | exact hh.cast (by first | omega | (simp; try omega)) (by first | rfl | simp [u16v])) (show RdC w192 0 w192.heap.size 1 u143 (takeL b).1.length ((takeL b).1.map u16v) from by have hh : RdC w192 0 w192.heap.size 1 _ _ _ := (hO143.rdw.mono (L' := 0) (B' := w192.heap.size) (Nat.zero_le _) (by omega)); first | exact hh | exact hh.cast (by first | omega | (simp; try omega)) (by first | rfl | simp [u16v]))) ?_
        rintro _ w194 ⟨E195, rfl⟩
        have E195 := grown_of_below E195
        have z_w194 := E195.size
        have hrb := hrb.keep0 E195
        have hrl := hrl.keep0 E195
        have hrr := hrr.keep0 E195
        have hB115 := hB115.keep0 E195
        have hO138 := hO138.keep0 E195
        have hO143 := hO143.keep0 E195
        have hO149 := hO149.keep0 E195
        have hO168 := hO168.keep0 E195
        have hO173 := hO173.keep0 E195
        have hR182 := hR182.keep0w E195
        have hO184 := hO184.keep0 E195
        have hb := below_step0 hb E195 hb.size
        rcases Bool.eq_false_or_eq_true ((decide ((takeL b).1 = (takeL b).1))) with c113 | c113
        · -- 113T
         rw [c113]
         refine op_pick_t (ev_hit hN129 rfl) (ev_hit hN129 rfl) ?_
         refine op_move (ev_hit hN129 rfl) ?_
         refine g_true (j := 21) (dj := 115) (b := true) rfl rfl rfl (ev_hit hN129 rfl) ?_
         refine op_move (ev_hit hN129 rfl) ?_
         refine g_true (j := 21) (dj := 115) (b := true) rfl rfl rfl (ev_hit hN129 rfl) ?_
         refine op_eql (ev_hit hN129 rfl) rfl (fun c117 => ?_) (fun c117 => ?_)
         · -- 117T
          refine op_pick_t (ev_hit hN129 rfl) (ev_hit hN129 rfl) ?_
          refine op_move (ev_hit hN129 rfl) ?_
          refine g_true (j := 25) (dj := 119) (b := true) rfl rfl rfl (ev_hit hN129 rfl) ?_
          refine op_move (ev_hit hN129 rfl) ?_
          refine g_true (j := 25) (dj := 119) (b := true) rfl rfl rfl (ev_hit hN129 rfl) ?_
          refine op_move (ev_hit hN129 rfl) ?_
          refine g_true (j := 25) (dj := 119) (b := true) rfl rfl rfl (ev_hit hN129 rfl) ?_
          refine op_len_rd Try.underlying39 (ev_hit hN129 rfl) hO149.rdw ?_
          refine g_true (j := 25) (dj := 119) (b := true) rfl rfl rfl (ev_hit hN129 rfl) ?_
          refine op_eql (ev_hit hN129 rfl) (ev_hit hN129 rfl) (fun c123 => ?_) (fun c123 => ?_)
          · -- 123T
           refine op_pick_t (ev_hit hN129 rfl) (ev_hit hN129 rfl) ?_
           refine op_move (ev_hit hN129 rfl) ?_
           refine g_true (j := 31) (dj := 125) (b := true) rfl rfl rfl (ev_hit hN129 rfl) ?_
           refine op_move (ev_hit hN129 rfl) ?_
           refine g_true (j := 31) (dj := 125) (b := true) rfl rfl rfl (ev_hit hN129 rfl) ?_
           refine op_move (ev_base hN129 rfl s129_1) ?_
           have htl2 := takeL_len (putL l ++ rest)
           refine g_true (j := 31) (dj := 125) (b := true) rfl rfl rfl (ev_hit hN129 rfl) ?_
           refine op_fn (vs := [u173, vl]) ok19 ⟨(ev_hit hN129 rfl), ⟨(ev_hit hN129 rfl), trivial⟩⟩ (sameL_ret (takeL ((putL l) ++ rest)).1 l _ _ _ (by first | assumption | omega | (simp only [List.length_append, List.length_cons, List.length_nil, List.length_drop, List.length_take]; omega) | (dsimp only; omega) | decide | (simp [keyV, be8_len]; done)) (by first | assumption | omega | (simp only [List.length_append, List.length_cons, List.length_nil, List.length_drop, List.length_take]; omega) | (dsimp only; omega) | decide | (simp [keyV, be8_len]; done)) (show RdC w194 0 w194.heap.size 1 u173 (takeL ((putL l) ++ rest)).1.length ((takeL ((putL l) ++ rest)).1.map u16v) from by have hh : RdC w194 0 w194.heap.size 1 _ _ _ := (hO173.rdw.mono (L' := 0) (B' := w194.heap.size) (Nat.zero_le _) (by omega)); first | exact hh | exact hh.cast (by first | omega | (simp; try omega)) (by first | rfl | simp [u16v])) (show RdC w194 0 w194.heap.size 1 vl l.length (l.map u16v) from by have hh : RdC w194 0 w194.heap.size 1 _ _ _ := (hrl.mono (L' := 0) (B' := w194.heap.size) (Nat.zero_le _) (by omega)); first | exact hh | exact hh.cast (by first | omega | (simp; try omega)) (by first | rfl | simp [u16v]))) ?_
           rintro _ w196 ⟨E197, rfl⟩
           have E197 := grown_of_below E197
           have z_w196 := E197.size
           have hrb := hrb.keep0 E197
           have hrl := hrl.keep0 E197
           have hrr := hrr.keep0 E197
           have hB115 := hB115.keep0 E197
           have hO138 := hO138.keep0 E197
           have hO143 := hO143.keep0 E197
           have hO149 := hO149.keep0 E197
           have hO168 := hO168.keep0 E197
           have hO173 := hO173.keep0 E197
           have hR182 := hR182.keep0w E197
           have hO184 := hO184.keep0 E197
           have hb := below_step0 hb E197 hb.size
           rcases Bool.eq_false_or_eq_true ((decide ((takeL ((putL l) ++ rest)).1 = l))) with c128 | c128
           · -- 128T
            rw [c128]
            refine op_pick_t (ev_hit hN129 rfl) (ev_hit hN129 rfl) ?_
            refine op_move (ev_hit hN129 rfl) ?_
            refine g_true (j := 36) (dj := 130) (b := true) rfl rfl rfl (ev_hit hN129 rfl) ?_
            refine op_move (ev_hit hN129 rfl) ?_
            refine g_true (j := 36) (dj := 130) (b := true) rfl rfl rfl (ev_hit hN129 rfl) ?_
            refine op_eql (ev_hit hN129 rfl) rfl (fun c132 => ?_) (fun c132 => ?_)
            · -- 132T
             refine op_pick_t (ev_hit hN129 rfl) (ev_hit hN129 rfl) ?_
             refine op_assign (ev_hit hN129 rfl) ?_
             refine reg_nil ?_
             refine hK190 _ _ ?_
             refine wp_ret ?_
             refine ret1 rfl hd129 (ev_hit hN129 rfl) ⟨_, rfl, ?_⟩
             -- path 29F 33F 37T 51T 103T 108T 113T 117T 123T 128T 132T
             exact ⟨hb, rfl⟩
            · -- 132F
             exact absurd (takeL_cut c37 (by omega)) c132
           · -- 128F
            exact absurd c128 (by rw [takeL_put c37 rest]; simp)
          · -- 123F
           exact absurd (by rw [takeL_put c37 rest]) c123
         · -- 117F
          exact absurd (by rw [takeL_put c37 rest]) c117
        · -- 113F
         exact absurd c113 (by simp)
       · -- 108F
        exact absurd rfl c108
      · -- 103F
       exact absurd rfl c103
     · -- 51F
      exact absurd rfl g51
   · -- 37F
    rw [c37]
    refine g_true (j := 8) (dj := 35) (b := false) rfl rfl rfl (ev_hit hN rfl) ?_
    refine op_not (ev_hit hN rfl) ?_
    refine op_pick_f (ev_hit hN rfl) (ev_hit hN rfl) ?_
    refine reg_nil ?_
    refine hK107 _ _ ?_
    refine wp_cond_true (ev_hit hN rfl) ?_
    refine seq_any fun K198 hK198 => ?_
    refine one_reg ?_
    refine op_assign rfl ?_
    refine reg_nil ?_
    refine hK198 _ _ ?_
    refine wp_ret (then_ret ( ?_))
    refine ret1 rfl hd (ev_hit hN rfl) ⟨_, rfl, ?_⟩
    -- path 29F 33F 37F
    exact ⟨hb, rfl⟩

end Go.Proofs.Ytpmnljffdofkeaa

/- What the arguments of the laws are, told by their types. -/
namespace Go.Proofs.Ytpmnljffdofkeaa
open Go.Gx Go.RowKit
theorem rd_le {w : World} {L B sz n : Nat} {v : Value} {cs : List Value} (h : RdC w L B sz v n cs) : n ≤ 9223372036854775807 := by obtain ⟨_, _, _, _, hq, hm, _⟩ := h; exact Nat.le_trans hq hm
theorem cells35 : Try.prog.cellsOf 35 = 1 := by kernel_rfl
theorem flat_u16v (l : List UInt16) : l.flatMap (fun c => [u16v c]) = l.map u16v := by induction l with | nil => rfl | cons c l ih => simp [ih]
theorem dec23 {H : Type} {enc : TypeId × Value → H} {w : World} {base : Nat} {spare : Nat → Bool} {held : Bool} : Dec enc Try.prog w base spare held 23 (fun p : Value × List UInt16 => [p.1]) (fun p => RdC w 0 w.heap.size 1 p.1 p.2.length (p.2.map u16v)) :=
  (Dec.slice Try.underlying23 (by rw [cells35]; decide) (Dec.u16 Try.underlying35) (fun _ _ => by rw [cells35]; rfl)).map fun p hp => ⟨p, rfl, by have hq := hp.1; rwa [cells35, flat_u16v] at hq⟩
theorem dec22 {H : Type} {enc : TypeId × Value → H} {w : World} {base : Nat} {spare : Nat → Bool} {held : Bool} : Dec enc Try.prog w base spare held 22 (fun p : Value × List UInt16 => [p.1]) (fun p => RdC w 0 w.heap.size 1 p.1 p.2.length (p.2.map u16v)) :=
  (Dec.slice Try.underlying22 (by rw [cells35]; decide) (Dec.u16 Try.underlying35) (fun _ _ => by rw [cells35]; rfl)).map fun p hp => ⟨p, rfl, by have hq := hp.1; rwa [cells35, flat_u16v] at hq⟩
theorem cells5 : Try.prog.cellsOf 5 = 1 := by kernel_rfl
theorem flat_u8v (l : List UInt8) : l.flatMap (fun c => [u8v c]) = l.map u8v := by induction l with | nil => rfl | cons c l ih => simp [ih]
theorem dec39 {H : Type} {enc : TypeId × Value → H} {w : World} {base : Nat} {spare : Nat → Bool} {held : Bool} : Dec enc Try.prog w base spare held 39 (fun p : Value × List UInt8 => [p.1]) (fun p => RdC w 0 w.heap.size 1 p.1 p.2.length (p.2.map u8v)) :=
  (Dec.slice Try.underlying39 (by rw [cells5]; decide) (Dec.u8 Try.underlying5) (fun _ _ => by rw [cells5]; rfl)).map fun p hp => ⟨p, rfl, by have hq := hp.1; rwa [cells5, flat_u8v] at hq⟩
theorem cells23 : Try.prog.cellsOf 23 = 1 := by kernel_rfl
theorem dec49 {H : Type} {enc : TypeId × Value → H} {w : World} {base : Nat} {spare : Nat → Bool} {held : Bool} : Dec enc Try.prog w base spare held 49 (fun p : Value × List (Value × List UInt16) => [p.1]) (fun p => RdC w 0 w.heap.size 1 p.1 p.2.length (p.2.flatMap (fun (x9 : Value × List UInt16) => [x9.1])) ∧ ∀ x ∈ p.2, (RdC w 0 w.heap.size 1 x.1 x.2.length (x.2.map u16v))) :=
  (Dec.slice Try.underlying49 (by rw [cells23]; decide) dec23 (fun _ _ => by rw [cells23]; rfl)).map fun p hp => ⟨p, rfl, by have hq := hp.1; rw [cells23] at hq; exact hq, hp.2⟩
end Go.Proofs.Ytpmnljffdofkeaa
