/- Walks, written by a program: what each function of the translation hands back. -/
import Derived.Test.YtpmnljffdofkeaaProg
import Derived.KernelRfl
import Derived.Test.YtpmnljffdofkeaaB6
namespace Go.Proofs.Ytpmnljffdofkeaa
open Go.Gx Go.RowKit
attribute [local irreducible] wpList wpStill Code.wp Calls

theorem begun1_ret (w : World) : Ret Try.prog 23 #[] w (fun v' w' => Below w.heap.size w w' ∧ v' = .bool true) := by
 have hz1 : (normL [3, 1, 3]).length = 2 := by decide +kernel
 have hz2 : (takeL [1, 0, 7]).1.length = 1 := by decide +kernel
 have hb := Below.refl w.heap.size w
 refine enter (N := 74) Try.func23 rfl rfl (by simp) fun a0 hN hd hA => ?_
 clear hA
 refine seq_any fun K1 hK1 => ?_
 refine one_reg ?_
 refine op_assign rfl ?_
 refine reg_nil ?_
 refine hK1 _ _ ?_
 refine seq_any fun K2 hK2 => ?_
 refine one_reg ?_
 refine op_bslice (e := 35) (pv := [(0, (Value.int .u16 3)), (1, (Value.int .u16 1)), (2, (Value.int .u16 3))]) (cs := [(Value.int .u16 3), (Value.int .u16 1), (Value.int .u16 3)]) ⟨rfl, rfl, ⟨rfl, rfl, ⟨rfl, rfl, trivial⟩⟩⟩ (by kernel_rfl) ?_
 intro w3 b4 lo_b4 hi_b4 hB6 E5
 have z_w3 := E5.size
 have hb := below_step0 hb E5 hb.size
 refine op_fn (vs := [(Value.slice (some ⟨b4, 0, none⟩) 3 3)]) ok24 ⟨(ev_hit hN rfl), trivial⟩ (normW_ret [3, 1, 3] _ _ (by first | assumption | omega | (simp only [List.length_append, List.length_cons, List.length_nil, List.length_drop, List.length_take]; omega) | (dsimp only; omega) | decide | (simp [keyV, be8_len]; done)) (show RdC w3 0 w3.heap.size 1 (Value.slice (some ⟨b4, 0, none⟩) 3 3) [3, 1, 3].length ([3, 1, 3].map u16v) from by have hh : RdC w3 0 w3.heap.size 1 _ _ _ := ((RdC.ofBx (sz := 1) (n := 3) hB6 rfl (by decide)).mono (L' := 0) (B' := w3.heap.size) (Nat.zero_le _) (by have := hB6.lt; omega)); first | exact hh | exact hh.cast (by first | omega | (simp; try omega)) (by first | rfl | simp [u16v]))) ?_
 rintro _ w8 ⟨E9, v7, rfl, hO7⟩
 have E9 := grown_of_below E9
 have z_w8 := E9.size
 have hB6 := hB6.keep0 E9
 have hb := below_step0 hb E9 hb.size
 have hO7 := hO7.mono (base' := w.heap.size) (by omega)
 have hnl7 := normL_len [3, 1, 3]
 refine op_move (ev_hit hN rfl) ?_
 refine op_extract (ev_hit hN rfl) rfl ?_
 refine op_extract (ev_hit hN rfl) rfl ?_
 refine op_assign (ev_hit hN rfl) ?_
 refine op_assign (ev_hit hN rfl) ?_
 refine reg_nil ?_
 refine hK2 _ _ ?_
 refine seq_any fun K10 hK10 => ?_
 refine one_reg ?_
 refine op_bslice (e := 5) (pv := [(0, (Value.int .u8 1)), (1, (Value.int .u8 0)), (2, (Value.int .u8 7))]) (cs := [(Value.int .u8 1), (Value.int .u8 0), (Value.int .u8 7)]) ⟨rfl, rfl, ⟨rfl, rfl, ⟨rfl, rfl, trivial⟩⟩⟩ (by kernel_rfl) ?_
 intro w11 b12 lo_b12 hi_b12 hB14 E13
 have z_w11 := E13.size
 have hB6 := hB6.keep0 E13
 have hO7 := hO7.keep0 E13
 have hb := below_step0 hb E13 hb.size
 have hq15 : RdC w11 0 w11.heap.size 1 (Value.slice (some ⟨b12, 0, none⟩) 3 3) [1, 0, 7].length ([1, 0, 7].map u8v) := by have hh : RdC w11 0 w11.heap.size 1 _ _ _ := ((RdC.ofBx (sz := 1) (n := 3) hB14 rfl (by decide)).mono (L' := 0) (B' := w11.heap.size) (Nat.zero_le _) (by have := hB14.lt; omega)); first | simpa using hh | simpa [Nat.add_comm, Nat.add_left_comm, Nat.add_assoc] using hh | exact hh.cast (by first | rfl | (simp; try omega)) (by first | rfl | (simp; done) | simp [u8v])
 refine op_fn (vs := [(Value.slice (some ⟨b12, 0, none⟩) 3 3)]) ok38 ⟨(ev_hit hN rfl), trivial⟩ (labTake_ret [1, 0, 7] (Value.slice (some ⟨b12, 0, none⟩) 3 3) _ (by first | assumption | omega | (simp only [List.length_append, List.length_cons, List.length_nil, List.length_drop, List.length_take]; omega) | (dsimp only; omega) | decide | (simp [keyV, be8_len]; done)) hq15) ?_
 rintro _ w17 ⟨E18, u16, rfl, hO16⟩
 have dj19 : DJ u16 v7 := fun k hk hg => by have q1 := (hO16.lt k hk).1; have q2 := (hO7.lt k hg).2; omega
 have E18 := grown_of_below E18
 have z_w17 := E18.size
 have hB6 := hB6.keep0 E18
 have hO7 := hO7.keep0 E18
 have hB14 := hB14.keep0 E18
 have hb := below_step0 hb E18 hb.size
 have hO16 := hO16.mono (base' := w11.heap.size) (by omega)
 refine op_move (ev_hit hN rfl) ?_
 refine op_extract (ev_hit hN rfl) rfl ?_
 refine op_extract (ev_hit hN rfl) rfl ?_
 refine op_extract (ev_hit hN rfl) rfl ?_
 refine op_assign (ev_hit hN rfl) ?_
 refine op_assign (ev_hit hN rfl) ?_
 refine op_assign (ev_hit hN rfl) ?_
 refine reg_nil ?_
 refine hK10 _ _ ?_
 refine seq_any fun K20 hK20 => ?_
 refine one_reg ?_
 refine op_move (ev_hit hN rfl) ?_
 refine op_eql (ev_hit hN rfl) rfl (fun c18 => ?_) (fun c18 => ?_)
 · -- 18T
  refine op_move (ev_hit hN rfl) ?_
  refine g_true (j := 2) (dj := 19) (b := true) rfl rfl rfl (ev_hit hN rfl) ?_
  refine op_move (ev_hit hN rfl) ?_
  refine g_true (j := 2) (dj := 19) (b := true) rfl rfl rfl (ev_hit hN rfl) ?_
  refine op_len_rd Try.underlying23 (ev_hit hN rfl) hO7.rdw ?_
  refine g_true (j := 2) (dj := 19) (b := true) rfl rfl rfl (ev_hit hN rfl) ?_
  refine op_eql (ev_hit hN rfl) rfl (fun c22 => ?_) (fun c22 => ?_)
  · -- 22T
   refine op_pick_t (ev_hit hN rfl) (ev_hit hN rfl) ?_
   refine op_move (ev_hit hN rfl) ?_
   refine g_true (j := 7) (dj := 24) (b := true) rfl rfl rfl (ev_hit hN rfl) ?_
   refine op_move (ev_hit hN rfl) ?_
   refine g_true (j := 7) (dj := 24) (b := true) rfl rfl rfl (ev_hit hN rfl) ?_
   refine op_index_rd slt23 (ev_hit hN rfl) hO7.rdw rfl (by omega) (by omega) ?_
   intro b21 o22 h0b21 h1b21 hc23
   refine g_true (j := 7) (dj := 24) (b := true) rfl rfl rfl (ev_hit hN rfl) ?_
   refine op_load1 (v := (Value.int .u16 (((normL [3, 1, 3]).getD 0 0).toNat : Int))) one35 (ev_hit hN rfl) (by have := hc23 0 (Value.int .u16 (((normL [3, 1, 3]).getD 0 0).toNat : Int)) (by decide) (el_u16 (i := 0) (by omega) (by omega)); simpa using this) ?_
   refine g_true (j := 7) (dj := 24) (b := true) rfl rfl rfl (ev_hit hN rfl) ?_
   refine op_eql (ev_hit hN rfl) rfl (fun c28 => ?_) (fun c28 => ?_)
   · -- 28T
    refine op_pick_t (ev_hit hN rfl) (ev_hit hN rfl) ?_
    refine op_move (ev_hit hN rfl) ?_
    refine g_true (j := 13) (dj := 30) (b := true) rfl rfl rfl (ev_hit hN rfl) ?_
    refine op_move (ev_hit hN rfl) ?_
    refine g_true (j := 13) (dj := 30) (b := true) rfl rfl rfl (ev_hit hN rfl) ?_
    refine op_fn (vs := [v7]) ok26 ⟨(ev_hit hN rfl), trivial⟩ (labMay_ret (normL [3, 1, 3]) _ _ (by first | assumption | omega | (simp only [List.length_append, List.length_cons, List.length_nil, List.length_drop, List.length_take]; omega) | (dsimp only; omega) | decide | (simp [keyV, be8_len]; done)) (show RdC w17 0 w17.heap.size 1 v7 (normL [3, 1, 3]).length ((normL [3, 1, 3]).map u16v) from by have hh : RdC w17 0 w17.heap.size 1 _ _ _ := (hO7.rdw.mono (L' := 0) (B' := w17.heap.size) (Nat.zero_le _) (by omega)); first | exact hh | exact hh.cast (by first | omega | (simp; try omega)) (by first | rfl | simp [u16v]))) ?_
    rintro _ w24 ⟨E25, rfl⟩
    have E25 := grown_of_below E25
    have z_w24 := E25.size
    have hB6 := hB6.keep0 E25
    have hO7 := hO7.keep0 E25
    have hB14 := hB14.keep0 E25
    have hO16 := hO16.keep0 E25
    have hb := below_step0 hb E25 hb.size
    rcases Bool.eq_false_or_eq_true ((mayL (normL [3, 1, 3]))) with c32 | c32
    · -- 32T
     rw [c32]
     refine op_pick_t (ev_hit hN rfl) (ev_hit hN rfl) ?_
     refine op_move (ev_hit hN rfl) ?_
     refine g_true (j := 17) (dj := 34) (b := true) rfl rfl rfl (ev_hit hN rfl) ?_
     refine op_move (ev_hit hN rfl) ?_
     refine g_true (j := 17) (dj := 34) (b := true) rfl rfl rfl (ev_hit hN rfl) ?_
     refine op_fn (vs := [(Value.slice none 0 0), v7]) ok27 ⟨rfl, ⟨(ev_hit hN rfl), trivial⟩⟩ (flowsW_ret ([] : Lb) (normL [3, 1, 3]) _ _ _ (by first | assumption | omega | (simp only [List.length_append, List.length_cons, List.length_nil, List.length_drop, List.length_take]; omega) | (dsimp only; omega) | decide | (simp [keyV, be8_len]; done)) (by first | assumption | omega | (simp only [List.length_append, List.length_cons, List.length_nil, List.length_drop, List.length_take]; omega) | (dsimp only; omega) | decide | (simp [keyV, be8_len]; done)) (show RdC w24 0 w24.heap.size 1 (Value.slice none 0 0) ([] : Lb).length (([] : Lb).map u16v) from by have hh : RdC w24 0 w24.heap.size 1 _ _ _ := ((RdC.nil _ 0 0 1).mono (L' := 0) (B' := w24.heap.size) (Nat.zero_le _) (by omega)); first | exact hh | exact hh.cast (by first | omega | (simp; try omega)) (by first | rfl | simp [u16v])) (show RdC w24 0 w24.heap.size 1 v7 (normL [3, 1, 3]).length ((normL [3, 1, 3]).map u16v) from by have hh : RdC w24 0 w24.heap.size 1 _ _ _ := (hO7.rdw.mono (L' := 0) (B' := w24.heap.size) (Nat.zero_le _) (by omega)); first | exact hh | exact hh.cast (by first | omega | (simp; try omega)) (by first | rfl | simp [u16v]))) ?_
     rintro _ w26 ⟨E27, rfl⟩
     have E27 := grown_of_below E27
     have z_w26 := E27.size
     have hB6 := hB6.keep0 E27
     have hO7 := hO7.keep0 E27
     have hB14 := hB14.keep0 E27
     have hO16 := hO16.keep0 E27
     have hb := below_step0 hb E27 hb.size
     rcases Bool.eq_false_or_eq_true ((flowsL ([] : Lb) (normL [3, 1, 3]))) with c36 | c36
     · -- 36T
      rw [c36]
      refine op_pick_t (ev_hit hN rfl) (ev_hit hN rfl) ?_
      refine op_move (ev_hit hN rfl) ?_
      refine g_true (j := 21) (dj := 38) (b := true) rfl rfl rfl (ev_hit hN rfl) ?_
      refine op_move (ev_hit hN rfl) ?_
      refine g_true (j := 21) (dj := 38) (b := true) rfl rfl rfl (ev_hit hN rfl) ?_
      refine op_fn (vs := [v7, (Value.slice none 0 0)]) ok27 ⟨(ev_hit hN rfl), ⟨rfl, trivial⟩⟩ (flowsW_ret (normL [3, 1, 3]) ([] : Lb) _ _ _ (by first | assumption | omega | (simp only [List.length_append, List.length_cons, List.length_nil, List.length_drop, List.length_take]; omega) | (dsimp only; omega) | decide | (simp [keyV, be8_len]; done)) (by first | assumption | omega | (simp only [List.length_append, List.length_cons, List.length_nil, List.length_drop, List.length_take]; omega) | (dsimp only; omega) | decide | (simp [keyV, be8_len]; done)) (show RdC w26 0 w26.heap.size 1 v7 (normL [3, 1, 3]).length ((normL [3, 1, 3]).map u16v) from by have hh : RdC w26 0 w26.heap.size 1 _ _ _ := (hO7.rdw.mono (L' := 0) (B' := w26.heap.size) (Nat.zero_le _) (by omega)); first | exact hh | exact hh.cast (by first | omega | (simp; try omega)) (by first | rfl | simp [u16v])) (show RdC w26 0 w26.heap.size 1 (Value.slice none 0 0) ([] : Lb).length (([] : Lb).map u16v) from by have hh : RdC w26 0 w26.heap.size 1 _ _ _ := ((RdC.nil _ 0 0 1).mono (L' := 0) (B' := w26.heap.size) (Nat.zero_le _) (by omega)); first | exact hh | exact hh.cast (by first | omega | (simp; try omega)) (by first | rfl | simp [u16v]))) ?_
      rintro _ w28 ⟨E29, rfl⟩
      have E29 := grown_of_below E29
      have z_w28 := E29.size
      have hB6 := hB6.keep0 E29
      have hO7 := hO7.keep0 E29
      have hB14 := hB14.keep0 E29
      have hO16 := hO16.keep0 E29
      have hb := below_step0 hb E29 hb.size
      rcases Bool.eq_false_or_eq_true ((flowsL (normL [3, 1, 3]) ([] : Lb))) with c40 | c40
      · -- 40T
       exact absurd c40 (by decide +kernel)
      · -- 40F
       rw [c40]
       refine g_true (j := 21) (dj := 38) (b := true) rfl rfl rfl (ev_hit hN rfl) ?_
       refine op_not (ev_hit hN rfl) ?_
       refine op_pick_t (ev_hit hN rfl) (ev_hit hN rfl) ?_
       refine op_move (ev_hit hN rfl) ?_
       refine g_true (j := 26) (dj := 43) (b := true) rfl rfl rfl (ev_hit hN rfl) ?_
       refine op_move (ev_hit hN rfl) ?_
       refine g_true (j := 26) (dj := 43) (b := true) rfl rfl rfl (ev_hit hN rfl) ?_
       refine op_bslice (e := 35) (pv := [(0, (Value.int .u16 2))]) (cs := [(Value.int .u16 2)]) ⟨rfl, rfl, trivial⟩ (by kernel_rfl) ?_
       intro w30 b31 lo_b31 hi_b31 hB33 E32
       have ne_b31_v7 : v7.ownBlock ≠ some b31 := fun hh => by have := (hO7.lt _ hh).2; omega
       have ne_b31_u16 : u16.ownBlock ≠ some b31 := fun hh => by have := (hO16.lt _ hh).2; omega
       have z_w30 := E32.size
       have hB6 := hB6.keep0 E32
       have hO7 := hO7.keep0 E32
       have hB14 := hB14.keep0 E32
       have hO16 := hO16.keep0 E32
       have hb := below_step0 hb E32 hb.size
       have hz3 := join_len (normL [3, 1, 3]) [2]
       have hz4 : (joinL (normL [3, 1, 3]) [2]).length = 3 := by decide +kernel
       refine g_true (j := 26) (dj := 43) (b := true) rfl rfl rfl (ev_hit hN rfl) ?_
       refine op_fn (vs := [v7, (Value.slice (some ⟨b31, 0, none⟩) 1 1)]) ok28 ⟨(ev_hit hN rfl), ⟨(ev_hit hN rfl), trivial⟩⟩ (joinW_ret (normL [3, 1, 3]) [2] _ _ _ (by first | assumption | omega | (simp only [List.length_append, List.length_cons, List.length_nil, List.length_drop, List.length_take]; omega) | (dsimp only; omega) | decide | (simp [keyV, be8_len]; done)) (by first | assumption | omega | (simp only [List.length_append, List.length_cons, List.length_nil, List.length_drop, List.length_take]; omega) | (dsimp only; omega) | decide | (simp [keyV, be8_len]; done)) (show RdC w30 0 w30.heap.size 1 v7 (normL [3, 1, 3]).length ((normL [3, 1, 3]).map u16v) from by have hh : RdC w30 0 w30.heap.size 1 _ _ _ := (hO7.rdw.mono (L' := 0) (B' := w30.heap.size) (Nat.zero_le _) (by omega)); first | exact hh | exact hh.cast (by first | omega | (simp; try omega)) (by first | rfl | simp [u16v])) (show RdC w30 0 w30.heap.size 1 (Value.slice (some ⟨b31, 0, none⟩) 1 1) [2].length ([2].map u16v) from by have hh : RdC w30 0 w30.heap.size 1 _ _ _ := ((RdC.ofBx (sz := 1) (n := 1) hB33 rfl (by decide)).mono (L' := 0) (B' := w30.heap.size) (Nat.zero_le _) (by have := hB33.lt; omega)); first | exact hh | exact hh.cast (by first | omega | (simp; try omega)) (by first | rfl | simp [u16v]))) ?_
       rintro v34 w35 ⟨E36, hO34⟩
       have dj37 : DJ v34 v7 := fun k hk hg => by have q1 := (hO34.lt k hk).1; have q2 := (hO7.lt k hg).2; omega
       have dj38 : DJ v34 u16 := fun k hk hg => by have q1 := (hO34.lt k hk).1; have q2 := (hO16.lt k hg).2; omega
       have E36 := grown_of_below E36
       have z_w35 := E36.size
       have hB6 := hB6.keep0 E36
       have hO7 := hO7.keep0 E36
       have hB14 := hB14.keep0 E36
       have hO16 := hO16.keep0 E36
       have hB33 := hB33.keep0 E36
       have hb := below_step0 hb E36 hb.size
       have hO34 := hO34.mono (base' := w.heap.size) (by omega)
       refine g_true (j := 26) (dj := 43) (b := true) rfl rfl rfl (ev_hit hN rfl) ?_
       refine op_len_rd Try.underlying23 (ev_hit hN rfl) hO34.rdw ?_
       refine g_true (j := 26) (dj := 43) (b := true) rfl rfl rfl (ev_hit hN rfl) ?_
       refine op_eql (ev_hit hN rfl) rfl (fun c48 => ?_) (fun c48 => ?_)
       · -- 48T
        refine op_pick_t (ev_hit hN rfl) (ev_hit hN rfl) ?_
        refine op_move (ev_hit hN rfl) ?_
        refine g_true (j := 33) (dj := 50) (b := true) rfl rfl rfl (ev_hit hN rfl) ?_
        refine op_move (ev_hit hN rfl) ?_
        refine g_true (j := 33) (dj := 50) (b := true) rfl rfl rfl (ev_hit hN rfl) ?_
        refine op_eql (ev_hit hN rfl) rfl (fun c52 => ?_) (fun c52 => ?_)
        · -- 52T
         refine op_pick_t (ev_hit hN rfl) (ev_hit hN rfl) ?_
         refine op_move (ev_hit hN rfl) ?_
         refine g_true (j := 37) (dj := 54) (b := true) rfl rfl rfl (ev_hit hN rfl) ?_
         refine op_move (ev_hit hN rfl) ?_
         refine g_true (j := 37) (dj := 54) (b := true) rfl rfl rfl (ev_hit hN rfl) ?_
         refine op_eql (ev_hit hN rfl) rfl (fun c56 => ?_) (fun c56 => ?_)
         · -- 56T
          refine op_pick_t (ev_hit hN rfl) (ev_hit hN rfl) ?_
          refine op_move (ev_hit hN rfl) ?_
          refine g_true (j := 41) (dj := 58) (b := true) rfl rfl rfl (ev_hit hN rfl) ?_
          refine op_move (ev_hit hN rfl) ?_
          refine g_true (j := 41) (dj := 58) (b := true) rfl rfl rfl (ev_hit hN rfl) ?_
          refine op_len_rd Try.underlying23 (ev_hit hN rfl) hO16.rdw ?_
          refine g_true (j := 41) (dj := 58) (b := true) rfl rfl rfl (ev_hit hN rfl) ?_
          refine op_eql (ev_hit hN rfl) rfl (fun c61 => ?_) (fun c61 => ?_)
          · -- 61T
           refine op_pick_t (ev_hit hN rfl) (ev_hit hN rfl) ?_
           refine op_move (ev_hit hN rfl) ?_
           refine g_true (j := 46) (dj := 63) (b := true) rfl rfl rfl (ev_hit hN rfl) ?_
           refine op_move (ev_hit hN rfl) ?_
           refine g_true (j := 46) (dj := 63) (b := true) rfl rfl rfl (ev_hit hN rfl) ?_
           refine op_index_rd slt23 (ev_hit hN rfl) hO16.rdw rfl (by omega) (by omega) ?_
           intro b39 o40 h0b39 h1b39 hc41
           refine g_true (j := 46) (dj := 63) (b := true) rfl rfl rfl (ev_hit hN rfl) ?_
           refine op_load1 (v := (Value.int .u16 (((takeL [1, 0, 7]).1.getD 0 0).toNat : Int))) one35 (ev_hit hN rfl) (by have := hc41 0 (Value.int .u16 (((takeL [1, 0, 7]).1.getD 0 0).toNat : Int)) (by decide) (el_u16 (i := 0) (by omega) (by omega)); simpa using this) ?_
           refine g_true (j := 46) (dj := 63) (b := true) rfl rfl rfl (ev_hit hN rfl) ?_
           refine op_eql (ev_hit hN rfl) rfl (fun c67 => ?_) (fun c67 => ?_)
           · -- 67T
            refine op_pick_t (ev_hit hN rfl) (ev_hit hN rfl) ?_
            refine op_move (ev_hit hN rfl) ?_
            refine g_true (j := 52) (dj := 69) (b := true) rfl rfl rfl (ev_hit hN rfl) ?_
            refine op_move (ev_hit hN rfl) ?_
            refine g_true (j := 52) (dj := 69) (b := true) rfl rfl rfl (ev_hit hN rfl) ?_
            refine op_fn (vs := [(Value.slice none 0 0), v7]) ok31 ⟨rfl, ⟨(ev_hit hN rfl), trivial⟩⟩ (lcmpW_ret ([] : Lb) (normL [3, 1, 3]) _ _ _ (by first | assumption | omega | (simp only [List.length_append, List.length_cons, List.length_nil, List.length_drop, List.length_take]; omega) | (dsimp only; omega) | decide | (simp [keyV, be8_len]; done)) (by first | assumption | omega | (simp only [List.length_append, List.length_cons, List.length_nil, List.length_drop, List.length_take]; omega) | (dsimp only; omega) | decide | (simp [keyV, be8_len]; done)) (show RdC w35 0 w35.heap.size 1 (Value.slice none 0 0) ([] : Lb).length (([] : Lb).map u16v) from by have hh : RdC w35 0 w35.heap.size 1 _ _ _ := ((RdC.nil _ 0 0 1).mono (L' := 0) (B' := w35.heap.size) (Nat.zero_le _) (by omega)); first | exact hh | exact hh.cast (by first | omega | (simp; try omega)) (by first | rfl | simp [u16v])) (show RdC w35 0 w35.heap.size 1 v7 (normL [3, 1, 3]).length ((normL [3, 1, 3]).map u16v) from by have hh : RdC w35 0 w35.heap.size 1 _ _ _ := (hO7.rdw.mono (L' := 0) (B' := w35.heap.size) (Nat.zero_le _) (by omega)); first | exact hh | exact hh.cast (by first | omega | (simp; try omega)) (by first | rfl | simp [u16v]))) ?_
            rintro _ w42 ⟨E43, rfl⟩
            have E43 := grown_of_below E43
            have z_w42 := E43.size
            have hB6 := hB6.keep0 E43
            have hO7 := hO7.keep0 E43
            have hB14 := hB14.keep0 E43
            have hO16 := hO16.keep0 E43
            have hB33 := hB33.keep0 E43
            have hO34 := hO34.keep0 E43
            have hb := below_step0 hb E43 hb.size
            refine g_true (j := 52) (dj := 69) (b := true) rfl rfl rfl (ev_hit hN rfl) ?_
            refine op_eql (ev_hit hN rfl) rfl (fun c72 => ?_) (fun c72 => ?_)
            · -- 72T
             refine op_pick_t (ev_hit hN rfl) (ev_hit hN rfl) ?_
             refine op_assign (ev_hit hN rfl) ?_
             refine reg_nil ?_
             refine hK20 _ _ ?_
             refine wp_ret ?_
             refine ret1 rfl hd (ev_hit hN rfl) ⟨_, rfl, ?_⟩
             -- path 18T 22T 28T 32T 36T 40F 48T 52T 56T 61T 67T 72T
             exact ⟨hb, rfl⟩
            · -- 72F
             exact absurd c72 (by decide +kernel)
           · -- 67F
            exact absurd c67 (by decide +kernel)
          · -- 61F
           exact absurd c61 (by decide +kernel)
         · -- 56F
          exact absurd c56 (by decide +kernel)
        · -- 52F
         exact absurd c52 (by decide +kernel)
       · -- 48F
        exact absurd c48 (by decide +kernel)
     · -- 36F
      exact absurd c36 (by decide +kernel)
    · -- 32F
     exact absurd c32 (by decide +kernel)
   · -- 28F
    exact absurd c28 (by decide +kernel)
  · -- 22F
   exact absurd c22 (by decide +kernel)
 · -- 18F
  exact absurd c18 (by decide +kernel)

theorem LabelMakes_ret (l : Lb) (vl : Value) (w : World) (hll : l.length ≤ 9223372036854775807) (hrl : RdC w 0 w.heap.size 1 vl l.length (l.map u16v)) : Ret Try.prog 6 #[vl] w (fun v' w' => Below w.heap.size w w' ∧ v' = .bool true) := by
 have hb := Below.refl w.heap.size w
 refine enter (N := 58) Try.func6 rfl rfl (by simp) fun a0 hN hd hA => ?_
 have s0 : a0.tmps.getD 0 undef = vl := hA 0 (by simp)
 clear hA
 refine seq_any fun K44 hK44 => ?_
 refine one_reg ?_
 refine op_assign rfl ?_
 refine reg_nil ?_
 refine hK44 _ _ ?_
 refine seq_any fun K45 hK45 => ?_
 refine seq_any fun K46 hK46 => ?_
 refine one_reg ?_
 refine op_fn (vs := []) ok23 trivial (begun1_ret _) ?_
 rintro _ w47 ⟨E48, rfl⟩
 have E48 := grown_of_below E48
 have z_w47 := E48.size
 have hrl := hrl.keep0 E48
 have hb := below_step0 hb E48 hb.size
 refine op_not (ev_hit hN rfl) ?_
 refine reg_nil ?_
 refine hK46 _ _ ?_
 refine wp_cond_false (ev_hit hN rfl) ?_
 refine wp_skip ?_
 refine hK45 _ _ ?_
 refine seq_any fun K49 hK49 => ?_
 refine seq_any fun K50 hK50 => ?_
 refine one_reg ?_
 refine op_move (ev_base hN rfl s0) ?_
 refine op_len_rd Try.underlying22 (ev_hit hN rfl) hrl ?_
 refine op_gtr (ev_hit hN rfl) rfl (fun c14 => ?_) (fun c14 => ?_)
 · -- 14T
  refine reg_nil ?_
  refine hK50 _ _ ?_
  refine wp_cond_true (ev_hit hN rfl) ?_
  refine seq_any fun K51 hK51 => ?_
  refine one_reg ?_
  refine op_assign rfl ?_
  refine reg_nil ?_
  refine hK51 _ _ ?_
  refine wp_ret (then_ret ( ?_))
  refine ret1 rfl hd (ev_hit hN rfl) ⟨_, rfl, ?_⟩
  -- path 14T
  exact ⟨hb, rfl⟩
 · -- 14F
  refine reg_nil ?_
  refine hK50 _ _ ?_
  refine wp_cond_false (ev_hit hN rfl) ?_
  refine wp_skip ?_
  refine hK49 _ _ ?_
  refine seq_any fun K52 hK52 => ?_
  refine one_reg ?_
  refine op_bslice (e := 35) (pv := []) (cs := []) trivial (by kernel_rfl) ?_
  intro w53 b54 lo_b54 hi_b54 hB56 E55
  have z_w53 := E55.size
  have hrl := hrl.keep0 E55
  have hb := below_step0 hb E55 hb.size
  refine op_move (ev_base hN rfl s0) ?_
  have hP62 := (Own.ofBx (base := w.heap.size) (sz := 1) (n := 0) hB56 rfl (by decide) (by omega))
  refine op_append slt22 (ev_hit hN rfl) hP62 (ev_hit hN rfl) (Src.ofRd Try.underlying22 (by decide) hrl (one_u16 _)) (by unfold maxLen; omega) (by omega) hb.size ?_
  intro v57 w58 hO60 E59 hm61
  have z_w58 := E59.size
  have hrl := hrl.keepO hP62 E59 (by omega)
  have hb := below_stepO hb hP62 E59 hb.size (by omega)
  have hO60 : Own w58 w.heap.size 35 1 v57 (0 + l.length) ((l).map u16v) := by simpa [u8v, u16v, cellsV] using hO60
  refine op_assign (ev_hit hN rfl) ?_
  refine reg_nil ?_
  refine hK52 _ _ ?_
  refine seq_any fun K63 hK63 => ?_
  refine one_reg ?_
  refine op_move (ev_base hN rfl s0) ?_
  refine op_fn (vs := [vl]) ok24 ⟨(ev_hit hN rfl), trivial⟩ (normW_ret l _ _ (by first | assumption | omega | (simp only [List.length_append, List.length_cons, List.length_nil, List.length_drop, List.length_take]; omega) | (dsimp only; omega) | decide | (simp [keyV, be8_len]; done)) (show RdC w58 0 w58.heap.size 1 vl l.length (l.map u16v) from by have hh : RdC w58 0 w58.heap.size 1 _ _ _ := (hrl.mono (L' := 0) (B' := w58.heap.size) (Nat.zero_le _) (by omega)); first | exact hh | exact hh.cast (by first | omega | (simp; try omega)) (by first | rfl | simp [u16v]))) ?_
  rintro _ w65 ⟨E66, v64, rfl, hO64⟩
  have dj67 : DJ v64 v57 := fun k hk hg => by have q1 := (hO64.lt k hk).1; have q2 := (hO60.lt k hg).2; omega
  have E66 := grown_of_below E66
  have z_w65 := E66.size
  have hrl := hrl.keep0 E66
  have hO60 := hO60.keep0 E66
  have hb := below_step0 hb E66 hb.size
  have hO64 := hO64.mono (base' := w.heap.size) (by omega)
  have hnl64 := normL_len l
  refine op_move (ev_hit hN rfl) ?_
  refine op_extract (ev_hit hN rfl) rfl ?_
  refine op_extract (ev_hit hN rfl) rfl ?_
  refine op_assign (ev_hit hN rfl) ?_
  refine op_assign (ev_hit hN rfl) ?_
  refine reg_nil ?_
  refine hK63 _ _ ?_
  refine seq_any fun K68 hK68 => ?_
  refine one_reg ?_
  refine op_move (ev_hit hN rfl) ?_
  refine op_fn (vs := [v57]) ok25 ⟨(ev_hit hN rfl), trivial⟩ (rnormW_ret l _ _ (by first | assumption | omega | (simp only [List.length_append, List.length_cons, List.length_nil, List.length_drop, List.length_take]; omega) | (dsimp only; omega) | decide | (simp [keyV, be8_len]; done)) (show RdC w65 0 w65.heap.size 1 v57 l.length (l.map u16v) from by have hh : RdC w65 0 w65.heap.size 1 _ _ _ := (hO60.rdw.mono (L' := 0) (B' := w65.heap.size) (Nat.zero_le _) (by omega)); first | exact hh | exact hh.cast (by first | omega | (simp; try omega)) (by first | rfl | simp [u16v]))) ?_
  rintro _ w70 ⟨E71, v69, rfl, hO69⟩
  have dj72 : DJ v69 v57 := fun k hk hg => by have q1 := (hO69.lt k hk).1; have q2 := (hO60.lt k hg).2; omega
  have dj73 : DJ v69 v64 := fun k hk hg => by have q1 := (hO69.lt k hk).1; have q2 := (hO64.lt k hg).2; omega
  have E71 := grown_of_below E71
  have z_w70 := E71.size
  have hrl := hrl.keep0 E71
  have hO60 := hO60.keep0 E71
  have hO64 := hO64.keep0 E71
  have hb := below_step0 hb E71 hb.size
  have hO69 := hO69.mono (base' := w.heap.size) (by omega)
  have hnl69 := normL_len l
  refine op_move (ev_hit hN rfl) ?_
  refine op_extract (ev_hit hN rfl) rfl ?_
  refine op_extract (ev_hit hN rfl) rfl ?_
  refine op_assign (ev_hit hN rfl) ?_
  refine op_assign (ev_hit hN rfl) ?_
  refine reg_nil ?_
  refine hK68 _ _ ?_
  refine seq_any fun K74 hK74 => ?_
  refine one_reg ?_
  refine op_move (ev_hit hN rfl) ?_
  refine op_move (ev_hit hN rfl) ?_
  refine op_eql (ev_hit hN rfl) (ev_hit hN rfl) (fun c30 => ?_) (fun c30 => ?_)
  · -- 30T
   refine op_move (ev_hit hN rfl) ?_
   refine g_true (j := 3) (dj := 31) (b := true) rfl rfl rfl (ev_hit hN rfl) ?_
   refine op_move (ev_hit hN rfl) ?_
   refine g_true (j := 3) (dj := 31) (b := true) rfl rfl rfl (ev_hit hN rfl) ?_
   refine op_move (ev_hit hN rfl) ?_
   refine g_true (j := 3) (dj := 31) (b := true) rfl rfl rfl (ev_hit hN rfl) ?_
   refine op_fn (vs := [v64, v69]) ok19 ⟨(ev_hit hN rfl), ⟨(ev_hit hN rfl), trivial⟩⟩ (sameL_ret (normL l) (normL l) _ _ _ (by first | assumption | omega | (simp only [List.length_append, List.length_cons, List.length_nil, List.length_drop, List.length_take]; omega) | (dsimp only; omega) | decide | (simp [keyV, be8_len]; done)) (by first | assumption | omega | (simp only [List.length_append, List.length_cons, List.length_nil, List.length_drop, List.length_take]; omega) | (dsimp only; omega) | decide | (simp [keyV, be8_len]; done)) (show RdC w70 0 w70.heap.size 1 v64 (normL l).length ((normL l).map u16v) from by have hh : RdC w70 0 w70.heap.size 1 _ _ _ := (hO64.rdw.mono (L' := 0) (B' := w70.heap.size) (Nat.zero_le _) (by omega)); first | exact hh | exact hh.cast (by first | omega | (simp; try omega)) (by first | rfl | simp [u16v])) (show RdC w70 0 w70.heap.size 1 v69 (normL l).length ((normL l).map u16v) from by have hh : RdC w70 0 w70.heap.size 1 _ _ _ := (hO69.rdw.mono (L' := 0) (B' := w70.heap.size) (Nat.zero_le _) (by omega)); first | exact hh | exact hh.cast (by first | omega | (simp; try omega)) (by first | rfl | simp [u16v]))) ?_
   rintro _ w75 ⟨E76, rfl⟩
   have E76 := grown_of_below E76
   have z_w75 := E76.size
   have hrl := hrl.keep0 E76
   have hO60 := hO60.keep0 E76
   have hO64 := hO64.keep0 E76
   have hO69 := hO69.keep0 E76
   have hb := below_step0 hb E76 hb.size
   rcases Bool.eq_false_or_eq_true ((decide ((normL l) = (normL l)))) with c34 | c34
   · -- 34T
    rw [c34]
    refine op_pick_t (ev_hit hN rfl) (ev_hit hN rfl) ?_
    refine op_move (ev_hit hN rfl) ?_
    refine g_true (j := 8) (dj := 36) (b := true) rfl rfl rfl (ev_hit hN rfl) ?_
    refine op_move (ev_base hN rfl s0) ?_
    refine g_true (j := 8) (dj := 36) (b := true) rfl rfl rfl (ev_hit hN rfl) ?_
    refine op_fn (vs := [vl]) ok26 ⟨(ev_hit hN rfl), trivial⟩ (labMay_ret l _ _ (by first | assumption | omega | (simp only [List.length_append, List.length_cons, List.length_nil, List.length_drop, List.length_take]; omega) | (dsimp only; omega) | decide | (simp [keyV, be8_len]; done)) (show RdC w75 0 w75.heap.size 1 vl l.length (l.map u16v) from by have hh : RdC w75 0 w75.heap.size 1 _ _ _ := (hrl.mono (L' := 0) (B' := w75.heap.size) (Nat.zero_le _) (by omega)); first | exact hh | exact hh.cast (by first | omega | (simp; try omega)) (by first | rfl | simp [u16v]))) ?_
    rintro _ w77 ⟨E78, rfl⟩
    have E78 := grown_of_below E78
    have z_w77 := E78.size
    have hrl := hrl.keep0 E78
    have hO60 := hO60.keep0 E78
    have hO64 := hO64.keep0 E78
    have hO69 := hO69.keep0 E78
    have hb := below_step0 hb E78 hb.size
    refine g_true (j := 8) (dj := 36) (b := true) rfl rfl rfl (ev_hit hN rfl) ?_
    refine op_move (ev_hit hN rfl) ?_
    refine g_true (j := 8) (dj := 36) (b := true) rfl rfl rfl (ev_hit hN rfl) ?_
    refine op_fn (vs := [v57]) ok13 ⟨(ev_hit hN rfl), trivial⟩ (refMay_ret l _ _ (by first | assumption | omega | (simp only [List.length_append, List.length_cons, List.length_nil, List.length_drop, List.length_take]; omega) | (dsimp only; omega) | decide | (simp [keyV, be8_len]; done)) (show RdC w77 0 w77.heap.size 1 v57 l.length (l.map u16v) from by have hh : RdC w77 0 w77.heap.size 1 _ _ _ := (hO60.rdw.mono (L' := 0) (B' := w77.heap.size) (Nat.zero_le _) (by omega)); first | exact hh | exact hh.cast (by first | omega | (simp; try omega)) (by first | rfl | simp [u16v]))) ?_
    rintro _ w79 ⟨E80, rfl⟩
    have E80 := grown_of_below E80
    have z_w79 := E80.size
    have hrl := hrl.keep0 E80
    have hO60 := hO60.keep0 E80
    have hO64 := hO64.keep0 E80
    have hO69 := hO69.keep0 E80
    have hb := below_step0 hb E80 hb.size
    refine g_true (j := 8) (dj := 36) (b := true) rfl rfl rfl (ev_hit hN rfl) ?_
    refine op_eqb Try.underlying4 (ev_hit hN rfl) (ev_hit hN rfl) ?_
    rcases Bool.eq_false_or_eq_true (((mayL l) == (mayL l))) with c41 | c41
    · -- 41T
     rw [c41]
     refine op_pick_t (ev_hit hN rfl) (ev_hit hN rfl) ?_
     refine op_assign (ev_hit hN rfl) ?_
     refine reg_nil ?_
     refine hK74 _ _ ?_
     refine seq_any fun K81 hK81 => ?_
     refine seq_any fun K82 hK82 => ?_
     refine one_reg ?_
     refine op_assign rfl ?_
     refine reg_nil ?_
     refine hK82 _ _ ?_
     refine wp_block ?_
     refine loop_m (fun mz_ az_ w' => ∃ (i : Nat) (cs1 : List Value), mz_ = (normL l).length - i ∧ (az_.tmps.getD 0 undef = vl) ∧ (az_.tmps.getD 2 undef = (Value.bool false)) ∧ (az_.tmps.getD 3 undef = v57) ∧ (az_.tmps.getD 4 undef = v64) ∧ (az_.tmps.getD 8 undef = (Value.bool true)) ∧ (az_.tmps.getD 9 undef = (Value.int .i64 ((i : Nat) : Int))) ∧ (i ≤ (normL l).length) ∧ (Below w.heap.size w w') ∧ (w79.heap.size ≤ w'.heap.size) ∧ (RdC w' 0 w.heap.size 1 vl l.length (l.map u16v)) ∧ (Own w' w.heap.size 35 1 v57 (0 + l.length) ((l).map u16v)) ∧ (Own w' w.heap.size 35 1 v69 (normL l).length ((normL l).map u16v)) ∧ (Own w' w.heap.size 35 1 v64 (normL l).length (cs1))) _ hN hd ⟨0, _, rfl, (sl_base hN rfl s0), (sl_hit hN rfl), (sl_hit hN rfl), (sl_hit hN rfl), (sl_hit hN rfl), (sl_hit hN rfl).trans (congrArg (Value.int .i64) (by omega)), Nat.zero_le _, hb, (Nat.le_refl _), hrl, hO60, hO69, hO64⟩ ?_
     rintro _ a83 w83 hN83 hd83 ⟨i, cs1, rfl, s83_0, s83_2, s83_3, s83_4, s83_8, s83_9, hi, hb, zl_w83, hrl, hO60, hO69, hO84⟩
     have z_w83 := hb.size
     refine seq_any fun K85 hK85 => ?_
     refine seq_any fun K86 hK86 => ?_
     refine one_reg ?_
     refine op_move (ev_base hN83 rfl s83_9) ?_
     refine op_move (ev_base hN83 rfl s83_4) ?_
     refine op_len_rd Try.underlying23 (ev_hit hN83 rfl) hO84.rdw ?_
     refine op_lss (ev_hit hN83 rfl) (ev_hit hN83 rfl) (fun c46 => ?_) (fun c46 => ?_)
     · -- 46T
      refine reg_nil ?_
      refine hK86 _ _ ?_
      refine wp_cond_true (ev_hit hN83 rfl) ?_
      refine wp_skip ?_
      refine hK85 _ _ ?_
      refine seq_any fun K87 hK87 => ?_
      refine wp_block ?_
      refine one_reg ?_
      refine op_move (ev_base hN83 rfl s83_4) ?_
      refine op_move (ev_base hN83 rfl s83_9) ?_
      refine op_index_own (i := i) slt23 (ev_hit hN83 rfl) hO84 (ev_hit hN83 rfl) (by omega) (by omega) ?_
      intro b88 o89 lo_b88 hA90
      have hA90 : AtV v64 (i) b88 o89 := by simpa using hA90
      have hP93 := hO84
      refine op_store_own (vs := [(Value.int .u16 777)]) size35 (ev_hit hN83 rfl) rfl rfl rfl rfl hP93 hA90 (by have := hP93.1; simp; omega) ?_
      intro w91 hO94 E92
      have z_w91 := E92.size
      have hrl := hrl.keepO hP93 E92 (by omega)
      have hO60 := hO60.keepD E92 dj67.symm
      have hO69 := hO69.keepD E92 dj73
      have hb := below_stepO hb hP93 E92 hb.size (by omega)
      have hO94 : Own w91 w.heap.size 35 1 v64 (normL l).length ((cs1.take (i) ++ [(Value.int .u16 777)] ++ cs1.drop (i + 1))) := by simpa using hO94
      refine reg_nil ?_
      refine hK87 _ _ ?_
      refine one_reg ?_
      refine op_move (ev_base hN83 rfl s83_9) ?_
      refine op_add (ev_hit hN83 rfl) rfl (add64 (by omega)) ?_
      refine op_assign (ev_hit hN83 rfl) ?_
      refine reg_nil ?_
      -- round 14F 30T 34T 41T 46T
      exact loop_next _ hN83 hd83 ⟨i + 1, _, rfl, (sl_base hN83 rfl s83_0), (sl_base hN83 rfl s83_2), (sl_base hN83 rfl s83_3), (sl_base hN83 rfl s83_4), (sl_base hN83 rfl s83_8), (sl_hit hN83 rfl).trans (congrArg (Value.int .i64) (by omega)), (by omega), hb, (by omega), hrl, hO60, hO69, hO94⟩ (by omega)
     · -- 46F
      refine reg_nil ?_
      refine hK86 _ _ ?_
      refine wp_cond_false (ev_hit hN83 rfl) ?_
      refine wp_exit (then_exit (then_exit (blk_hit ?_)))
      refine hK81 _ _ ?_
      refine seq_any fun K95 hK95 => ?_
      refine one_reg ?_
      refine op_move (ev_base hN83 rfl s83_8) ?_
      refine op_move (ev_hit hN83 rfl) ?_
      refine g_true (j := 1) (dj := 53) (b := true) rfl rfl rfl (ev_hit hN83 rfl) ?_
      refine op_move (ev_base hN83 rfl s83_0) ?_
      refine g_true (j := 1) (dj := 53) (b := true) rfl rfl rfl (ev_hit hN83 rfl) ?_
      refine op_move (ev_base hN83 rfl s83_3) ?_
      refine g_true (j := 1) (dj := 53) (b := true) rfl rfl rfl (ev_hit hN83 rfl) ?_
      refine op_fn (vs := [vl, v57]) ok19 ⟨(ev_hit hN83 rfl), ⟨(ev_hit hN83 rfl), trivial⟩⟩ (sameL_ret l l _ _ _ (by first | assumption | omega | (simp only [List.length_append, List.length_cons, List.length_nil, List.length_drop, List.length_take]; omega) | (dsimp only; omega) | decide | (simp [keyV, be8_len]; done)) (by first | assumption | omega | (simp only [List.length_append, List.length_cons, List.length_nil, List.length_drop, List.length_take]; omega) | (dsimp only; omega) | decide | (simp [keyV, be8_len]; done)) (show RdC w83 0 w83.heap.size 1 vl l.length (l.map u16v) from by have hh : RdC w83 0 w83.heap.size 1 _ _ _ := (hrl.mono (L' := 0) (B' := w83.heap.size) (Nat.zero_le _) (by omega)); first | exact hh | exact hh.cast (by first | omega | (simp; try omega)) (by first | rfl | simp [u16v])) (show RdC w83 0 w83.heap.size 1 v57 l.length (l.map u16v) from by have hh : RdC w83 0 w83.heap.size 1 _ _ _ := (hO60.rdw.mono (L' := 0) (B' := w83.heap.size) (Nat.zero_le _) (by omega)); first | exact hh | exact hh.cast (by first | omega | (simp; try omega)) (by first | rfl | simp [u16v]))) ?_
      rintro _ w96 ⟨E97, rfl⟩
      have E97 := grown_of_below E97
      have z_w96 := E97.size
      have hrl := hrl.keep0 E97
      have hO60 := hO60.keep0 E97
      have hO69 := hO69.keep0 E97
      have hO84 := hO84.keep0 E97
      have hb := below_step0 hb E97 hb.size
      rcases Bool.eq_false_or_eq_true ((decide (l = l))) with c56 | c56
      · -- 56T
       rw [c56]
       refine op_pick_t (ev_hit hN83 rfl) (ev_hit hN83 rfl) ?_
       refine op_assign (ev_hit hN83 rfl) ?_
       refine reg_nil ?_
       refine hK95 _ _ ?_
       refine wp_ret ?_
       refine ret1 rfl hd83 (ev_hit hN83 rfl) ⟨_, rfl, ?_⟩
       -- path 14F 30T 34T 41T 46F 56T
       exact ⟨hb, rfl⟩
      · -- 56F
       exact absurd c56 (by simp)
    · -- 41F
     exact absurd c41 (by simp)
   · -- 34F
    exact absurd c34 (by simp)
  · -- 30F
   exact absurd rfl c30

end Go.Proofs.Ytpmnljffdofkeaa

/- Walks, written by a program: what each function of the translation hands back. -/
namespace Go.Proofs.Ytpmnljffdofkeaa
open Go.Gx Go.RowKit
attribute [local irreducible] wpList wpStill Code.wp Calls

theorem CompareText_ret (s t : List UInt8) (w : World) (hs : s.length ≤ 4000000000000000000) (ht : t.length ≤ 4000000000000000000) : Ret Try.prog 41 #[(Value.string (bs s)), (Value.string (bs t))] w (fun v' w' => Below w.heap.size w w' ∧ v' = .int .i64 (cmpT s t)) := by
 have hb := Below.refl w.heap.size w
 refine enter (N := 42) Try.func41 rfl rfl (by simp) fun a0 hN hd hA => ?_
 have s0 : a0.tmps.getD 0 undef = (Value.string (bs s)) := hA 0 (by simp)
 have s1 : a0.tmps.getD 1 undef = (Value.string (bs t)) := hA 1 (by simp)
 clear hA
 refine seq_any fun K1904 hK1904 => ?_
 refine one_reg ?_
 refine op_assign rfl ?_
 refine reg_nil ?_
 refine hK1904 _ _ ?_
 refine seq_any fun K1905 hK1905 => ?_
 refine seq_any fun K1906 hK1906 => ?_
 refine one_reg ?_
 refine op_assign rfl ?_
 refine reg_nil ?_
 refine hK1906 _ _ ?_
 refine wp_block ?_
 refine loop_m (fun mz_ az_ w' => ∃ (i : Nat), mz_ = s.length - i ∧ (az_.tmps.getD 0 undef = (Value.string (bs s))) ∧ (az_.tmps.getD 1 undef = (Value.string (bs t))) ∧ (az_.tmps.getD 5 undef = (Value.int .i64 ((i : Nat) : Int))) ∧ (i ≤ s.length ∧ i ≤ t.length) ∧ (cmpT s t = cmpT (s.drop i) (t.drop i)) ∧ (Below w.heap.size w w') ∧ (w.heap.size ≤ w'.heap.size)) _ hN hd ⟨0, rfl, (sl_base hN rfl s0), (sl_base hN rfl s1), (sl_hit hN rfl), ⟨Nat.zero_le _, Nat.zero_le _⟩, rfl, hb, (Nat.le_refl _)⟩ ?_
 rintro _ a1907 w1907 hN1907 hd1907 ⟨i, rfl, s1907_0, s1907_1, s1907_5, hi, he, hb, zl_w1907⟩
 have z_w1907 := hb.size
 refine seq_any fun K1908 hK1908 => ?_
 refine seq_any fun K1909 hK1909 => ?_
 refine one_reg ?_
 refine op_move (ev_base hN1907 rfl s1907_5) ?_
 refine op_move (ev_base hN1907 rfl s1907_0) ?_
 refine op_len_str Try.underlying9 (ev_hit hN1907 rfl) ?_
 refine op_lss (ev_hit hN1907 rfl) (ev_hit hN1907 rfl) (fun c9 => ?_) (fun c9 => ?_)
 · -- 9T
  refine op_move (ev_hit hN1907 rfl) ?_
  refine g_true (j := 4) (dj := 10) (b := true) rfl rfl rfl (ev_hit hN1907 rfl) ?_
  refine op_move (ev_base hN1907 rfl s1907_5) ?_
  refine g_true (j := 4) (dj := 10) (b := true) rfl rfl rfl (ev_hit hN1907 rfl) ?_
  refine op_move (ev_base hN1907 rfl s1907_1) ?_
  refine g_true (j := 4) (dj := 10) (b := true) rfl rfl rfl (ev_hit hN1907 rfl) ?_
  refine op_len_str Try.underlying9 (ev_hit hN1907 rfl) ?_
  refine g_true (j := 4) (dj := 10) (b := true) rfl rfl rfl (ev_hit hN1907 rfl) ?_
  refine op_lss (ev_hit hN1907 rfl) (ev_hit hN1907 rfl) (fun c14 => ?_) (fun c14 => ?_)
  · -- 14T
   refine op_pick_t (ev_hit hN1907 rfl) (ev_hit hN1907 rfl) ?_
   refine reg_nil ?_
   refine hK1909 _ _ ?_
   refine wp_cond_true (ev_hit hN1907 rfl) ?_
   refine wp_skip ?_
   refine hK1908 _ _ ?_
   refine seq_any fun K1910 hK1910 => ?_
   refine wp_block ?_
   refine seq_any fun K1911 hK1911 => ?_
   refine seq_any fun K1912 hK1912 => ?_
   refine reg_still mixed (by kernel_rfl) ?_
   intro w1914 E1913
   have z_w1914 := E1913.size
   have hb := below_step0 hb E1913 hb.size
   refine st_step rfl (fun _ h9 => op_move (ev_base hN1907 rfl s1907_0) h9) ?_
   refine st_step rfl (fun _ h9 => op_move (ev_base hN1907 rfl s1907_5) h9) ?_
   refine st_step rfl (fun _ h9 => op_index_str (b := (s.getD i 0)) Try.underlying9 (ev_hit hN1907 rfl) (ev_hit hN1907 rfl) (by omega) (el_str (i := i) (by omega) (by omega)) h9) ?_
   refine st_step rfl (fun _ h9 => op_move (ev_base hN1907 rfl s1907_1) h9) ?_
   refine st_step rfl (fun _ h9 => op_move (ev_base hN1907 rfl s1907_5) h9) ?_
   refine st_step rfl (fun _ h9 => op_index_str (b := (t.getD i 0)) Try.underlying9 (ev_hit hN1907 rfl) (ev_hit hN1907 rfl) (by omega) (el_str (i := i) (by omega) (by omega)) h9) ?_
   refine st_step rfl (fun _ h9 => op_cmp (b := (decide (((s.getD i 0).toNat : Int) < ((t.getD i 0).toNat : Int)))) (ev_hit hN1907 rfl) (ev_hit hN1907 rfl) (b_lss rfl) h9) ?_
   refine st_nil ?_
   refine hK1912 _ _ ?_
   refine wp_cond_split (ev_hit hN1907 rfl) (fun c24 => ?_) (fun c24 => ?_)
   · -- 24T
    have c24 := of_decide_eq_true c24
    refine seq_any fun K1915 hK1915 => ?_
    refine one_reg ?_
    refine op_assign rfl ?_
    refine reg_nil ?_
    refine hK1915 _ _ ?_
    refine wp_ret (then_ret (blk_ret (then_ret (then_ret (blk_ret (then_ret ( ?_)))))))
    refine ret1 rfl hd1907 (ev_hit hN1907 rfl) ⟨_, rfl, ?_⟩
    -- path 9T 14T 24T
    exact ⟨hb, congrArg (Value.int .i64) (by rw [he, cmpT_step (by omega) (by omega), if_pos (by omega)])⟩
   · -- 24F
    have c24 := of_decide_eq_false c24
    refine wp_skip ?_
    refine hK1911 _ _ ?_
    refine seq_any fun K1916 hK1916 => ?_
    refine reg_still mixed (by kernel_rfl) ?_
    intro w1918 E1917
    have z_w1918 := E1917.size
    have hb := below_step0 hb E1917 hb.size
    refine st_step rfl (fun _ h9 => op_move (ev_base hN1907 rfl s1907_0) h9) ?_
    refine st_step rfl (fun _ h9 => op_move (ev_base hN1907 rfl s1907_5) h9) ?_
    refine st_step rfl (fun _ h9 => op_index_str (b := (s.getD i 0)) Try.underlying9 (ev_hit hN1907 rfl) (ev_hit hN1907 rfl) (by omega) (el_str (i := i) (by omega) (by omega)) h9) ?_
    refine st_step rfl (fun _ h9 => op_move (ev_base hN1907 rfl s1907_1) h9) ?_
    refine st_step rfl (fun _ h9 => op_move (ev_base hN1907 rfl s1907_5) h9) ?_
    refine st_step rfl (fun _ h9 => op_index_str (b := (t.getD i 0)) Try.underlying9 (ev_hit hN1907 rfl) (ev_hit hN1907 rfl) (by omega) (el_str (i := i) (by omega) (by omega)) h9) ?_
    refine st_step rfl (fun _ h9 => op_cmp (b := (decide (((t.getD i 0).toNat : Int) < ((s.getD i 0).toNat : Int)))) (ev_hit hN1907 rfl) (ev_hit hN1907 rfl) (b_gtr rfl) h9) ?_
    refine st_nil ?_
    refine hK1916 _ _ ?_
    refine wp_cond_split (ev_hit hN1907 rfl) (fun c31 => ?_) (fun c31 => ?_)
    · -- 31T
     have c31 := of_decide_eq_true c31
     refine seq_any fun K1919 hK1919 => ?_
     refine one_reg ?_
     refine op_assign rfl ?_
     refine reg_nil ?_
     refine hK1919 _ _ ?_
     refine wp_ret (blk_ret (then_ret (then_ret (blk_ret (then_ret ( ?_))))))
     refine ret1 rfl hd1907 (ev_hit hN1907 rfl) ⟨_, rfl, ?_⟩
     -- path 9T 14T 24F 31T
     exact ⟨hb, congrArg (Value.int .i64) (by rw [he, cmpT_step (by omega) (by omega), if_neg (by omega), if_pos (by omega)])⟩
    · -- 31F
     have c31 := of_decide_eq_false c31
     refine wp_skip ?_
     refine hK1910 _ _ ?_
     refine one_reg ?_
     refine op_move (ev_base hN1907 rfl s1907_5) ?_
     refine op_add (ev_hit hN1907 rfl) rfl (add64 (by omega)) ?_
     refine op_assign (ev_hit hN1907 rfl) ?_
     refine reg_nil ?_
     -- round 9T 14T 24F 31F
     exact loop_next _ hN1907 hd1907 ⟨i + 1, rfl, (sl_base hN1907 rfl s1907_0), (sl_base hN1907 rfl s1907_1), (sl_hit hN1907 rfl).trans (congrArg (Value.int .i64) (by omega)), (by omega), (he.trans ((cmpT_step (by omega) (by omega)).trans (by rw [if_neg (by omega), if_neg (by omega)]))), hb, (by omega)⟩ (by omega)
  · -- 14F
   refine op_pick_t (ev_hit hN1907 rfl) (ev_hit hN1907 rfl) ?_
   refine reg_nil ?_
   refine hK1909 _ _ ?_
   refine wp_cond_false (ev_hit hN1907 rfl) ?_
   refine wp_exit (then_exit (then_exit (blk_hit ?_)))
   refine hK1905 _ _ ?_
   refine seq_any fun K1920 hK1920 => ?_
   refine seq_any fun K1921 hK1921 => ?_
   refine one_reg ?_
   refine op_move (ev_base hN1907 rfl s1907_0) ?_
   refine op_len_str Try.underlying9 (ev_hit hN1907 rfl) ?_
   refine op_move (ev_base hN1907 rfl s1907_1) ?_
   refine op_len_str Try.underlying9 (ev_hit hN1907 rfl) ?_
   refine op_lss (ev_hit hN1907 rfl) (ev_hit hN1907 rfl) (fun c36 => ?_) (fun c36 => ?_)
   · -- 36T
    refine reg_nil ?_
    refine hK1921 _ _ ?_
    refine wp_cond_true (ev_hit hN1907 rfl) ?_
    refine seq_any fun K1922 hK1922 => ?_
    refine one_reg ?_
    refine op_assign rfl ?_
    refine reg_nil ?_
    refine hK1922 _ _ ?_
    refine wp_ret (then_ret ( ?_))
    refine ret1 rfl hd1907 (ev_hit hN1907 rfl) ⟨_, rfl, ?_⟩
    -- path 9T 14F 36T
    exact ⟨hb, congrArg (Value.int .i64) (by rw [he]; rw [cmpT_end hi (by omega)]; first | (exfalso; omega) | rw [if_pos (by omega)] | rw [if_neg (by omega), if_pos (by omega)] | rw [if_neg (by omega), if_neg (by omega)])⟩
   · -- 36F
    refine reg_nil ?_
    refine hK1921 _ _ ?_
    refine wp_cond_false (ev_hit hN1907 rfl) ?_
    refine wp_skip ?_
    refine hK1920 _ _ ?_
    refine seq_any fun K1923 hK1923 => ?_
    refine seq_any fun K1924 hK1924 => ?_
    refine one_reg ?_
    refine op_move (ev_base hN1907 rfl s1907_0) ?_
    refine op_len_str Try.underlying9 (ev_hit hN1907 rfl) ?_
    refine op_move (ev_base hN1907 rfl s1907_1) ?_
    refine op_len_str Try.underlying9 (ev_hit hN1907 rfl) ?_
    refine op_gtr (ev_hit hN1907 rfl) (ev_hit hN1907 rfl) (fun c41 => ?_) (fun c41 => ?_)
    · -- 41T
     refine reg_nil ?_
     refine hK1924 _ _ ?_
     refine wp_cond_true (ev_hit hN1907 rfl) ?_
     refine seq_any fun K1925 hK1925 => ?_
     refine one_reg ?_
     refine op_assign rfl ?_
     refine reg_nil ?_
     refine hK1925 _ _ ?_
     refine wp_ret (then_ret ( ?_))
     refine ret1 rfl hd1907 (ev_hit hN1907 rfl) ⟨_, rfl, ?_⟩
     -- path 9T 14F 36F 41T
     exact ⟨hb, congrArg (Value.int .i64) (by rw [he]; rw [cmpT_end hi (by omega)]; first | (exfalso; omega) | rw [if_pos (by omega)] | rw [if_neg (by omega), if_pos (by omega)] | rw [if_neg (by omega), if_neg (by omega)])⟩
    · -- 41F
     refine reg_nil ?_
     refine hK1924 _ _ ?_
     refine wp_cond_false (ev_hit hN1907 rfl) ?_
     refine wp_skip ?_
     refine hK1923 _ _ ?_
     refine seq_any fun K1926 hK1926 => ?_
     refine one_reg ?_
     refine op_assign rfl ?_
     refine reg_nil ?_
     refine hK1926 _ _ ?_
     refine wp_ret ?_
     refine ret1 rfl hd1907 (ev_hit hN1907 rfl) ⟨_, rfl, ?_⟩
     -- path 9T 14F 36F 41F
     exact ⟨hb, congrArg (Value.int .i64) (by rw [he]; rw [cmpT_end hi (by omega)]; first | (exfalso; omega) | rw [if_pos (by omega)] | rw [if_neg (by omega), if_pos (by omega)] | rw [if_neg (by omega), if_neg (by omega)])⟩
 · -- 9F
  refine op_move (ev_hit hN1907 rfl) ?_
  refine g_false (j := 4) (dj := 10) (b := true) rfl rfl rfl (ev_hit hN1907 rfl) rfl rfl ?_
  refine g_false (j := 4) (dj := 10) (b := true) rfl rfl rfl (ev_hit hN1907 rfl) rfl rfl ?_
  refine g_false (j := 4) (dj := 10) (b := true) rfl rfl rfl (ev_hit hN1907 rfl) rfl rfl ?_
  refine g_false (j := 4) (dj := 10) (b := true) rfl rfl rfl (ev_hit hN1907 rfl) rfl rfl ?_
  refine op_pick_f (ev_hit hN1907 rfl) rfl ?_
  refine reg_nil ?_
  refine hK1909 _ _ ?_
  refine wp_cond_false (ev_hit hN1907 rfl) ?_
  refine wp_exit (then_exit (then_exit (blk_hit ?_)))
  refine hK1905 _ _ ?_
  refine seq_any fun K1927 hK1927 => ?_
  refine seq_any fun K1928 hK1928 => ?_
  refine one_reg ?_
  refine op_move (ev_base hN1907 rfl s1907_0) ?_
  refine op_len_str Try.underlying9 (ev_hit hN1907 rfl) ?_
  refine op_move (ev_base hN1907 rfl s1907_1) ?_
  refine op_len_str Try.underlying9 (ev_hit hN1907 rfl) ?_
  refine op_lss (ev_hit hN1907 rfl) (ev_hit hN1907 rfl) (fun c36 => ?_) (fun c36 => ?_)
  · -- 36T
   refine reg_nil ?_
   refine hK1928 _ _ ?_
   refine wp_cond_true (ev_hit hN1907 rfl) ?_
   refine seq_any fun K1929 hK1929 => ?_
   refine one_reg ?_
   refine op_assign rfl ?_
   refine reg_nil ?_
   refine hK1929 _ _ ?_
   refine wp_ret (then_ret ( ?_))
   refine ret1 rfl hd1907 (ev_hit hN1907 rfl) ⟨_, rfl, ?_⟩
   -- path 9F 36T
   exact ⟨hb, congrArg (Value.int .i64) (by rw [he]; rw [cmpT_end hi (by omega)]; first | (exfalso; omega) | rw [if_pos (by omega)] | rw [if_neg (by omega), if_pos (by omega)] | rw [if_neg (by omega), if_neg (by omega)])⟩
  · -- 36F
   refine reg_nil ?_
   refine hK1928 _ _ ?_
   refine wp_cond_false (ev_hit hN1907 rfl) ?_
   refine wp_skip ?_
   refine hK1927 _ _ ?_
   refine seq_any fun K1930 hK1930 => ?_
   refine seq_any fun K1931 hK1931 => ?_
   refine one_reg ?_
   refine op_move (ev_base hN1907 rfl s1907_0) ?_
   refine op_len_str Try.underlying9 (ev_hit hN1907 rfl) ?_
   refine op_move (ev_base hN1907 rfl s1907_1) ?_
   refine op_len_str Try.underlying9 (ev_hit hN1907 rfl) ?_
   refine op_gtr (ev_hit hN1907 rfl) (ev_hit hN1907 rfl) (fun c41 => ?_) (fun c41 => ?_)
   · -- 41T
    refine reg_nil ?_
    refine hK1931 _ _ ?_
    refine wp_cond_true (ev_hit hN1907 rfl) ?_
    refine seq_any fun K1932 hK1932 => ?_
    refine one_reg ?_
    refine op_assign rfl ?_
    refine reg_nil ?_
    refine hK1932 _ _ ?_
    refine wp_ret (then_ret ( ?_))
    refine ret1 rfl hd1907 (ev_hit hN1907 rfl) ⟨_, rfl, ?_⟩
    -- path 9F 36F 41T
    exact ⟨hb, congrArg (Value.int .i64) (by rw [he]; rw [cmpT_end hi (by omega)]; first | (exfalso; omega) | rw [if_pos (by omega)] | rw [if_neg (by omega), if_pos (by omega)] | rw [if_neg (by omega), if_neg (by omega)])⟩
   · -- 41F
    refine reg_nil ?_
    refine hK1931 _ _ ?_
    refine wp_cond_false (ev_hit hN1907 rfl) ?_
    refine wp_skip ?_
    refine hK1930 _ _ ?_
    refine seq_any fun K1933 hK1933 => ?_
    refine one_reg ?_
    refine op_assign rfl ?_
    refine reg_nil ?_
    refine hK1933 _ _ ?_
    refine wp_ret ?_
    refine ret1 rfl hd1907 (ev_hit hN1907 rfl) ⟨_, rfl, ?_⟩
    -- path 9F 36F 41F
    exact ⟨hb, congrArg (Value.int .i64) (by rw [he]; rw [cmpT_end hi (by omega)]; first | (exfalso; omega) | rw [if_pos (by omega)] | rw [if_neg (by omega), if_pos (by omega)] | rw [if_neg (by omega), if_neg (by omega)])⟩

theorem LabelAll_ret (a : Lb) (b : Lb) (va : Value) (vb : Value) (w : World) (hla : a.length ≤ 9223372036854775807) (hlb : b.length ≤ 9223372036854775807) (hra : RdC w 0 w.heap.size 1 va a.length (a.map u16v)) (hrb : RdC w 0 w.heap.size 1 vb b.length (b.map u16v)) : Ret Try.prog 8 #[va, vb] w (fun v' w' => Below w.heap.size w w' ∧ v' = .bool true) := by
 have hb := Below.refl w.heap.size w
 refine enter (N := 58) Try.func8 rfl rfl (by simp) fun a0 hN hd hA => ?_
 have s0 : a0.tmps.getD 0 undef = va := hA 0 (by simp)
 have s1 : a0.tmps.getD 1 undef = vb := hA 1 (by simp)
 clear hA
 refine seq_any fun K1934 hK1934 => ?_
 refine one_reg ?_
 refine op_assign rfl ?_
 refine reg_nil ?_
 refine hK1934 _ _ ?_
 refine seq_any fun K1935 hK1935 => ?_
 refine seq_any fun K1936 hK1936 => ?_
 refine one_reg ?_
 refine op_fn (vs := []) ok23 trivial (begun1_ret _) ?_
 rintro _ w1937 ⟨E1938, rfl⟩
 have E1938 := grown_of_below E1938
 have z_w1937 := E1938.size
 have hra := hra.keep0 E1938
 have hrb := hrb.keep0 E1938
 have hb := below_step0 hb E1938 hb.size
 refine op_not (ev_hit hN rfl) ?_
 refine reg_nil ?_
 refine hK1936 _ _ ?_
 refine wp_cond_false (ev_hit hN rfl) ?_
 refine wp_skip ?_
 refine hK1935 _ _ ?_
 refine seq_any fun K1939 hK1939 => ?_
 refine seq_any fun K1940 hK1940 => ?_
 refine one_reg ?_
 refine op_move (ev_base hN rfl s0) ?_
 refine op_fn (vs := [va]) ok13 ⟨(ev_hit hN rfl), trivial⟩ (refMay_ret a _ _ (by first | assumption | omega | (simp only [List.length_append, List.length_cons, List.length_nil, List.length_drop, List.length_take]; omega) | (dsimp only; omega) | decide | (simp [keyV, be8_len]; done)) (show RdC w1937 0 w1937.heap.size 1 va a.length (a.map u16v) from by have hh : RdC w1937 0 w1937.heap.size 1 _ _ _ := (hra.mono (L' := 0) (B' := w1937.heap.size) (Nat.zero_le _) (by omega)); first | exact hh | exact hh.cast (by first | omega | (simp; try omega)) (by first | rfl | simp [u16v]))) ?_
 rintro _ w1941 ⟨E1942, rfl⟩
 have E1942 := grown_of_below E1942
 have z_w1941 := E1942.size
 have hra := hra.keep0 E1942
 have hrb := hrb.keep0 E1942
 have hb := below_step0 hb E1942 hb.size
 rcases Bool.eq_false_or_eq_true ((mayL a)) with c8 | c8
 · -- 8T
  rw [c8]
  refine op_not (ev_hit hN rfl) ?_
  refine op_move (ev_hit hN rfl) ?_
  refine g_true (j := 3) (dj := 10) (b := false) rfl rfl rfl (ev_hit hN rfl) ?_
  refine op_move (ev_base hN rfl s1) ?_
  refine g_true (j := 3) (dj := 10) (b := false) rfl rfl rfl (ev_hit hN rfl) ?_
  refine op_fn (vs := [vb]) ok13 ⟨(ev_hit hN rfl), trivial⟩ (refMay_ret b _ _ (by first | assumption | omega | (simp only [List.length_append, List.length_cons, List.length_nil, List.length_drop, List.length_take]; omega) | (dsimp only; omega) | decide | (simp [keyV, be8_len]; done)) (show RdC w1941 0 w1941.heap.size 1 vb b.length (b.map u16v) from by have hh : RdC w1941 0 w1941.heap.size 1 _ _ _ := (hrb.mono (L' := 0) (B' := w1941.heap.size) (Nat.zero_le _) (by omega)); first | exact hh | exact hh.cast (by first | omega | (simp; try omega)) (by first | rfl | simp [u16v]))) ?_
  rintro _ w1943 ⟨E1944, rfl⟩
  have E1944 := grown_of_below E1944
  have z_w1943 := E1944.size
  have hra := hra.keep0 E1944
  have hrb := hrb.keep0 E1944
  have hb := below_step0 hb E1944 hb.size
  rcases Bool.eq_false_or_eq_true ((mayL b)) with c12 | c12
  · -- 12T
   rw [c12]
   refine g_true (j := 3) (dj := 10) (b := false) rfl rfl rfl (ev_hit hN rfl) ?_
   refine op_not (ev_hit hN rfl) ?_
   refine op_pick_f (ev_hit hN rfl) (ev_hit hN rfl) ?_
   refine reg_nil ?_
   refine hK1940 _ _ ?_
   refine wp_cond_false (ev_hit hN rfl) ?_
   refine wp_skip ?_
   refine hK1939 _ _ ?_
   refine seq_any fun K1945 hK1945 => ?_
   refine one_reg ?_
   refine op_move (ev_base hN rfl s0) ?_
   refine op_move (ev_base hN rfl s1) ?_
   have la := mayL_len c8
   have lb := mayL_len c12
   have lj := join_len a b
   have lm := minus_len a b
   have lt := meet_len a b
   refine op_fn (vs := [va, vb]) ok27 ⟨(ev_hit hN rfl), ⟨(ev_hit hN rfl), trivial⟩⟩ (flowsW_ret a b _ _ _ (by first | assumption | omega | (simp only [List.length_append, List.length_cons, List.length_nil, List.length_drop, List.length_take]; omega) | (dsimp only; omega) | decide | (simp [keyV, be8_len]; done)) (by first | assumption | omega | (simp only [List.length_append, List.length_cons, List.length_nil, List.length_drop, List.length_take]; omega) | (dsimp only; omega) | decide | (simp [keyV, be8_len]; done)) (show RdC w1943 0 w1943.heap.size 1 va a.length (a.map u16v) from by have hh : RdC w1943 0 w1943.heap.size 1 _ _ _ := (hra.mono (L' := 0) (B' := w1943.heap.size) (Nat.zero_le _) (by omega)); first | exact hh | exact hh.cast (by first | omega | (simp; try omega)) (by first | rfl | simp [u16v])) (show RdC w1943 0 w1943.heap.size 1 vb b.length (b.map u16v) from by have hh : RdC w1943 0 w1943.heap.size 1 _ _ _ := (hrb.mono (L' := 0) (B' := w1943.heap.size) (Nat.zero_le _) (by omega)); first | exact hh | exact hh.cast (by first | omega | (simp; try omega)) (by first | rfl | simp [u16v]))) ?_
   rintro _ w1946 ⟨E1947, rfl⟩
   have E1947 := grown_of_below E1947
   have z_w1946 := E1947.size
   have hra := hra.keep0 E1947
   have hrb := hrb.keep0 E1947
   have hb := below_step0 hb E1947 hb.size
   refine op_move (ev_base hN rfl s0) ?_
   refine op_move (ev_base hN rfl s1) ?_
   refine op_fn (vs := [va, vb]) ok17 ⟨(ev_hit hN rfl), ⟨(ev_hit hN rfl), trivial⟩⟩ (rflowsW_ret a b _ _ _ (by first | assumption | omega | (simp only [List.length_append, List.length_cons, List.length_nil, List.length_drop, List.length_take]; omega) | (dsimp only; omega) | decide | (simp [keyV, be8_len]; done)) (by first | assumption | omega | (simp only [List.length_append, List.length_cons, List.length_nil, List.length_drop, List.length_take]; omega) | (dsimp only; omega) | decide | (simp [keyV, be8_len]; done)) (show RdC w1946 0 w1946.heap.size 1 va a.length (a.map u16v) from by have hh : RdC w1946 0 w1946.heap.size 1 _ _ _ := (hra.mono (L' := 0) (B' := w1946.heap.size) (Nat.zero_le _) (by omega)); first | exact hh | exact hh.cast (by first | omega | (simp; try omega)) (by first | rfl | simp [u16v])) (show RdC w1946 0 w1946.heap.size 1 vb b.length (b.map u16v) from by have hh : RdC w1946 0 w1946.heap.size 1 _ _ _ := (hrb.mono (L' := 0) (B' := w1946.heap.size) (Nat.zero_le _) (by omega)); first | exact hh | exact hh.cast (by first | omega | (simp; try omega)) (by first | rfl | simp [u16v]))) ?_
   rintro _ w1948 ⟨E1949, rfl⟩
   have E1949 := grown_of_below E1949
   have z_w1948 := E1949.size
   have hra := hra.keep0 E1949
   have hrb := hrb.keep0 E1949
   have hb := below_step0 hb E1949 hb.size
   refine op_eqb Try.underlying4 (ev_hit hN rfl) (ev_hit hN rfl) ?_
   rcases Bool.eq_false_or_eq_true (((flowsL a b) == (flowsL a b))) with c21 | c21
   · -- 21T
    rw [c21]
    refine op_move (ev_hit hN rfl) ?_
    refine g_true (j := 7) (dj := 22) (b := true) rfl rfl rfl (ev_hit hN rfl) ?_
    refine op_move (ev_base hN rfl s0) ?_
    refine g_true (j := 7) (dj := 22) (b := true) rfl rfl rfl (ev_hit hN rfl) ?_
    refine op_move (ev_base hN rfl s1) ?_
    refine g_true (j := 7) (dj := 22) (b := true) rfl rfl rfl (ev_hit hN rfl) ?_
    refine op_fn (vs := [va, vb]) ok28 ⟨(ev_hit hN rfl), ⟨(ev_hit hN rfl), trivial⟩⟩ (joinW_ret a b _ _ _ (by first | assumption | omega | (simp only [List.length_append, List.length_cons, List.length_nil, List.length_drop, List.length_take]; omega) | (dsimp only; omega) | decide | (simp [keyV, be8_len]; done)) (by first | assumption | omega | (simp only [List.length_append, List.length_cons, List.length_nil, List.length_drop, List.length_take]; omega) | (dsimp only; omega) | decide | (simp [keyV, be8_len]; done)) (show RdC w1948 0 w1948.heap.size 1 va a.length (a.map u16v) from by have hh : RdC w1948 0 w1948.heap.size 1 _ _ _ := (hra.mono (L' := 0) (B' := w1948.heap.size) (Nat.zero_le _) (by omega)); first | exact hh | exact hh.cast (by first | omega | (simp; try omega)) (by first | rfl | simp [u16v])) (show RdC w1948 0 w1948.heap.size 1 vb b.length (b.map u16v) from by have hh : RdC w1948 0 w1948.heap.size 1 _ _ _ := (hrb.mono (L' := 0) (B' := w1948.heap.size) (Nat.zero_le _) (by omega)); first | exact hh | exact hh.cast (by first | omega | (simp; try omega)) (by first | rfl | simp [u16v]))) ?_
    rintro v1950 w1951 ⟨E1952, hO1950⟩
    have E1952 := grown_of_below E1952
    have z_w1951 := E1952.size
    have hra := hra.keep0 E1952
    have hrb := hrb.keep0 E1952
    have hb := below_step0 hb E1952 hb.size
    have hO1950 := hO1950.mono (base' := w.heap.size) (by omega)
    refine g_true (j := 7) (dj := 22) (b := true) rfl rfl rfl (ev_hit hN rfl) ?_
    refine op_move (ev_base hN rfl s0) ?_
    refine g_true (j := 7) (dj := 22) (b := true) rfl rfl rfl (ev_hit hN rfl) ?_
    refine op_move (ev_base hN rfl s1) ?_
    refine g_true (j := 7) (dj := 22) (b := true) rfl rfl rfl (ev_hit hN rfl) ?_
    refine op_fn (vs := [va, vb]) ok21 ⟨(ev_hit hN rfl), ⟨(ev_hit hN rfl), trivial⟩⟩ (rjoinW_ret a b _ _ _ (by first | assumption | omega | (simp only [List.length_append, List.length_cons, List.length_nil, List.length_drop, List.length_take]; omega) | (dsimp only; omega) | decide | (simp [keyV, be8_len]; done)) (by first | assumption | omega | (simp only [List.length_append, List.length_cons, List.length_nil, List.length_drop, List.length_take]; omega) | (dsimp only; omega) | decide | (simp [keyV, be8_len]; done)) (show RdC w1951 0 w1951.heap.size 1 va a.length (a.map u16v) from by have hh : RdC w1951 0 w1951.heap.size 1 _ _ _ := (hra.mono (L' := 0) (B' := w1951.heap.size) (Nat.zero_le _) (by omega)); first | exact hh | exact hh.cast (by first | omega | (simp; try omega)) (by first | rfl | simp [u16v])) (show RdC w1951 0 w1951.heap.size 1 vb b.length (b.map u16v) from by have hh : RdC w1951 0 w1951.heap.size 1 _ _ _ := (hrb.mono (L' := 0) (B' := w1951.heap.size) (Nat.zero_le _) (by omega)); first | exact hh | exact hh.cast (by first | omega | (simp; try omega)) (by first | rfl | simp [u16v]))) ?_
    rintro v1953 w1954 ⟨E1955, hO1953⟩
    have dj1956 : DJ v1953 v1950 := fun k hk hg => by have q1 := (hO1953.lt k hk).1; have q2 := (hO1950.lt k hg).2; omega
    have E1955 := grown_of_below E1955
    have z_w1954 := E1955.size
    have hra := hra.keep0 E1955
    have hrb := hrb.keep0 E1955
    have hO1950 := hO1950.keep0 E1955
    have hb := below_step0 hb E1955 hb.size
    have hO1953 := hO1953.mono (base' := w.heap.size) (by omega)
    refine g_true (j := 7) (dj := 22) (b := true) rfl rfl rfl (ev_hit hN rfl) ?_
    refine op_fn (vs := [v1950, v1953]) ok19 ⟨(ev_hit hN rfl), ⟨(ev_hit hN rfl), trivial⟩⟩ (sameL_ret (joinL a b) (joinL a b) _ _ _ (by first | assumption | omega | (simp only [List.length_append, List.length_cons, List.length_nil, List.length_drop, List.length_take]; omega) | (dsimp only; omega) | decide | (simp [keyV, be8_len]; done)) (by first | assumption | omega | (simp only [List.length_append, List.length_cons, List.length_nil, List.length_drop, List.length_take]; omega) | (dsimp only; omega) | decide | (simp [keyV, be8_len]; done)) (show RdC w1954 0 w1954.heap.size 1 v1950 (joinL a b).length ((joinL a b).map u16v) from by have hh : RdC w1954 0 w1954.heap.size 1 _ _ _ := (hO1950.rdw.mono (L' := 0) (B' := w1954.heap.size) (Nat.zero_le _) (by omega)); first | exact hh | exact hh.cast (by first | omega | (simp; try omega)) (by first | rfl | simp [u16v])) (show RdC w1954 0 w1954.heap.size 1 v1953 (joinL a b).length ((joinL a b).map u16v) from by have hh : RdC w1954 0 w1954.heap.size 1 _ _ _ := (hO1953.rdw.mono (L' := 0) (B' := w1954.heap.size) (Nat.zero_le _) (by omega)); first | exact hh | exact hh.cast (by first | omega | (simp; try omega)) (by first | rfl | simp [u16v]))) ?_
    rintro _ w1957 ⟨E1958, rfl⟩
    have E1958 := grown_of_below E1958
    have z_w1957 := E1958.size
    have hra := hra.keep0 E1958
    have hrb := hrb.keep0 E1958
    have hO1950 := hO1950.keep0 E1958
    have hO1953 := hO1953.keep0 E1958
    have hb := below_step0 hb E1958 hb.size
    rcases Bool.eq_false_or_eq_true ((decide ((joinL a b) = (joinL a b)))) with c29 | c29
    · -- 29T
     rw [c29]
     refine op_pick_t (ev_hit hN rfl) (ev_hit hN rfl) ?_
     refine op_move (ev_hit hN rfl) ?_
     refine g_true (j := 16) (dj := 31) (b := true) rfl rfl rfl (ev_hit hN rfl) ?_
     refine op_move (ev_base hN rfl s0) ?_
     refine g_true (j := 16) (dj := 31) (b := true) rfl rfl rfl (ev_hit hN rfl) ?_
     refine op_move (ev_base hN rfl s1) ?_
     refine g_true (j := 16) (dj := 31) (b := true) rfl rfl rfl (ev_hit hN rfl) ?_
     refine op_fn (vs := [va, vb]) ok29 ⟨(ev_hit hN rfl), ⟨(ev_hit hN rfl), trivial⟩⟩ (meetW_ret a b _ _ _ (by first | assumption | omega | (simp only [List.length_append, List.length_cons, List.length_nil, List.length_drop, List.length_take]; omega) | (dsimp only; omega) | decide | (simp [keyV, be8_len]; done)) (by first | assumption | omega | (simp only [List.length_append, List.length_cons, List.length_nil, List.length_drop, List.length_take]; omega) | (dsimp only; omega) | decide | (simp [keyV, be8_len]; done)) (show RdC w1957 0 w1957.heap.size 1 va a.length (a.map u16v) from by have hh : RdC w1957 0 w1957.heap.size 1 _ _ _ := (hra.mono (L' := 0) (B' := w1957.heap.size) (Nat.zero_le _) (by omega)); first | exact hh | exact hh.cast (by first | omega | (simp; try omega)) (by first | rfl | simp [u16v])) (show RdC w1957 0 w1957.heap.size 1 vb b.length (b.map u16v) from by have hh : RdC w1957 0 w1957.heap.size 1 _ _ _ := (hrb.mono (L' := 0) (B' := w1957.heap.size) (Nat.zero_le _) (by omega)); first | exact hh | exact hh.cast (by first | omega | (simp; try omega)) (by first | rfl | simp [u16v]))) ?_
     rintro v1959 w1960 ⟨E1961, hO1959⟩
     have dj1962 : DJ v1959 v1950 := fun k hk hg => by have q1 := (hO1959.lt k hk).1; have q2 := (hO1950.lt k hg).2; omega
     have dj1963 : DJ v1959 v1953 := fun k hk hg => by have q1 := (hO1959.lt k hk).1; have q2 := (hO1953.lt k hg).2; omega
     have E1961 := grown_of_below E1961
     have z_w1960 := E1961.size
     have hra := hra.keep0 E1961
     have hrb := hrb.keep0 E1961
     have hO1950 := hO1950.keep0 E1961
     have hO1953 := hO1953.keep0 E1961
     have hb := below_step0 hb E1961 hb.size
     have hO1959 := hO1959.mono (base' := w.heap.size) (by omega)
     refine g_true (j := 16) (dj := 31) (b := true) rfl rfl rfl (ev_hit hN rfl) ?_
     refine op_move (ev_base hN rfl s0) ?_
     refine g_true (j := 16) (dj := 31) (b := true) rfl rfl rfl (ev_hit hN rfl) ?_
     refine op_move (ev_base hN rfl s1) ?_
     refine g_true (j := 16) (dj := 31) (b := true) rfl rfl rfl (ev_hit hN rfl) ?_
     refine op_fn (vs := [va, vb]) ok22 ⟨(ev_hit hN rfl), ⟨(ev_hit hN rfl), trivial⟩⟩ (rmeetW_ret a b _ _ _ (by first | assumption | omega | (simp only [List.length_append, List.length_cons, List.length_nil, List.length_drop, List.length_take]; omega) | (dsimp only; omega) | decide | (simp [keyV, be8_len]; done)) (by first | assumption | omega | (simp only [List.length_append, List.length_cons, List.length_nil, List.length_drop, List.length_take]; omega) | (dsimp only; omega) | decide | (simp [keyV, be8_len]; done)) (show RdC w1960 0 w1960.heap.size 1 va a.length (a.map u16v) from by have hh : RdC w1960 0 w1960.heap.size 1 _ _ _ := (hra.mono (L' := 0) (B' := w1960.heap.size) (Nat.zero_le _) (by omega)); first | exact hh | exact hh.cast (by first | omega | (simp; try omega)) (by first | rfl | simp [u16v])) (show RdC w1960 0 w1960.heap.size 1 vb b.length (b.map u16v) from by have hh : RdC w1960 0 w1960.heap.size 1 _ _ _ := (hrb.mono (L' := 0) (B' := w1960.heap.size) (Nat.zero_le _) (by omega)); first | exact hh | exact hh.cast (by first | omega | (simp; try omega)) (by first | rfl | simp [u16v]))) ?_
     rintro v1964 w1965 ⟨E1966, hO1964⟩
     have dj1967 : DJ v1964 v1950 := fun k hk hg => by have q1 := (hO1964.lt k hk).1; have q2 := (hO1950.lt k hg).2; omega
     have dj1968 : DJ v1964 v1953 := fun k hk hg => by have q1 := (hO1964.lt k hk).1; have q2 := (hO1953.lt k hg).2; omega
     have dj1969 : DJ v1964 v1959 := fun k hk hg => by have q1 := (hO1964.lt k hk).1; have q2 := (hO1959.lt k hg).2; omega
     have E1966 := grown_of_below E1966
     have z_w1965 := E1966.size
     have hra := hra.keep0 E1966
     have hrb := hrb.keep0 E1966
     have hO1950 := hO1950.keep0 E1966
     have hO1953 := hO1953.keep0 E1966
     have hO1959 := hO1959.keep0 E1966
     have hb := below_step0 hb E1966 hb.size
     have hO1964 := hO1964.mono (base' := w.heap.size) (by omega)
     refine g_true (j := 16) (dj := 31) (b := true) rfl rfl rfl (ev_hit hN rfl) ?_
     refine op_fn (vs := [v1959, v1964]) ok19 ⟨(ev_hit hN rfl), ⟨(ev_hit hN rfl), trivial⟩⟩ (sameL_ret (meetL a b) (meetL a b) _ _ _ (by first | assumption | omega | (simp only [List.length_append, List.length_cons, List.length_nil, List.length_drop, List.length_take]; omega) | (dsimp only; omega) | decide | (simp [keyV, be8_len]; done)) (by first | assumption | omega | (simp only [List.length_append, List.length_cons, List.length_nil, List.length_drop, List.length_take]; omega) | (dsimp only; omega) | decide | (simp [keyV, be8_len]; done)) (show RdC w1965 0 w1965.heap.size 1 v1959 (meetL a b).length ((meetL a b).map u16v) from by have hh : RdC w1965 0 w1965.heap.size 1 _ _ _ := (hO1959.rdw.mono (L' := 0) (B' := w1965.heap.size) (Nat.zero_le _) (by omega)); first | exact hh | exact hh.cast (by first | omega | (simp; try omega)) (by first | rfl | simp [u16v])) (show RdC w1965 0 w1965.heap.size 1 v1964 (meetL a b).length ((meetL a b).map u16v) from by have hh : RdC w1965 0 w1965.heap.size 1 _ _ _ := (hO1964.rdw.mono (L' := 0) (B' := w1965.heap.size) (Nat.zero_le _) (by omega)); first | exact hh | exact hh.cast (by first | omega | (simp; try omega)) (by first | rfl | simp [u16v]))) ?_
     rintro _ w1970 ⟨E1971, rfl⟩
     have E1971 := grown_of_below E1971
     have z_w1970 := E1971.size
     have hra := hra.keep0 E1971
     have hrb := hrb.keep0 E1971
     have hO1950 := hO1950.keep0 E1971
     have hO1953 := hO1953.keep0 E1971
     have hO1959 := hO1959.keep0 E1971
     have hO1964 := hO1964.keep0 E1971
     have hb := below_step0 hb E1971 hb.size
     rcases Bool.eq_false_or_eq_true ((decide ((meetL a b) = (meetL a b)))) with c38 | c38
     · -- 38T
      rw [c38]
      refine op_pick_t (ev_hit hN rfl) (ev_hit hN rfl) ?_
      refine op_move (ev_hit hN rfl) ?_
      refine g_true (j := 25) (dj := 40) (b := true) rfl rfl rfl (ev_hit hN rfl) ?_
      refine op_move (ev_base hN rfl s0) ?_
      refine g_true (j := 25) (dj := 40) (b := true) rfl rfl rfl (ev_hit hN rfl) ?_
      refine op_move (ev_base hN rfl s1) ?_
      refine g_true (j := 25) (dj := 40) (b := true) rfl rfl rfl (ev_hit hN rfl) ?_
      refine op_fn (vs := [va, vb]) ok30 ⟨(ev_hit hN rfl), ⟨(ev_hit hN rfl), trivial⟩⟩ (minusW_ret a b _ _ _ (by first | assumption | omega | (simp only [List.length_append, List.length_cons, List.length_nil, List.length_drop, List.length_take]; omega) | (dsimp only; omega) | decide | (simp [keyV, be8_len]; done)) (by first | assumption | omega | (simp only [List.length_append, List.length_cons, List.length_nil, List.length_drop, List.length_take]; omega) | (dsimp only; omega) | decide | (simp [keyV, be8_len]; done)) (show RdC w1970 0 w1970.heap.size 1 va a.length (a.map u16v) from by have hh : RdC w1970 0 w1970.heap.size 1 _ _ _ := (hra.mono (L' := 0) (B' := w1970.heap.size) (Nat.zero_le _) (by omega)); first | exact hh | exact hh.cast (by first | omega | (simp; try omega)) (by first | rfl | simp [u16v])) (show RdC w1970 0 w1970.heap.size 1 vb b.length (b.map u16v) from by have hh : RdC w1970 0 w1970.heap.size 1 _ _ _ := (hrb.mono (L' := 0) (B' := w1970.heap.size) (Nat.zero_le _) (by omega)); first | exact hh | exact hh.cast (by first | omega | (simp; try omega)) (by first | rfl | simp [u16v]))) ?_
      rintro v1972 w1973 ⟨E1974, hO1972⟩
      have dj1975 : DJ v1972 v1950 := fun k hk hg => by have q1 := (hO1972.lt k hk).1; have q2 := (hO1950.lt k hg).2; omega
      have dj1976 : DJ v1972 v1953 := fun k hk hg => by have q1 := (hO1972.lt k hk).1; have q2 := (hO1953.lt k hg).2; omega
      have dj1977 : DJ v1972 v1959 := fun k hk hg => by have q1 := (hO1972.lt k hk).1; have q2 := (hO1959.lt k hg).2; omega
      have dj1978 : DJ v1972 v1964 := fun k hk hg => by have q1 := (hO1972.lt k hk).1; have q2 := (hO1964.lt k hg).2; omega
      have E1974 := grown_of_below E1974
      have z_w1973 := E1974.size
      have hra := hra.keep0 E1974
      have hrb := hrb.keep0 E1974
      have hO1950 := hO1950.keep0 E1974
      have hO1953 := hO1953.keep0 E1974
      have hO1959 := hO1959.keep0 E1974
      have hO1964 := hO1964.keep0 E1974
      have hb := below_step0 hb E1974 hb.size
      have hO1972 := hO1972.mono (base' := w.heap.size) (by omega)
      refine g_true (j := 25) (dj := 40) (b := true) rfl rfl rfl (ev_hit hN rfl) ?_
      refine op_move (ev_base hN rfl s0) ?_
      refine g_true (j := 25) (dj := 40) (b := true) rfl rfl rfl (ev_hit hN rfl) ?_
      refine op_move (ev_base hN rfl s1) ?_
      refine g_true (j := 25) (dj := 40) (b := true) rfl rfl rfl (ev_hit hN rfl) ?_
      refine op_fn (vs := [va, vb]) ok18 ⟨(ev_hit hN rfl), ⟨(ev_hit hN rfl), trivial⟩⟩ (rminusW_ret a b _ _ _ (by first | assumption | omega | (simp only [List.length_append, List.length_cons, List.length_nil, List.length_drop, List.length_take]; omega) | (dsimp only; omega) | decide | (simp [keyV, be8_len]; done)) (by first | assumption | omega | (simp only [List.length_append, List.length_cons, List.length_nil, List.length_drop, List.length_take]; omega) | (dsimp only; omega) | decide | (simp [keyV, be8_len]; done)) (show RdC w1973 0 w1973.heap.size 1 va a.length (a.map u16v) from by have hh : RdC w1973 0 w1973.heap.size 1 _ _ _ := (hra.mono (L' := 0) (B' := w1973.heap.size) (Nat.zero_le _) (by omega)); first | exact hh | exact hh.cast (by first | omega | (simp; try omega)) (by first | rfl | simp [u16v])) (show RdC w1973 0 w1973.heap.size 1 vb b.length (b.map u16v) from by have hh : RdC w1973 0 w1973.heap.size 1 _ _ _ := (hrb.mono (L' := 0) (B' := w1973.heap.size) (Nat.zero_le _) (by omega)); first | exact hh | exact hh.cast (by first | omega | (simp; try omega)) (by first | rfl | simp [u16v]))) ?_
      rintro v1979 w1980 ⟨E1981, hO1979⟩
      have dj1982 : DJ v1979 v1950 := fun k hk hg => by have q1 := (hO1979.lt k hk).1; have q2 := (hO1950.lt k hg).2; omega
      have dj1983 : DJ v1979 v1953 := fun k hk hg => by have q1 := (hO1979.lt k hk).1; have q2 := (hO1953.lt k hg).2; omega
      have dj1984 : DJ v1979 v1959 := fun k hk hg => by have q1 := (hO1979.lt k hk).1; have q2 := (hO1959.lt k hg).2; omega
      have dj1985 : DJ v1979 v1964 := fun k hk hg => by have q1 := (hO1979.lt k hk).1; have q2 := (hO1964.lt k hg).2; omega
      have dj1986 : DJ v1979 v1972 := fun k hk hg => by have q1 := (hO1979.lt k hk).1; have q2 := (hO1972.lt k hg).2; omega
      have E1981 := grown_of_below E1981
      have z_w1980 := E1981.size
      have hra := hra.keep0 E1981
      have hrb := hrb.keep0 E1981
      have hO1950 := hO1950.keep0 E1981
      have hO1953 := hO1953.keep0 E1981
      have hO1959 := hO1959.keep0 E1981
      have hO1964 := hO1964.keep0 E1981
      have hO1972 := hO1972.keep0 E1981
      have hb := below_step0 hb E1981 hb.size
      have hO1979 := hO1979.mono (base' := w.heap.size) (by omega)
      refine g_true (j := 25) (dj := 40) (b := true) rfl rfl rfl (ev_hit hN rfl) ?_
      refine op_fn (vs := [v1972, v1979]) ok19 ⟨(ev_hit hN rfl), ⟨(ev_hit hN rfl), trivial⟩⟩ (sameL_ret (minusL a b) (minusL a b) _ _ _ (by first | assumption | omega | (simp only [List.length_append, List.length_cons, List.length_nil, List.length_drop, List.length_take]; omega) | (dsimp only; omega) | decide | (simp [keyV, be8_len]; done)) (by first | assumption | omega | (simp only [List.length_append, List.length_cons, List.length_nil, List.length_drop, List.length_take]; omega) | (dsimp only; omega) | decide | (simp [keyV, be8_len]; done)) (show RdC w1980 0 w1980.heap.size 1 v1972 (minusL a b).length ((minusL a b).map u16v) from by have hh : RdC w1980 0 w1980.heap.size 1 _ _ _ := (hO1972.rdw.mono (L' := 0) (B' := w1980.heap.size) (Nat.zero_le _) (by omega)); first | exact hh | exact hh.cast (by first | omega | (simp; try omega)) (by first | rfl | simp [u16v])) (show RdC w1980 0 w1980.heap.size 1 v1979 (minusL a b).length ((minusL a b).map u16v) from by have hh : RdC w1980 0 w1980.heap.size 1 _ _ _ := (hO1979.rdw.mono (L' := 0) (B' := w1980.heap.size) (Nat.zero_le _) (by omega)); first | exact hh | exact hh.cast (by first | omega | (simp; try omega)) (by first | rfl | simp [u16v]))) ?_
      rintro _ w1987 ⟨E1988, rfl⟩
      have E1988 := grown_of_below E1988
      have z_w1987 := E1988.size
      have hra := hra.keep0 E1988
      have hrb := hrb.keep0 E1988
      have hO1950 := hO1950.keep0 E1988
      have hO1953 := hO1953.keep0 E1988
      have hO1959 := hO1959.keep0 E1988
      have hO1964 := hO1964.keep0 E1988
      have hO1972 := hO1972.keep0 E1988
      have hO1979 := hO1979.keep0 E1988
      have hb := below_step0 hb E1988 hb.size
      rcases Bool.eq_false_or_eq_true ((decide ((minusL a b) = (minusL a b)))) with c47 | c47
      · -- 47T
       rw [c47]
       refine op_pick_t (ev_hit hN rfl) (ev_hit hN rfl) ?_
       refine op_move (ev_hit hN rfl) ?_
       refine g_true (j := 34) (dj := 49) (b := true) rfl rfl rfl (ev_hit hN rfl) ?_
       refine op_move (ev_base hN rfl s0) ?_
       refine g_true (j := 34) (dj := 49) (b := true) rfl rfl rfl (ev_hit hN rfl) ?_
       refine op_move (ev_base hN rfl s1) ?_
       refine g_true (j := 34) (dj := 49) (b := true) rfl rfl rfl (ev_hit hN rfl) ?_
       refine op_fn (vs := [va, vb]) ok31 ⟨(ev_hit hN rfl), ⟨(ev_hit hN rfl), trivial⟩⟩ (lcmpW_ret a b _ _ _ (by first | assumption | omega | (simp only [List.length_append, List.length_cons, List.length_nil, List.length_drop, List.length_take]; omega) | (dsimp only; omega) | decide | (simp [keyV, be8_len]; done)) (by first | assumption | omega | (simp only [List.length_append, List.length_cons, List.length_nil, List.length_drop, List.length_take]; omega) | (dsimp only; omega) | decide | (simp [keyV, be8_len]; done)) (show RdC w1987 0 w1987.heap.size 1 va a.length (a.map u16v) from by have hh : RdC w1987 0 w1987.heap.size 1 _ _ _ := (hra.mono (L' := 0) (B' := w1987.heap.size) (Nat.zero_le _) (by omega)); first | exact hh | exact hh.cast (by first | omega | (simp; try omega)) (by first | rfl | simp [u16v])) (show RdC w1987 0 w1987.heap.size 1 vb b.length (b.map u16v) from by have hh : RdC w1987 0 w1987.heap.size 1 _ _ _ := (hrb.mono (L' := 0) (B' := w1987.heap.size) (Nat.zero_le _) (by omega)); first | exact hh | exact hh.cast (by first | omega | (simp; try omega)) (by first | rfl | simp [u16v]))) ?_
       rintro _ w1989 ⟨E1990, rfl⟩
       have E1990 := grown_of_below E1990
       have z_w1989 := E1990.size
       have hra := hra.keep0 E1990
       have hrb := hrb.keep0 E1990
       have hO1950 := hO1950.keep0 E1990
       have hO1953 := hO1953.keep0 E1990
       have hO1959 := hO1959.keep0 E1990
       have hO1964 := hO1964.keep0 E1990
       have hO1972 := hO1972.keep0 E1990
       have hO1979 := hO1979.keep0 E1990
       have hb := below_step0 hb E1990 hb.size
       refine g_true (j := 34) (dj := 49) (b := true) rfl rfl rfl (ev_hit hN rfl) ?_
       refine op_move (ev_base hN rfl s0) ?_
       refine g_true (j := 34) (dj := 49) (b := true) rfl rfl rfl (ev_hit hN rfl) ?_
       refine op_move (ev_base hN rfl s1) ?_
       refine g_true (j := 34) (dj := 49) (b := true) rfl rfl rfl (ev_hit hN rfl) ?_
       refine op_fn (vs := [va, vb]) ok32 ⟨(ev_hit hN rfl), ⟨(ev_hit hN rfl), trivial⟩⟩ (cmpL_ret a b _ _ _ (by first | assumption | omega | (simp only [List.length_append, List.length_cons, List.length_nil, List.length_drop, List.length_take]; omega) | (dsimp only; omega) | decide | (simp [keyV, be8_len]; done)) (by first | assumption | omega | (simp only [List.length_append, List.length_cons, List.length_nil, List.length_drop, List.length_take]; omega) | (dsimp only; omega) | decide | (simp [keyV, be8_len]; done)) (show RdC w1989 0 w1989.heap.size 1 va a.length (a.map u16v) from by have hh : RdC w1989 0 w1989.heap.size 1 _ _ _ := (hra.mono (L' := 0) (B' := w1989.heap.size) (Nat.zero_le _) (by omega)); first | exact hh | exact hh.cast (by first | omega | (simp; try omega)) (by first | rfl | simp [u16v])) (show RdC w1989 0 w1989.heap.size 1 vb b.length (b.map u16v) from by have hh : RdC w1989 0 w1989.heap.size 1 _ _ _ := (hrb.mono (L' := 0) (B' := w1989.heap.size) (Nat.zero_le _) (by omega)); first | exact hh | exact hh.cast (by first | omega | (simp; try omega)) (by first | rfl | simp [u16v]))) ?_
       rintro _ w1991 ⟨E1992, rfl⟩
       have E1992 := grown_of_below E1992
       have z_w1991 := E1992.size
       have hra := hra.keep0 E1992
       have hrb := hrb.keep0 E1992
       have hO1950 := hO1950.keep0 E1992
       have hO1953 := hO1953.keep0 E1992
       have hO1959 := hO1959.keep0 E1992
       have hO1964 := hO1964.keep0 E1992
       have hO1972 := hO1972.keep0 E1992
       have hO1979 := hO1979.keep0 E1992
       have hb := below_step0 hb E1992 hb.size
       refine g_true (j := 34) (dj := 49) (b := true) rfl rfl rfl (ev_hit hN rfl) ?_
       refine op_eql (ev_hit hN rfl) (ev_hit hN rfl) (fun c56 => ?_) (fun c56 => ?_)
       · -- 56T
        refine op_pick_t (ev_hit hN rfl) (ev_hit hN rfl) ?_
        refine op_assign (ev_hit hN rfl) ?_
        refine reg_nil ?_
        refine hK1945 _ _ ?_
        refine wp_ret ?_
        refine ret1 rfl hd (ev_hit hN rfl) ⟨_, rfl, ?_⟩
        -- path 8T 12T 21T 29T 38T 47T 56T
        exact ⟨hb, rfl⟩
       · -- 56F
        exact absurd rfl c56
      · -- 47F
       exact absurd c47 (by simp)
     · -- 38F
      exact absurd c38 (by simp)
    · -- 29F
     exact absurd c29 (by simp)
   · -- 21F
    exact absurd c21 (by simp)
  · -- 12F
   rw [c12]
   refine g_true (j := 3) (dj := 10) (b := false) rfl rfl rfl (ev_hit hN rfl) ?_
   refine op_not (ev_hit hN rfl) ?_
   refine op_pick_f (ev_hit hN rfl) (ev_hit hN rfl) ?_
   refine reg_nil ?_
   refine hK1940 _ _ ?_
   refine wp_cond_true (ev_hit hN rfl) ?_
   refine seq_any fun K1993 hK1993 => ?_
   refine one_reg ?_
   refine op_assign rfl ?_
   refine reg_nil ?_
   refine hK1993 _ _ ?_
   refine wp_ret (then_ret ( ?_))
   refine ret1 rfl hd (ev_hit hN rfl) ⟨_, rfl, ?_⟩
   -- path 8T 12F
   exact ⟨hb, rfl⟩
 · -- 8F
  rw [c8]
  refine op_not (ev_hit hN rfl) ?_
  refine op_move (ev_hit hN rfl) ?_
  refine g_false (j := 3) (dj := 10) (b := false) rfl rfl rfl (ev_hit hN rfl) rfl rfl ?_
  refine g_false (j := 3) (dj := 10) (b := false) rfl rfl rfl (ev_hit hN rfl) rfl rfl ?_
  refine g_false (j := 3) (dj := 10) (b := false) rfl rfl rfl (ev_hit hN rfl) rfl rfl ?_
  refine op_pick_t (ev_hit hN rfl) rfl ?_
  refine reg_nil ?_
  refine hK1940 _ _ ?_
  refine wp_cond_true (ev_hit hN rfl) ?_
  refine seq_any fun K1994 hK1994 => ?_
  refine one_reg ?_
  refine op_assign rfl ?_
  refine reg_nil ?_
  refine hK1994 _ _ ?_
  refine wp_ret (then_ret ( ?_))
  refine ret1 rfl hd (ev_hit hN rfl) ⟨_, rfl, ?_⟩
  -- path 8F
  exact ⟨hb, rfl⟩

theorem LabelLine_ret (a : Lb) (b : Lb) (c : Lb) (va : Value) (vb : Value) (vc : Value) (w : World) (hla : a.length ≤ 9223372036854775807) (hlb : b.length ≤ 9223372036854775807) (hlc : c.length ≤ 9223372036854775807) (hra : RdC w 0 w.heap.size 1 va a.length (a.map u16v)) (hrb : RdC w 0 w.heap.size 1 vb b.length (b.map u16v)) (hrc : RdC w 0 w.heap.size 1 vc c.length (c.map u16v)) : Ret Try.prog 10 #[va, vb, vc] w (fun v' w' => Below w.heap.size w w' ∧ v' = .bool true) := by
 have hb := Below.refl w.heap.size w
 refine enter (N := 77) Try.func10 rfl rfl (by simp) fun a0 hN hd hA => ?_
 have s0 : a0.tmps.getD 0 undef = va := hA 0 (by simp)
 have s1 : a0.tmps.getD 1 undef = vb := hA 1 (by simp)
 have s2 : a0.tmps.getD 2 undef = vc := hA 2 (by simp)
 clear hA
 refine seq_any fun K1995 hK1995 => ?_
 refine one_reg ?_
 refine op_assign rfl ?_
 refine reg_nil ?_
 refine hK1995 _ _ ?_
 refine seq_any fun K1996 hK1996 => ?_
 refine seq_any fun K1997 hK1997 => ?_
 refine one_reg ?_
 refine op_fn (vs := []) ok23 trivial (begun1_ret _) ?_
 rintro _ w1998 ⟨E1999, rfl⟩
 have E1999 := grown_of_below E1999
 have z_w1998 := E1999.size
 have hra := hra.keep0 E1999
 have hrb := hrb.keep0 E1999
 have hrc := hrc.keep0 E1999
 have hb := below_step0 hb E1999 hb.size
 refine op_not (ev_hit hN rfl) ?_
 refine reg_nil ?_
 refine hK1997 _ _ ?_
 refine wp_cond_false (ev_hit hN rfl) ?_
 refine wp_skip ?_
 refine hK1996 _ _ ?_
 refine seq_any fun K2000 hK2000 => ?_
 refine seq_any fun K2001 hK2001 => ?_
 refine one_reg ?_
 refine op_move (ev_base hN rfl s0) ?_
 refine op_fn (vs := [va]) ok13 ⟨(ev_hit hN rfl), trivial⟩ (refMay_ret a _ _ (by first | assumption | omega | (simp only [List.length_append, List.length_cons, List.length_nil, List.length_drop, List.length_take]; omega) | (dsimp only; omega) | decide | (simp [keyV, be8_len]; done)) (show RdC w1998 0 w1998.heap.size 1 va a.length (a.map u16v) from by have hh : RdC w1998 0 w1998.heap.size 1 _ _ _ := (hra.mono (L' := 0) (B' := w1998.heap.size) (Nat.zero_le _) (by omega)); first | exact hh | exact hh.cast (by first | omega | (simp; try omega)) (by first | rfl | simp [u16v]))) ?_
 rintro _ w2002 ⟨E2003, rfl⟩
 have E2003 := grown_of_below E2003
 have z_w2002 := E2003.size
 have hra := hra.keep0 E2003
 have hrb := hrb.keep0 E2003
 have hrc := hrc.keep0 E2003
 have hb := below_step0 hb E2003 hb.size
 rcases Bool.eq_false_or_eq_true ((mayL a)) with c12 | c12
 · -- 12T
  rw [c12]
  refine op_not (ev_hit hN rfl) ?_
  refine op_move (ev_hit hN rfl) ?_
  refine g_true (j := 3) (dj := 14) (b := false) rfl rfl rfl (ev_hit hN rfl) ?_
  refine op_move (ev_base hN rfl s1) ?_
  refine g_true (j := 3) (dj := 14) (b := false) rfl rfl rfl (ev_hit hN rfl) ?_
  refine op_fn (vs := [vb]) ok13 ⟨(ev_hit hN rfl), trivial⟩ (refMay_ret b _ _ (by first | assumption | omega | (simp only [List.length_append, List.length_cons, List.length_nil, List.length_drop, List.length_take]; omega) | (dsimp only; omega) | decide | (simp [keyV, be8_len]; done)) (show RdC w2002 0 w2002.heap.size 1 vb b.length (b.map u16v) from by have hh : RdC w2002 0 w2002.heap.size 1 _ _ _ := (hrb.mono (L' := 0) (B' := w2002.heap.size) (Nat.zero_le _) (by omega)); first | exact hh | exact hh.cast (by first | omega | (simp; try omega)) (by first | rfl | simp [u16v]))) ?_
  rintro _ w2004 ⟨E2005, rfl⟩
  have E2005 := grown_of_below E2005
  have z_w2004 := E2005.size
  have hra := hra.keep0 E2005
  have hrb := hrb.keep0 E2005
  have hrc := hrc.keep0 E2005
  have hb := below_step0 hb E2005 hb.size
  rcases Bool.eq_false_or_eq_true ((mayL b)) with c16 | c16
  · -- 16T
   rw [c16]
   refine g_true (j := 3) (dj := 14) (b := false) rfl rfl rfl (ev_hit hN rfl) ?_
   refine op_not (ev_hit hN rfl) ?_
   refine op_pick_f (ev_hit hN rfl) (ev_hit hN rfl) ?_
   refine op_move (ev_hit hN rfl) ?_
   refine g_true (j := 8) (dj := 19) (b := false) rfl rfl rfl (ev_hit hN rfl) ?_
   refine op_move (ev_base hN rfl s2) ?_
   refine g_true (j := 8) (dj := 19) (b := false) rfl rfl rfl (ev_hit hN rfl) ?_
   refine op_fn (vs := [vc]) ok13 ⟨(ev_hit hN rfl), trivial⟩ (refMay_ret c _ _ (by first | assumption | omega | (simp only [List.length_append, List.length_cons, List.length_nil, List.length_drop, List.length_take]; omega) | (dsimp only; omega) | decide | (simp [keyV, be8_len]; done)) (show RdC w2004 0 w2004.heap.size 1 vc c.length (c.map u16v) from by have hh : RdC w2004 0 w2004.heap.size 1 _ _ _ := (hrc.mono (L' := 0) (B' := w2004.heap.size) (Nat.zero_le _) (by omega)); first | exact hh | exact hh.cast (by first | omega | (simp; try omega)) (by first | rfl | simp [u16v]))) ?_
   rintro _ w2006 ⟨E2007, rfl⟩
   have E2007 := grown_of_below E2007
   have z_w2006 := E2007.size
   have hra := hra.keep0 E2007
   have hrb := hrb.keep0 E2007
   have hrc := hrc.keep0 E2007
   have hb := below_step0 hb E2007 hb.size
   rcases Bool.eq_false_or_eq_true ((mayL c)) with c21 | c21
   · -- 21T
    rw [c21]
    refine g_true (j := 8) (dj := 19) (b := false) rfl rfl rfl (ev_hit hN rfl) ?_
    refine op_not (ev_hit hN rfl) ?_
    refine op_pick_f (ev_hit hN rfl) (ev_hit hN rfl) ?_
    refine reg_nil ?_
    refine hK2001 _ _ ?_
    refine wp_cond_false (ev_hit hN rfl) ?_
    refine wp_skip ?_
    refine hK2000 _ _ ?_
    refine seq_any fun K2008 hK2008 => ?_
    refine one_reg ?_
    refine op_move (ev_base hN rfl s0) ?_
    refine op_move (ev_base hN rfl s1) ?_
    have la := mayL_len c12
    have lb := mayL_len c16
    have lc := mayL_len c21
    have hpa := putL_inj_len c12
    have hpb := putL_inj_len c16
    refine op_fn (vs := [va, vb]) ok31 ⟨(ev_hit hN rfl), ⟨(ev_hit hN rfl), trivial⟩⟩ (lcmpW_ret a b _ _ _ (by first | assumption | omega | (simp only [List.length_append, List.length_cons, List.length_nil, List.length_drop, List.length_take]; omega) | (dsimp only; omega) | decide | (simp [keyV, be8_len]; done)) (by first | assumption | omega | (simp only [List.length_append, List.length_cons, List.length_nil, List.length_drop, List.length_take]; omega) | (dsimp only; omega) | decide | (simp [keyV, be8_len]; done)) (show RdC w2006 0 w2006.heap.size 1 va a.length (a.map u16v) from by have hh : RdC w2006 0 w2006.heap.size 1 _ _ _ := (hra.mono (L' := 0) (B' := w2006.heap.size) (Nat.zero_le _) (by omega)); first | exact hh | exact hh.cast (by first | omega | (simp; try omega)) (by first | rfl | simp [u16v])) (show RdC w2006 0 w2006.heap.size 1 vb b.length (b.map u16v) from by have hh : RdC w2006 0 w2006.heap.size 1 _ _ _ := (hrb.mono (L' := 0) (B' := w2006.heap.size) (Nat.zero_le _) (by omega)); first | exact hh | exact hh.cast (by first | omega | (simp; try omega)) (by first | rfl | simp [u16v]))) ?_
    rintro _ w2009 ⟨E2010, rfl⟩
    have E2010 := grown_of_below E2010
    have z_w2009 := E2010.size
    have hra := hra.keep0 E2010
    have hrb := hrb.keep0 E2010
    have hrc := hrc.keep0 E2010
    have hb := below_step0 hb E2010 hb.size
    refine op_assign (ev_hit hN rfl) ?_
    refine reg_nil ?_
    refine hK2008 _ _ ?_
    refine seq_any fun K2011 hK2011 => ?_
    refine reg_split (hd := [_, _, _, _, _, _]) (tl := _) 6 mixed (by kernel_rfl) rfl rfl ?_
    refine any_quiet (Φ := phiL [(fun uz _ => uz = va), (fun uz w' => ∃ (v2013 : Value), uz = v2013 ∧ Own w' w2009.heap.size 5 1 v2013 (putL a).length ((putL a).map u8v)), (fun uz _ => uz = (Value.string (bs (putL a)))), (fun uz _ => uz = vb), (fun uz w' => ∃ (v2017 : Value), uz = v2017 ∧ Own w' w2009.heap.size 5 1 v2017 (putL b).length ((putL b).map u8v)), (fun uz _ => uz = (Value.string (bs (putL b))))]) (by kernel_rfl) (by kernel_rfl) (by kernel_rfl) hN (StL.get (StL.eq (StL.cons (fun u w1 w2 E h => by obtain ⟨x0, hv, f0⟩ := h; exact ⟨x0, hv, f0.keep0 E⟩) (StL.eq (StL.eq (StL.cons (fun u w1 w2 E h => by obtain ⟨x0, hv, f0⟩ := h; exact ⟨x0, hv, f0.keep0 E⟩) (StL.eq (StL.nil _)))))))) (ObL.get (s := 6) (ObL.cons ?_ (ObL.cons ?_ (ObL.cons ?_ (ObL.cons ?_ (ObL.cons ?_ (ObL.cons ?_ (ObL.nil))))))) rfl) ?_
    ·
     intro aA wA hNA hRA hbsA hdpA
     have qA_0 := (hbsA 0 rfl).trans (sl_base hN rfl s0)
     refine op_move (ev_base hNA rfl qA_0) ?_
     exact obN_end rfl rfl (grown_refl _ _)
    ·
     intro aA wA hNA hRA hbsA hdpA
     have hRA : w2009.grownBy wA none := hRA
     have z_wA := hRA.size
     have hra := hra.keep0 hRA
     have hrb := hrb.keep0 hRA
     have hrc := hrc.keep0 hRA
     have hb := below_step0 hb hRA hb.size
     have qA_27 : Sl aA 27 va := hdpA 0 _ 27 (by kernel_rfl) rfl rfl
     clear hbsA hdpA
     have hq2012 : RdC wA 0 wA.heap.size 1 (Value.slice none 0 0) ([] : List UInt8).length (([] : List UInt8).map u8v) := by have hh : RdC wA 0 wA.heap.size 1 _ _ _ := ((RdC.nil _ 0 0 1).mono (L' := 0) (B' := wA.heap.size) (Nat.zero_le _) (by omega)); first | simpa using hh | simpa [Nat.add_comm, Nat.add_left_comm, Nat.add_assoc] using hh | exact hh.cast (by first | rfl | (simp; try omega)) (by first | rfl | (simp; done) | simp [u8v])
     refine op_fn (vs := [(Value.slice none 0 0), va]) ok34 ⟨rfl, ⟨(ev_base hNA rfl qA_27), trivial⟩⟩ (labPut_ret ([] : List UInt8) a _ _ _ (by first | assumption | omega | (simp only [List.length_append, List.length_cons, List.length_nil, List.length_drop, List.length_take]; omega) | (dsimp only; omega) | decide | (simp [keyV, be8_len]; done)) (by first | assumption | omega | (simp only [List.length_append, List.length_cons, List.length_nil, List.length_drop, List.length_take]; omega) | (dsimp only; omega) | decide | (simp [keyV, be8_len]; done)) hq2012 (show RdC wA 0 wA.heap.size 1 va a.length (a.map u16v) from by have hh : RdC wA 0 wA.heap.size 1 _ _ _ := (hra.mono (L' := 0) (B' := wA.heap.size) (Nat.zero_le _) (by omega)); first | exact hh | exact hh.cast (by first | omega | (simp; try omega)) (by first | rfl | simp [u16v]))) ?_
     rintro v2013 w2014 ⟨E2015, hO2013⟩
     have E2015 := grown_of_below E2015
     have z_w2014 := E2015.size
     have hra := hra.keep0 E2015
     have hrb := hrb.keep0 E2015
     have hrc := hrc.keep0 E2015
     have hb := below_step0 hb E2015 hb.size
     have hO2013 : Own w2014 w2009.heap.size 5 1 v2013 (putL a).length ((putL a).map u8v) := (hO2013.mono (base' := w2009.heap.size) (by omega)).cast (by simp) (by simp)
     exact obN_end rfl ⟨v2013, rfl, hO2013⟩ (E2015)
    ·
     intro aA wA hNA hRA hbsA hdpA
     have hRA : w2009.grownBy wA none := hRA
     have z_wA := hRA.size
     have hra := hra.keep0 hRA
     have hrb := hrb.keep0 hRA
     have hrc := hrc.keep0 hRA
     have hb := below_step0 hb hRA hb.size
     obtain ⟨v2013, qA_28, hO2013⟩ := hdpA 1 _ 28 (by kernel_rfl) rfl rfl
     have hO2013 : Own wA w2009.heap.size 5 1 v2013 (putL a).length ((putL a).map u8v) := hO2013
     clear hbsA hdpA
     refine op_str_of (bl := (putL a)) Try.underlying39 Try.underlying5 Try.underlying9 (ev_base hNA rfl qA_28) hO2013.rdw ?_
     exact obN_end rfl rfl (grown_refl _ _)
    ·
     intro aA wA hNA hRA hbsA hdpA
     have qA_1 := (hbsA 1 rfl).trans (sl_base hN rfl s1)
     refine op_move (ev_base hNA rfl qA_1) ?_
     exact obN_end rfl rfl (grown_refl _ _)
    ·
     intro aA wA hNA hRA hbsA hdpA
     have hRA : w2009.grownBy wA none := hRA
     have z_wA := hRA.size
     have hra := hra.keep0 hRA
     have hrb := hrb.keep0 hRA
     have hrc := hrc.keep0 hRA
     have hb := below_step0 hb hRA hb.size
     have qA_30 : Sl aA 30 vb := hdpA 3 _ 30 (by kernel_rfl) rfl rfl
     clear hbsA hdpA
     have hq2016 : RdC wA 0 wA.heap.size 1 (Value.slice none 0 0) ([] : List UInt8).length (([] : List UInt8).map u8v) := by have hh : RdC wA 0 wA.heap.size 1 _ _ _ := ((RdC.nil _ 0 0 1).mono (L' := 0) (B' := wA.heap.size) (Nat.zero_le _) (by omega)); first | simpa using hh | simpa [Nat.add_comm, Nat.add_left_comm, Nat.add_assoc] using hh | exact hh.cast (by first | rfl | (simp; try omega)) (by first | rfl | (simp; done) | simp [u8v])
     refine op_fn (vs := [(Value.slice none 0 0), vb]) ok34 ⟨rfl, ⟨(ev_base hNA rfl qA_30), trivial⟩⟩ (labPut_ret ([] : List UInt8) b _ _ _ (by first | assumption | omega | (simp only [List.length_append, List.length_cons, List.length_nil, List.length_drop, List.length_take]; omega) | (dsimp only; omega) | decide | (simp [keyV, be8_len]; done)) (by first | assumption | omega | (simp only [List.length_append, List.length_cons, List.length_nil, List.length_drop, List.length_take]; omega) | (dsimp only; omega) | decide | (simp [keyV, be8_len]; done)) hq2016 (show RdC wA 0 wA.heap.size 1 vb b.length (b.map u16v) from by have hh : RdC wA 0 wA.heap.size 1 _ _ _ := (hrb.mono (L' := 0) (B' := wA.heap.size) (Nat.zero_le _) (by omega)); first | exact hh | exact hh.cast (by first | omega | (simp; try omega)) (by first | rfl | simp [u16v]))) ?_
     rintro v2017 w2018 ⟨E2019, hO2017⟩
     have E2019 := grown_of_below E2019
     have z_w2018 := E2019.size
     have hra := hra.keep0 E2019
     have hrb := hrb.keep0 E2019
     have hrc := hrc.keep0 E2019
     have hb := below_step0 hb E2019 hb.size
     have hO2017 : Own w2018 w2009.heap.size 5 1 v2017 (putL b).length ((putL b).map u8v) := (hO2017.mono (base' := w2009.heap.size) (by omega)).cast (by simp) (by simp)
     exact obN_end rfl ⟨v2017, rfl, hO2017⟩ (E2019)
    ·
     intro aA wA hNA hRA hbsA hdpA
     have hRA : w2009.grownBy wA none := hRA
     have z_wA := hRA.size
     have hra := hra.keep0 hRA
     have hrb := hrb.keep0 hRA
     have hrc := hrc.keep0 hRA
     have hb := below_step0 hb hRA hb.size
     obtain ⟨v2017, qA_31, hO2017⟩ := hdpA 4 _ 31 (by kernel_rfl) rfl rfl
     have hO2017 : Own wA w2009.heap.size 5 1 v2017 (putL b).length ((putL b).map u8v) := hO2017
     clear hbsA hdpA
     refine op_str_of (bl := (putL b)) Try.underlying39 Try.underlying5 Try.underlying9 (ev_base hNA rfl qA_31) hO2017.rdw ?_
     exact obN_end rfl rfl (grown_refl _ _)
    ·
     intro a2020 w2020 hN2020 hd2020 hbs2020 hph2020 E2020
     have hd2020 := hd2020.trans hd
     have s2020_0 := (hbs2020 0 rfl).trans (sl_base hN rfl s0)
     have s2020_1 := (hbs2020 1 rfl).trans (sl_base hN rfl s1)
     have s2020_2 := (hbs2020 2 rfl).trans (sl_base hN rfl s2)
     have s2020_6 := (hbs2020 6 rfl).trans (sl_hit hN rfl)
     have s2020_7 := (hbs2020 7 rfl).trans (sl_hit hN rfl)
     have s2020_29 : Sl a2020 29 (Value.string (bs (putL a))) := hph2020 2 _ 29 rfl rfl
     have s2020_32 : Sl a2020 32 (Value.string (bs (putL b))) := hph2020 5 _ 32 rfl rfl
     clear hbs2020 hph2020
     have E2020 : w2009.grownBy w2020 none := E2020
     have z_w2020 := E2020.size
     have hra := hra.keep0 E2020
     have hrb := hrb.keep0 E2020
     have hrc := hrc.keep0 E2020
     have hb := below_step0 hb E2020 hb.size
     refine split_end ?_
     refine from_seq (tl := [_, _]) (by decide) (by kernel_rfl) rfl ?_
     refine op_fn (vs := [(Value.string (bs (putL a))), (Value.string (bs (putL b)))]) ok41 ⟨(ev_base hN2020 rfl s2020_29), ⟨(ev_base hN2020 rfl s2020_32), trivial⟩⟩ (CompareText_ret (putL a) (putL b) _ (by first | assumption | omega | (simp only [List.length_append, List.length_cons, List.length_nil, List.length_drop, List.length_take]; omega) | (dsimp only; omega) | decide | (simp [keyV, be8_len]; done)) (by first | assumption | omega | (simp only [List.length_append, List.length_cons, List.length_nil, List.length_drop, List.length_take]; omega) | (dsimp only; omega) | decide | (simp [keyV, be8_len]; done))) ?_
     rintro _ w2021 ⟨E2022, rfl⟩
     have E2022 := grown_of_below E2022
     have z_w2021 := E2022.size
     have hra := hra.keep0 E2022
     have hrb := hrb.keep0 E2022
     have hrc := hrc.keep0 E2022
     have hb := below_step0 hb E2022 hb.size
     refine op_assign (ev_hit hN2020 rfl) ?_
     refine reg_nil ?_
     refine hK2011 _ _ ?_
     refine seq_any fun K2023 hK2023 => ?_
     refine one_reg ?_
     refine op_move (ev_base hN2020 rfl s2020_1) ?_
     refine op_move (ev_base hN2020 rfl s2020_0) ?_
     refine op_fn (vs := [vb, va]) ok31 ⟨(ev_hit hN2020 rfl), ⟨(ev_hit hN2020 rfl), trivial⟩⟩ (lcmpW_ret b a _ _ _ (by first | assumption | omega | (simp only [List.length_append, List.length_cons, List.length_nil, List.length_drop, List.length_take]; omega) | (dsimp only; omega) | decide | (simp [keyV, be8_len]; done)) (by first | assumption | omega | (simp only [List.length_append, List.length_cons, List.length_nil, List.length_drop, List.length_take]; omega) | (dsimp only; omega) | decide | (simp [keyV, be8_len]; done)) (show RdC w2021 0 w2021.heap.size 1 vb b.length (b.map u16v) from by have hh : RdC w2021 0 w2021.heap.size 1 _ _ _ := (hrb.mono (L' := 0) (B' := w2021.heap.size) (Nat.zero_le _) (by omega)); first | exact hh | exact hh.cast (by first | omega | (simp; try omega)) (by first | rfl | simp [u16v])) (show RdC w2021 0 w2021.heap.size 1 va a.length (a.map u16v) from by have hh : RdC w2021 0 w2021.heap.size 1 _ _ _ := (hra.mono (L' := 0) (B' := w2021.heap.size) (Nat.zero_le _) (by omega)); first | exact hh | exact hh.cast (by first | omega | (simp; try omega)) (by first | rfl | simp [u16v]))) ?_
     rintro _ w2024 ⟨E2025, rfl⟩
     have E2025 := grown_of_below E2025
     have z_w2024 := E2025.size
     have hra := hra.keep0 E2025
     have hrb := hrb.keep0 E2025
     have hrc := hrc.keep0 E2025
     have hb := below_step0 hb E2025 hb.size
     refine op_move (ev_base hN2020 rfl s2020_7) ?_
     refine op_neg (r := (-(cmpL a b))) (ev_hit hN2020 rfl) (by have := cmpL_val a b; rw [IntKind.wrap_i64]; omega) ?_
     refine op_eql (ev_hit hN2020 rfl) (ev_hit hN2020 rfl) (fun c39 => ?_) (fun c39 => ?_)
     · -- 39T
      refine op_move (ev_hit hN2020 rfl) ?_
      refine g_true (j := 6) (dj := 40) (b := true) rfl rfl rfl (ev_hit hN2020 rfl) ?_
      refine op_move (ev_base hN2020 rfl s2020_0) ?_
      refine g_true (j := 6) (dj := 40) (b := true) rfl rfl rfl (ev_hit hN2020 rfl) ?_
      refine op_move (ev_base hN2020 rfl s2020_0) ?_
      refine g_true (j := 6) (dj := 40) (b := true) rfl rfl rfl (ev_hit hN2020 rfl) ?_
      refine op_fn (vs := [va, va]) ok31 ⟨(ev_hit hN2020 rfl), ⟨(ev_hit hN2020 rfl), trivial⟩⟩ (lcmpW_ret a a _ _ _ (by first | assumption | omega | (simp only [List.length_append, List.length_cons, List.length_nil, List.length_drop, List.length_take]; omega) | (dsimp only; omega) | decide | (simp [keyV, be8_len]; done)) (by first | assumption | omega | (simp only [List.length_append, List.length_cons, List.length_nil, List.length_drop, List.length_take]; omega) | (dsimp only; omega) | decide | (simp [keyV, be8_len]; done)) (show RdC w2024 0 w2024.heap.size 1 va a.length (a.map u16v) from by have hh : RdC w2024 0 w2024.heap.size 1 _ _ _ := (hra.mono (L' := 0) (B' := w2024.heap.size) (Nat.zero_le _) (by omega)); first | exact hh | exact hh.cast (by first | omega | (simp; try omega)) (by first | rfl | simp [u16v])) (show RdC w2024 0 w2024.heap.size 1 va a.length (a.map u16v) from by have hh : RdC w2024 0 w2024.heap.size 1 _ _ _ := (hra.mono (L' := 0) (B' := w2024.heap.size) (Nat.zero_le _) (by omega)); first | exact hh | exact hh.cast (by first | omega | (simp; try omega)) (by first | rfl | simp [u16v]))) ?_
      rintro _ w2026 ⟨E2027, rfl⟩
      have E2027 := grown_of_below E2027
      have z_w2026 := E2027.size
      have hra := hra.keep0 E2027
      have hrb := hrb.keep0 E2027
      have hrc := hrc.keep0 E2027
      have hb := below_step0 hb E2027 hb.size
      refine g_true (j := 6) (dj := 40) (b := true) rfl rfl rfl (ev_hit hN2020 rfl) ?_
      refine op_eql (ev_hit hN2020 rfl) rfl (fun c44 => ?_) (fun c44 => ?_)
      · -- 44T
       refine op_pick_t (ev_hit hN2020 rfl) (ev_hit hN2020 rfl) ?_
       refine op_move (ev_hit hN2020 rfl) ?_
       refine g_true (j := 12) (dj := 46) (b := true) rfl rfl rfl (ev_hit hN2020 rfl) ?_
       refine op_move (ev_base hN2020 rfl s2020_7) ?_
       refine g_true (j := 12) (dj := 46) (b := true) rfl rfl rfl (ev_hit hN2020 rfl) ?_
       refine op_neq (ev_hit hN2020 rfl) rfl (fun c48 => ?_) (fun c48 => ?_)
       · -- 48T
        refine g_true (j := 12) (dj := 46) (b := true) rfl rfl rfl (ev_hit hN2020 rfl) ?_
        refine op_move (ev_hit hN2020 rfl) ?_
        refine g_false (j := 15) (dj := 49) (b := false) rfl rfl rfl (ev_hit hN2020 rfl) rfl rfl ?_
        refine g_false (j := 15) (dj := 49) (b := false) rfl rfl rfl (ev_hit hN2020 rfl) rfl rfl ?_
        refine g_false (j := 15) (dj := 49) (b := false) rfl rfl rfl (ev_hit hN2020 rfl) rfl rfl ?_
        refine g_false (j := 15) (dj := 49) (b := false) rfl rfl rfl (ev_hit hN2020 rfl) rfl rfl ?_
        refine g_true (j := 12) (dj := 46) (b := true) rfl rfl rfl (ev_hit hN2020 rfl) ?_
        refine op_pick_t (ev_hit hN2020 rfl) rfl ?_
        refine g_true (j := 12) (dj := 46) (b := true) rfl rfl rfl (ev_hit hN2020 rfl) ?_
        refine op_move (ev_hit hN2020 rfl) ?_
        refine g_false (j := 21) (dj := 55) (b := false) rfl rfl rfl (ev_hit hN2020 rfl) rfl rfl ?_
        refine g_false (j := 21) (dj := 55) (b := false) rfl rfl rfl (ev_hit hN2020 rfl) rfl rfl ?_
        refine g_false (j := 21) (dj := 55) (b := false) rfl rfl rfl (ev_hit hN2020 rfl) rfl rfl ?_
        refine g_false (j := 21) (dj := 55) (b := false) rfl rfl rfl (ev_hit hN2020 rfl) rfl rfl ?_
        refine g_true (j := 12) (dj := 46) (b := true) rfl rfl rfl (ev_hit hN2020 rfl) ?_
        refine op_pick_t (ev_hit hN2020 rfl) rfl ?_
        refine op_pick_t (ev_hit hN2020 rfl) (ev_hit hN2020 rfl) ?_
        refine op_move (ev_hit hN2020 rfl) ?_
        refine g_true (j := 28) (dj := 62) (b := true) rfl rfl rfl (ev_hit hN2020 rfl) ?_
        refine op_move (ev_hit hN2020 rfl) ?_
        refine g_true (j := 28) (dj := 62) (b := true) rfl rfl rfl (ev_hit hN2020 rfl) ?_
        refine op_move (ev_base hN2020 rfl s2020_7) ?_
        refine g_true (j := 28) (dj := 62) (b := true) rfl rfl rfl (ev_hit hN2020 rfl) ?_
        refine op_eql (ev_hit hN2020 rfl) (ev_hit hN2020 rfl) (fun c65 => ?_) (fun c65 => ?_)
        · -- 65T
         refine op_pick_t (ev_hit hN2020 rfl) (ev_hit hN2020 rfl) ?_
         refine op_move (ev_hit hN2020 rfl) ?_
         refine g_true (j := 33) (dj := 67) (b := true) rfl rfl rfl (ev_hit hN2020 rfl) ?_
         refine op_move (ev_base hN2020 rfl s2020_0) ?_
         refine g_true (j := 33) (dj := 67) (b := true) rfl rfl rfl (ev_hit hN2020 rfl) ?_
         refine op_move (ev_base hN2020 rfl s2020_1) ?_
         refine g_true (j := 33) (dj := 67) (b := true) rfl rfl rfl (ev_hit hN2020 rfl) ?_
         refine op_fn (vs := [va, vb]) ok27 ⟨(ev_hit hN2020 rfl), ⟨(ev_hit hN2020 rfl), trivial⟩⟩ (flowsW_ret a b _ _ _ (by first | assumption | omega | (simp only [List.length_append, List.length_cons, List.length_nil, List.length_drop, List.length_take]; omega) | (dsimp only; omega) | decide | (simp [keyV, be8_len]; done)) (by first | assumption | omega | (simp only [List.length_append, List.length_cons, List.length_nil, List.length_drop, List.length_take]; omega) | (dsimp only; omega) | decide | (simp [keyV, be8_len]; done)) (show RdC w2026 0 w2026.heap.size 1 va a.length (a.map u16v) from by have hh : RdC w2026 0 w2026.heap.size 1 _ _ _ := (hra.mono (L' := 0) (B' := w2026.heap.size) (Nat.zero_le _) (by omega)); first | exact hh | exact hh.cast (by first | omega | (simp; try omega)) (by first | rfl | simp [u16v])) (show RdC w2026 0 w2026.heap.size 1 vb b.length (b.map u16v) from by have hh : RdC w2026 0 w2026.heap.size 1 _ _ _ := (hrb.mono (L' := 0) (B' := w2026.heap.size) (Nat.zero_le _) (by omega)); first | exact hh | exact hh.cast (by first | omega | (simp; try omega)) (by first | rfl | simp [u16v]))) ?_
         rintro _ w2028 ⟨E2029, rfl⟩
         have E2029 := grown_of_below E2029
         have z_w2028 := E2029.size
         have hra := hra.keep0 E2029
         have hrb := hrb.keep0 E2029
         have hrc := hrc.keep0 E2029
         have hb := below_step0 hb E2029 hb.size
         rcases Bool.eq_false_or_eq_true ((flowsL a b)) with c70 | c70
         · -- 70T
          rw [c70]
          refine g_true (j := 33) (dj := 67) (b := true) rfl rfl rfl (ev_hit hN2020 rfl) ?_
          refine op_not (ev_hit hN2020 rfl) ?_
          refine g_true (j := 33) (dj := 67) (b := true) rfl rfl rfl (ev_hit hN2020 rfl) ?_
          refine op_move (ev_hit hN2020 rfl) ?_
          refine g_true (j := 38) (dj := 72) (b := false) rfl rfl rfl (ev_hit hN2020 rfl) ?_
          refine op_move (ev_base hN2020 rfl s2020_7) ?_
          refine g_true (j := 38) (dj := 72) (b := false) rfl rfl rfl (ev_hit hN2020 rfl) ?_
          refine op_neq (ev_hit hN2020 rfl) rfl (fun c74 => ?_) (fun c74 => ?_)
          · -- 74T
           refine g_true (j := 33) (dj := 67) (b := true) rfl rfl rfl (ev_hit hN2020 rfl) ?_
           refine op_pick_f (ev_hit hN2020 rfl) (ev_hit hN2020 rfl) ?_
           refine op_pick_t (ev_hit hN2020 rfl) (ev_hit hN2020 rfl) ?_
           refine op_assign (ev_hit hN2020 rfl) ?_
           refine reg_nil ?_
           refine hK2023 _ _ ?_
           refine wp_ret ?_
           refine ret1 rfl hd2020 (ev_hit hN2020 rfl) ⟨_, rfl, ?_⟩
           -- path 12T 16T 21T 39T 44T 48T 65T 70T 74T
           exact ⟨hb, rfl⟩
          · -- 74F
           exact absurd c74 (flows_cmp c12 c16 c70)
         · -- 70F
          rw [c70]
          refine g_true (j := 33) (dj := 67) (b := true) rfl rfl rfl (ev_hit hN2020 rfl) ?_
          refine op_not (ev_hit hN2020 rfl) ?_
          refine g_true (j := 33) (dj := 67) (b := true) rfl rfl rfl (ev_hit hN2020 rfl) ?_
          refine op_move (ev_hit hN2020 rfl) ?_
          refine g_false (j := 38) (dj := 72) (b := false) rfl rfl rfl (ev_hit hN2020 rfl) rfl rfl ?_
          refine g_false (j := 38) (dj := 72) (b := false) rfl rfl rfl (ev_hit hN2020 rfl) rfl rfl ?_
          refine g_true (j := 33) (dj := 67) (b := true) rfl rfl rfl (ev_hit hN2020 rfl) ?_
          refine op_pick_t (ev_hit hN2020 rfl) rfl ?_
          refine op_pick_t (ev_hit hN2020 rfl) (ev_hit hN2020 rfl) ?_
          refine op_assign (ev_hit hN2020 rfl) ?_
          refine reg_nil ?_
          refine hK2023 _ _ ?_
          refine wp_ret ?_
          refine ret1 rfl hd2020 (ev_hit hN2020 rfl) ⟨_, rfl, ?_⟩
          -- path 12T 16T 21T 39T 44T 48T 65T 70F
          exact ⟨hb, rfl⟩
        · -- 65F
         exact absurd (cmp_put c12 c16) c65
       · -- 48F
        refine g_true (j := 12) (dj := 46) (b := true) rfl rfl rfl (ev_hit hN2020 rfl) ?_
        refine op_move (ev_hit hN2020 rfl) ?_
        refine g_true (j := 15) (dj := 49) (b := false) rfl rfl rfl (ev_hit hN2020 rfl) ?_
        refine op_move (ev_base hN2020 rfl s2020_1) ?_
        refine g_true (j := 15) (dj := 49) (b := false) rfl rfl rfl (ev_hit hN2020 rfl) ?_
        refine op_move (ev_base hN2020 rfl s2020_2) ?_
        refine g_true (j := 15) (dj := 49) (b := false) rfl rfl rfl (ev_hit hN2020 rfl) ?_
        refine op_fn (vs := [vb, vc]) ok31 ⟨(ev_hit hN2020 rfl), ⟨(ev_hit hN2020 rfl), trivial⟩⟩ (lcmpW_ret b c _ _ _ (by first | assumption | omega | (simp only [List.length_append, List.length_cons, List.length_nil, List.length_drop, List.length_take]; omega) | (dsimp only; omega) | decide | (simp [keyV, be8_len]; done)) (by first | assumption | omega | (simp only [List.length_append, List.length_cons, List.length_nil, List.length_drop, List.length_take]; omega) | (dsimp only; omega) | decide | (simp [keyV, be8_len]; done)) (show RdC w2026 0 w2026.heap.size 1 vb b.length (b.map u16v) from by have hh : RdC w2026 0 w2026.heap.size 1 _ _ _ := (hrb.mono (L' := 0) (B' := w2026.heap.size) (Nat.zero_le _) (by omega)); first | exact hh | exact hh.cast (by first | omega | (simp; try omega)) (by first | rfl | simp [u16v])) (show RdC w2026 0 w2026.heap.size 1 vc c.length (c.map u16v) from by have hh : RdC w2026 0 w2026.heap.size 1 _ _ _ := (hrc.mono (L' := 0) (B' := w2026.heap.size) (Nat.zero_le _) (by omega)); first | exact hh | exact hh.cast (by first | omega | (simp; try omega)) (by first | rfl | simp [u16v]))) ?_
        rintro _ w2030 ⟨E2031, rfl⟩
        have E2031 := grown_of_below E2031
        have z_w2030 := E2031.size
        have hra := hra.keep0 E2031
        have hrb := hrb.keep0 E2031
        have hrc := hrc.keep0 E2031
        have hb := below_step0 hb E2031 hb.size
        refine g_true (j := 15) (dj := 49) (b := false) rfl rfl rfl (ev_hit hN2020 rfl) ?_
        refine op_neq (ev_hit hN2020 rfl) rfl (fun c53 => ?_) (fun c53 => ?_)
        · -- 53T
         refine g_true (j := 12) (dj := 46) (b := true) rfl rfl rfl (ev_hit hN2020 rfl) ?_
         refine op_pick_f (ev_hit hN2020 rfl) (ev_hit hN2020 rfl) ?_
         refine g_true (j := 12) (dj := 46) (b := true) rfl rfl rfl (ev_hit hN2020 rfl) ?_
         refine op_move (ev_hit hN2020 rfl) ?_
         refine g_false (j := 21) (dj := 55) (b := false) rfl rfl rfl (ev_hit hN2020 rfl) rfl rfl ?_
         refine g_false (j := 21) (dj := 55) (b := false) rfl rfl rfl (ev_hit hN2020 rfl) rfl rfl ?_
         refine g_false (j := 21) (dj := 55) (b := false) rfl rfl rfl (ev_hit hN2020 rfl) rfl rfl ?_
         refine g_false (j := 21) (dj := 55) (b := false) rfl rfl rfl (ev_hit hN2020 rfl) rfl rfl ?_
         refine g_true (j := 12) (dj := 46) (b := true) rfl rfl rfl (ev_hit hN2020 rfl) ?_
         refine op_pick_t (ev_hit hN2020 rfl) rfl ?_
         refine op_pick_t (ev_hit hN2020 rfl) (ev_hit hN2020 rfl) ?_
         refine op_move (ev_hit hN2020 rfl) ?_
         refine g_true (j := 28) (dj := 62) (b := true) rfl rfl rfl (ev_hit hN2020 rfl) ?_
         refine op_move (ev_hit hN2020 rfl) ?_
         refine g_true (j := 28) (dj := 62) (b := true) rfl rfl rfl (ev_hit hN2020 rfl) ?_
         refine op_move (ev_base hN2020 rfl s2020_7) ?_
         refine g_true (j := 28) (dj := 62) (b := true) rfl rfl rfl (ev_hit hN2020 rfl) ?_
         refine op_eql (ev_hit hN2020 rfl) (ev_hit hN2020 rfl) (fun c65 => ?_) (fun c65 => ?_)
         · -- 65T
          refine op_pick_t (ev_hit hN2020 rfl) (ev_hit hN2020 rfl) ?_
          refine op_move (ev_hit hN2020 rfl) ?_
          refine g_true (j := 33) (dj := 67) (b := true) rfl rfl rfl (ev_hit hN2020 rfl) ?_
          refine op_move (ev_base hN2020 rfl s2020_0) ?_
          refine g_true (j := 33) (dj := 67) (b := true) rfl rfl rfl (ev_hit hN2020 rfl) ?_
          refine op_move (ev_base hN2020 rfl s2020_1) ?_
          refine g_true (j := 33) (dj := 67) (b := true) rfl rfl rfl (ev_hit hN2020 rfl) ?_
          refine op_fn (vs := [va, vb]) ok27 ⟨(ev_hit hN2020 rfl), ⟨(ev_hit hN2020 rfl), trivial⟩⟩ (flowsW_ret a b _ _ _ (by first | assumption | omega | (simp only [List.length_append, List.length_cons, List.length_nil, List.length_drop, List.length_take]; omega) | (dsimp only; omega) | decide | (simp [keyV, be8_len]; done)) (by first | assumption | omega | (simp only [List.length_append, List.length_cons, List.length_nil, List.length_drop, List.length_take]; omega) | (dsimp only; omega) | decide | (simp [keyV, be8_len]; done)) (show RdC w2030 0 w2030.heap.size 1 va a.length (a.map u16v) from by have hh : RdC w2030 0 w2030.heap.size 1 _ _ _ := (hra.mono (L' := 0) (B' := w2030.heap.size) (Nat.zero_le _) (by omega)); first | exact hh | exact hh.cast (by first | omega | (simp; try omega)) (by first | rfl | simp [u16v])) (show RdC w2030 0 w2030.heap.size 1 vb b.length (b.map u16v) from by have hh : RdC w2030 0 w2030.heap.size 1 _ _ _ := (hrb.mono (L' := 0) (B' := w2030.heap.size) (Nat.zero_le _) (by omega)); first | exact hh | exact hh.cast (by first | omega | (simp; try omega)) (by first | rfl | simp [u16v]))) ?_
          rintro _ w2032 ⟨E2033, rfl⟩
          have E2033 := grown_of_below E2033
          have z_w2032 := E2033.size
          have hra := hra.keep0 E2033
          have hrb := hrb.keep0 E2033
          have hrc := hrc.keep0 E2033
          have hb := below_step0 hb E2033 hb.size
          rcases Bool.eq_false_or_eq_true ((flowsL a b)) with c70 | c70
          · -- 70T
           rw [c70]
           refine g_true (j := 33) (dj := 67) (b := true) rfl rfl rfl (ev_hit hN2020 rfl) ?_
           refine op_not (ev_hit hN2020 rfl) ?_
           refine g_true (j := 33) (dj := 67) (b := true) rfl rfl rfl (ev_hit hN2020 rfl) ?_
           refine op_move (ev_hit hN2020 rfl) ?_
           refine g_true (j := 38) (dj := 72) (b := false) rfl rfl rfl (ev_hit hN2020 rfl) ?_
           refine op_move (ev_base hN2020 rfl s2020_7) ?_
           refine g_true (j := 38) (dj := 72) (b := false) rfl rfl rfl (ev_hit hN2020 rfl) ?_
           refine op_neq (ev_hit hN2020 rfl) rfl (fun c74 => ?_) (fun c74 => ?_)
           · -- 74T
            refine g_true (j := 33) (dj := 67) (b := true) rfl rfl rfl (ev_hit hN2020 rfl) ?_
            refine op_pick_f (ev_hit hN2020 rfl) (ev_hit hN2020 rfl) ?_
            refine op_pick_t (ev_hit hN2020 rfl) (ev_hit hN2020 rfl) ?_
            refine op_assign (ev_hit hN2020 rfl) ?_
            refine reg_nil ?_
            refine hK2023 _ _ ?_
            refine wp_ret ?_
            refine ret1 rfl hd2020 (ev_hit hN2020 rfl) ⟨_, rfl, ?_⟩
            -- path 12T 16T 21T 39T 44T 48F 53T 65T 70T 74T
            exact ⟨hb, rfl⟩
           · -- 74F
            exact absurd c74 (flows_cmp c12 c16 c70)
          · -- 70F
           rw [c70]
           refine g_true (j := 33) (dj := 67) (b := true) rfl rfl rfl (ev_hit hN2020 rfl) ?_
           refine op_not (ev_hit hN2020 rfl) ?_
           refine g_true (j := 33) (dj := 67) (b := true) rfl rfl rfl (ev_hit hN2020 rfl) ?_
           refine op_move (ev_hit hN2020 rfl) ?_
           refine g_false (j := 38) (dj := 72) (b := false) rfl rfl rfl (ev_hit hN2020 rfl) rfl rfl ?_
           refine g_false (j := 38) (dj := 72) (b := false) rfl rfl rfl (ev_hit hN2020 rfl) rfl rfl ?_
           refine g_true (j := 33) (dj := 67) (b := true) rfl rfl rfl (ev_hit hN2020 rfl) ?_
           refine op_pick_t (ev_hit hN2020 rfl) rfl ?_
           refine op_pick_t (ev_hit hN2020 rfl) (ev_hit hN2020 rfl) ?_
           refine op_assign (ev_hit hN2020 rfl) ?_
           refine reg_nil ?_
           refine hK2023 _ _ ?_
           refine wp_ret ?_
           refine ret1 rfl hd2020 (ev_hit hN2020 rfl) ⟨_, rfl, ?_⟩
           -- path 12T 16T 21T 39T 44T 48F 53T 65T 70F
           exact ⟨hb, rfl⟩
         · -- 65F
          exact absurd (cmp_put c12 c16) c65
        · -- 53F
         refine g_true (j := 12) (dj := 46) (b := true) rfl rfl rfl (ev_hit hN2020 rfl) ?_
         refine op_pick_f (ev_hit hN2020 rfl) (ev_hit hN2020 rfl) ?_
         refine g_true (j := 12) (dj := 46) (b := true) rfl rfl rfl (ev_hit hN2020 rfl) ?_
         refine op_move (ev_hit hN2020 rfl) ?_
         refine g_true (j := 21) (dj := 55) (b := false) rfl rfl rfl (ev_hit hN2020 rfl) ?_
         refine op_move (ev_base hN2020 rfl s2020_0) ?_
         refine g_true (j := 21) (dj := 55) (b := false) rfl rfl rfl (ev_hit hN2020 rfl) ?_
         refine op_move (ev_base hN2020 rfl s2020_2) ?_
         refine g_true (j := 21) (dj := 55) (b := false) rfl rfl rfl (ev_hit hN2020 rfl) ?_
         refine op_fn (vs := [va, vc]) ok31 ⟨(ev_hit hN2020 rfl), ⟨(ev_hit hN2020 rfl), trivial⟩⟩ (lcmpW_ret a c _ _ _ (by first | assumption | omega | (simp only [List.length_append, List.length_cons, List.length_nil, List.length_drop, List.length_take]; omega) | (dsimp only; omega) | decide | (simp [keyV, be8_len]; done)) (by first | assumption | omega | (simp only [List.length_append, List.length_cons, List.length_nil, List.length_drop, List.length_take]; omega) | (dsimp only; omega) | decide | (simp [keyV, be8_len]; done)) (show RdC w2030 0 w2030.heap.size 1 va a.length (a.map u16v) from by have hh : RdC w2030 0 w2030.heap.size 1 _ _ _ := (hra.mono (L' := 0) (B' := w2030.heap.size) (Nat.zero_le _) (by omega)); first | exact hh | exact hh.cast (by first | omega | (simp; try omega)) (by first | rfl | simp [u16v])) (show RdC w2030 0 w2030.heap.size 1 vc c.length (c.map u16v) from by have hh : RdC w2030 0 w2030.heap.size 1 _ _ _ := (hrc.mono (L' := 0) (B' := w2030.heap.size) (Nat.zero_le _) (by omega)); first | exact hh | exact hh.cast (by first | omega | (simp; try omega)) (by first | rfl | simp [u16v]))) ?_
         rintro _ w2034 ⟨E2035, rfl⟩
         have E2035 := grown_of_below E2035
         have z_w2034 := E2035.size
         have hra := hra.keep0 E2035
         have hrb := hrb.keep0 E2035
         have hrc := hrc.keep0 E2035
         have hb := below_step0 hb E2035 hb.size
         refine g_true (j := 21) (dj := 55) (b := false) rfl rfl rfl (ev_hit hN2020 rfl) ?_
         refine op_eql (ev_hit hN2020 rfl) rfl (fun c59 => ?_) (fun c59 => ?_)
         · -- 59T
          refine g_true (j := 12) (dj := 46) (b := true) rfl rfl rfl (ev_hit hN2020 rfl) ?_
          refine op_pick_f (ev_hit hN2020 rfl) (ev_hit hN2020 rfl) ?_
          refine op_pick_t (ev_hit hN2020 rfl) (ev_hit hN2020 rfl) ?_
          refine op_move (ev_hit hN2020 rfl) ?_
          refine g_true (j := 28) (dj := 62) (b := true) rfl rfl rfl (ev_hit hN2020 rfl) ?_
          refine op_move (ev_hit hN2020 rfl) ?_
          refine g_true (j := 28) (dj := 62) (b := true) rfl rfl rfl (ev_hit hN2020 rfl) ?_
          refine op_move (ev_base hN2020 rfl s2020_7) ?_
          refine g_true (j := 28) (dj := 62) (b := true) rfl rfl rfl (ev_hit hN2020 rfl) ?_
          refine op_eql (ev_hit hN2020 rfl) (ev_hit hN2020 rfl) (fun c65 => ?_) (fun c65 => ?_)
          · -- 65T
           refine op_pick_t (ev_hit hN2020 rfl) (ev_hit hN2020 rfl) ?_
           refine op_move (ev_hit hN2020 rfl) ?_
           refine g_true (j := 33) (dj := 67) (b := true) rfl rfl rfl (ev_hit hN2020 rfl) ?_
           refine op_move (ev_base hN2020 rfl s2020_0) ?_
           refine g_true (j := 33) (dj := 67) (b := true) rfl rfl rfl (ev_hit hN2020 rfl) ?_
           refine op_move (ev_base hN2020 rfl s2020_1) ?_
           refine g_true (j := 33) (dj := 67) (b := true) rfl rfl rfl (ev_hit hN2020 rfl) ?_
           refine op_fn (vs := [va, vb]) ok27 ⟨(ev_hit hN2020 rfl), ⟨(ev_hit hN2020 rfl), trivial⟩⟩ (flowsW_ret a b _ _ _ (by first | assumption | omega | (simp only [List.length_append, List.length_cons, List.length_nil, List.length_drop, List.length_take]; omega) | (dsimp only; omega) | decide | (simp [keyV, be8_len]; done)) (by first | assumption | omega | (simp only [List.length_append, List.length_cons, List.length_nil, List.length_drop, List.length_take]; omega) | (dsimp only; omega) | decide | (simp [keyV, be8_len]; done)) (show RdC w2034 0 w2034.heap.size 1 va a.length (a.map u16v) from by have hh : RdC w2034 0 w2034.heap.size 1 _ _ _ := (hra.mono (L' := 0) (B' := w2034.heap.size) (Nat.zero_le _) (by omega)); first | exact hh | exact hh.cast (by first | omega | (simp; try omega)) (by first | rfl | simp [u16v])) (show RdC w2034 0 w2034.heap.size 1 vb b.length (b.map u16v) from by have hh : RdC w2034 0 w2034.heap.size 1 _ _ _ := (hrb.mono (L' := 0) (B' := w2034.heap.size) (Nat.zero_le _) (by omega)); first | exact hh | exact hh.cast (by first | omega | (simp; try omega)) (by first | rfl | simp [u16v]))) ?_
           rintro _ w2036 ⟨E2037, rfl⟩
           have E2037 := grown_of_below E2037
           have z_w2036 := E2037.size
           have hra := hra.keep0 E2037
           have hrb := hrb.keep0 E2037
           have hrc := hrc.keep0 E2037
           have hb := below_step0 hb E2037 hb.size
           rcases Bool.eq_false_or_eq_true ((flowsL a b)) with c70 | c70
           · -- 70T
            rw [c70]
            refine g_true (j := 33) (dj := 67) (b := true) rfl rfl rfl (ev_hit hN2020 rfl) ?_
            refine op_not (ev_hit hN2020 rfl) ?_
            refine g_true (j := 33) (dj := 67) (b := true) rfl rfl rfl (ev_hit hN2020 rfl) ?_
            refine op_move (ev_hit hN2020 rfl) ?_
            refine g_true (j := 38) (dj := 72) (b := false) rfl rfl rfl (ev_hit hN2020 rfl) ?_
            refine op_move (ev_base hN2020 rfl s2020_7) ?_
            refine g_true (j := 38) (dj := 72) (b := false) rfl rfl rfl (ev_hit hN2020 rfl) ?_
            refine op_neq (ev_hit hN2020 rfl) rfl (fun c74 => ?_) (fun c74 => ?_)
            · -- 74T
             refine g_true (j := 33) (dj := 67) (b := true) rfl rfl rfl (ev_hit hN2020 rfl) ?_
             refine op_pick_f (ev_hit hN2020 rfl) (ev_hit hN2020 rfl) ?_
             refine op_pick_t (ev_hit hN2020 rfl) (ev_hit hN2020 rfl) ?_
             refine op_assign (ev_hit hN2020 rfl) ?_
             refine reg_nil ?_
             refine hK2023 _ _ ?_
             refine wp_ret ?_
             refine ret1 rfl hd2020 (ev_hit hN2020 rfl) ⟨_, rfl, ?_⟩
             -- path 12T 16T 21T 39T 44T 48F 53F 59T 65T 70T 74T
             exact ⟨hb, rfl⟩
            · -- 74F
             exact absurd c74 (flows_cmp c12 c16 c70)
           · -- 70F
            rw [c70]
            refine g_true (j := 33) (dj := 67) (b := true) rfl rfl rfl (ev_hit hN2020 rfl) ?_
            refine op_not (ev_hit hN2020 rfl) ?_
            refine g_true (j := 33) (dj := 67) (b := true) rfl rfl rfl (ev_hit hN2020 rfl) ?_
            refine op_move (ev_hit hN2020 rfl) ?_
            refine g_false (j := 38) (dj := 72) (b := false) rfl rfl rfl (ev_hit hN2020 rfl) rfl rfl ?_
            refine g_false (j := 38) (dj := 72) (b := false) rfl rfl rfl (ev_hit hN2020 rfl) rfl rfl ?_
            refine g_true (j := 33) (dj := 67) (b := true) rfl rfl rfl (ev_hit hN2020 rfl) ?_
            refine op_pick_t (ev_hit hN2020 rfl) rfl ?_
            refine op_pick_t (ev_hit hN2020 rfl) (ev_hit hN2020 rfl) ?_
            refine op_assign (ev_hit hN2020 rfl) ?_
            refine reg_nil ?_
            refine hK2023 _ _ ?_
            refine wp_ret ?_
            refine ret1 rfl hd2020 (ev_hit hN2020 rfl) ⟨_, rfl, ?_⟩
            -- path 12T 16T 21T 39T 44T 48F 53F 59T 65T 70F
            exact ⟨hb, rfl⟩
          · -- 65F
           exact absurd (cmp_put c12 c16) c65
         · -- 59F
          exact absurd (cmpL_trans (by omega) (by omega)) c59
      · -- 44F
       exact absurd (cmpL_self a) c44
     · -- 39F
      exact absurd (cmpL_swap a b) c39
   · -- 21F
    rw [c21]
    refine g_true (j := 8) (dj := 19) (b := false) rfl rfl rfl (ev_hit hN rfl) ?_
    refine op_not (ev_hit hN rfl) ?_
    refine op_pick_f (ev_hit hN rfl) (ev_hit hN rfl) ?_
    refine reg_nil ?_
    refine hK2001 _ _ ?_
    refine wp_cond_true (ev_hit hN rfl) ?_
    refine seq_any fun K2038 hK2038 => ?_
    refine one_reg ?_
    refine op_assign rfl ?_
    refine reg_nil ?_
    refine hK2038 _ _ ?_
    refine wp_ret (then_ret ( ?_))
    refine ret1 rfl hd (ev_hit hN rfl) ⟨_, rfl, ?_⟩
    -- path 12T 16T 21F
    exact ⟨hb, rfl⟩
  · -- 16F
   rw [c16]
   refine g_true (j := 3) (dj := 14) (b := false) rfl rfl rfl (ev_hit hN rfl) ?_
   refine op_not (ev_hit hN rfl) ?_
   refine op_pick_f (ev_hit hN rfl) (ev_hit hN rfl) ?_
   refine op_move (ev_hit hN rfl) ?_
   refine g_false (j := 8) (dj := 19) (b := false) rfl rfl rfl (ev_hit hN rfl) rfl rfl ?_
   refine g_false (j := 8) (dj := 19) (b := false) rfl rfl rfl (ev_hit hN rfl) rfl rfl ?_
   refine g_false (j := 8) (dj := 19) (b := false) rfl rfl rfl (ev_hit hN rfl) rfl rfl ?_
   refine op_pick_t (ev_hit hN rfl) rfl ?_
   refine reg_nil ?_
   refine hK2001 _ _ ?_
   refine wp_cond_true (ev_hit hN rfl) ?_
   refine seq_any fun K2039 hK2039 => ?_
   refine one_reg ?_
   refine op_assign rfl ?_
   refine reg_nil ?_
   refine hK2039 _ _ ?_
   refine wp_ret (then_ret ( ?_))
   refine ret1 rfl hd (ev_hit hN rfl) ⟨_, rfl, ?_⟩
   -- path 12T 16F
   exact ⟨hb, rfl⟩
 · -- 12F
  rw [c12]
  refine op_not (ev_hit hN rfl) ?_
  refine op_move (ev_hit hN rfl) ?_
  refine g_false (j := 3) (dj := 14) (b := false) rfl rfl rfl (ev_hit hN rfl) rfl rfl ?_
  refine g_false (j := 3) (dj := 14) (b := false) rfl rfl rfl (ev_hit hN rfl) rfl rfl ?_
  refine g_false (j := 3) (dj := 14) (b := false) rfl rfl rfl (ev_hit hN rfl) rfl rfl ?_
  refine op_pick_t (ev_hit hN rfl) rfl ?_
  refine op_move (ev_hit hN rfl) ?_
  refine g_false (j := 8) (dj := 19) (b := false) rfl rfl rfl (ev_hit hN rfl) rfl rfl ?_
  refine g_false (j := 8) (dj := 19) (b := false) rfl rfl rfl (ev_hit hN rfl) rfl rfl ?_
  refine g_false (j := 8) (dj := 19) (b := false) rfl rfl rfl (ev_hit hN rfl) rfl rfl ?_
  refine op_pick_t (ev_hit hN rfl) rfl ?_
  refine reg_nil ?_
  refine hK2001 _ _ ?_
  refine wp_cond_true (ev_hit hN rfl) ?_
  refine seq_any fun K2040 hK2040 => ?_
  refine one_reg ?_
  refine op_assign rfl ?_
  refine reg_nil ?_
  refine hK2040 _ _ ?_
  refine wp_ret (then_ret ( ?_))
  refine ret1 rfl hd (ev_hit hN rfl) ⟨_, rfl, ?_⟩
  -- path 12F
  exact ⟨hb, rfl⟩

end Go.Proofs.Ytpmnljffdofkeaa

/- What the arguments of the laws are, told by their types. -/
namespace Go.Proofs.Ytpmnljffdofkeaa
open Go.Gx Go.RowKit
theorem rd_le {w : World} {L B sz n : Nat} {v : Value} {cs : List Value} (h : RdC w L B sz v n cs) : n ≤ 9223372036854775807 := by obtain ⟨_, _, _, _, hq, hm, _⟩ := h; exact Nat.le_trans hq hm
theorem cells35 : Try.prog.cellsOf 35 = 1 := by kernel_rfl
theorem flat_u16v (l : List UInt16) : l.flatMap (fun c => [u16v c]) = l.map u16v := by induction l with | nil => rfl | cons c l ih => simp [ih]
theorem dec23 {H : Type} {enc : TypeId × Value → H} {w : World} {base : Nat} {spare : Nat → Bool} {held : Bool} : Dec enc Try.prog w base spare held 23 (fun p : Value × List UInt16 => [p.1]) (fun p => RdC w 0 w.heap.size 1 p.1 p.2.length (p.2.map u16v)) :=
  (Dec.slice Try.underlying23 (by rw [cells35]; decide) (Dec.u16 Try.underlying35) (fun _ _ => by rw [cells35]; rfl)).map fun p hp => ⟨p, rfl, by have hq := hp.1; rwa [cells35, flat_u16v] at hq⟩
theorem dec22 {H : Type} {enc : TypeId × Value → H} {w : World} {base : Nat} {spare : Nat → Bool} {held : Bool} : Dec enc Try.prog w base spare held 22 (fun p : Value × List UInt16 => [p.1]) (fun p => RdC w 0 w.heap.size 1 p.1 p.2.length (p.2.map u16v)) :=
  (Dec.slice Try.underlying22 (by rw [cells35]; decide) (Dec.u16 Try.underlying35) (fun _ _ => by rw [cells35]; rfl)).map fun p hp => ⟨p, rfl, by have hq := hp.1; rwa [cells35, flat_u16v] at hq⟩
theorem cells5 : Try.prog.cellsOf 5 = 1 := by kernel_rfl
theorem flat_u8v (l : List UInt8) : l.flatMap (fun c => [u8v c]) = l.map u8v := by induction l with | nil => rfl | cons c l ih => simp [ih]
theorem dec39 {H : Type} {enc : TypeId × Value → H} {w : World} {base : Nat} {spare : Nat → Bool} {held : Bool} : Dec enc Try.prog w base spare held 39 (fun p : Value × List UInt8 => [p.1]) (fun p => RdC w 0 w.heap.size 1 p.1 p.2.length (p.2.map u8v)) :=
  (Dec.slice Try.underlying39 (by rw [cells5]; decide) (Dec.u8 Try.underlying5) (fun _ _ => by rw [cells5]; rfl)).map fun p hp => ⟨p, rfl, by have hq := hp.1; rwa [cells5, flat_u8v] at hq⟩
theorem cells23 : Try.prog.cellsOf 23 = 1 := by kernel_rfl
theorem dec49 {H : Type} {enc : TypeId × Value → H} {w : World} {base : Nat} {spare : Nat → Bool} {held : Bool} : Dec enc Try.prog w base spare held 49 (fun p : Value × List (Value × List UInt16) => [p.1]) (fun p => RdC w 0 w.heap.size 1 p.1 p.2.length (p.2.flatMap (fun (x9 : Value × List UInt16) => [x9.1])) ∧ ∀ x ∈ p.2, (RdC w 0 w.heap.size 1 x.1 x.2.length (x.2.map u16v))) :=
  (Dec.slice Try.underlying49 (by rw [cells23]; decide) dec23 (fun _ _ => by rw [cells23]; rfl)).map fun p hp => ⟨p, rfl, by have hq := hp.1; rw [cells23] at hq; exact hq, hp.2⟩
end Go.Proofs.Ytpmnljffdofkeaa
