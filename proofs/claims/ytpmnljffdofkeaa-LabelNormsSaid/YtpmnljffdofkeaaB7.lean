/- Walks, written by a program: what each function of the translation hands back. -/
import Derived.Test.YtpmnljffdofkeaaProg
import Derived.KernelRfl
import Derived.Test.YtpmnljffdofkeaaB6
namespace Go.Proofs.Ytpmnljffdofkeaa
open Go.Gx Go.RowKit
attribute [local irreducible] wpList wpStill Code.wp Calls

theorem begun1_ret (w : World) : Ret Try.prog 23 #[] w (fun v' w' => Below w.heap.size w w' ∧ v' = .bool true) := by
 have hz1 : (normL [3, 1, 3]).length = 2 := by decide +kernel
 have hz2 : (takeL [1, 0, 7]).1.length = 1 := by decide +kernel
 have hb := Below.refl w.heap.size w
 refine enter (N := 74) Try.func23 rfl rfl (by simp) fun a0 hN hd hA => ?_
 clear hA
 refine seq_any fun K1 hK1 => ?_
 refine one_reg ?_
 refine op_assign rfl ?_
 refine reg_nil ?_
 refine hK1 _ _ ?_
 refine seq_any fun K2 hK2 => ?_
 refine one_reg ?_
 refine op_bslice (e := 35) (pv := [(0, (Value.int .u16 3)), (1, (Value.int .u16 1)), (2, (Value.int .u16 3))]) (cs := [(Value.int .u16 3), (Value.int .u16 1), (Value.int .u16 3)]) ⟨rfl, rfl, ⟨rfl, rfl, ⟨rfl, rfl, trivial⟩⟩⟩ (by kernel_rfl) ?_
 intro w3 b4 lo_b4 hi_b4 hB6 E5
 have z_w3 := E5.size
 have hb := below_step0 hb E5 hb.size
 refine op_fn (vs := [(Value.slice (some ⟨b4, 0, none⟩) 3 3)]) ok24 ⟨(ev_hit hN rfl), trivial⟩ (normW_ret [3, 1, 3] _ _ (by first | assumption | omega | (simp only [List.length_append, List.length_cons, List.length_nil, List.length_drop, List.length_take]; omega) | (dsimp only; omega) | decide | (simp [keyV, be8_len]; done)) (show RdC w3 0 w3.heap.size 1 (Value.slice (some ⟨b4, 0, none⟩) 3 3) [3, 1, 3].length ([3, 1, 3].map u16v) from by have hh : RdC w3 0 w3.heap.size 1 _ _ _ := ((RdC.ofBx (sz := 1) (n := 3) hB6 rfl (by decide)).mono (L' := 0) (B' := w3.heap.size) (Nat.zero_le _) (by have := hB6.lt; omega)); first | exact hh | exact hh.cast (by first | omega | (simp; try omega)) (by first | rfl | simp [u16v]))) ?_
 rintro _ w8 ⟨E9, v7, rfl, hO7⟩
 have E9 := grown_of_below E9
 have z_w8 := E9.size
 have hB6 := hB6.keep0 E9
 have hb := below_step0 hb E9 hb.size
 have hO7 := hO7.mono (base' := w.heap.size) (by omega)
 have hnl7 := normL_len [3, 1, 3]
 refine op_move (ev_hit hN rfl) ?_
 refine op_extract (ev_hit hN rfl) rfl ?_
 refine op_extract (ev_hit hN rfl) rfl ?_
 refine op_assign (ev_hit hN rfl) ?_
 refine op_assign (ev_hit hN rfl) ?_
 refine reg_nil ?_
 refine hK2 _ _ ?_
 refine seq_any fun K10 hK10 => ?_
 refine one_reg ?_
 refine op_bslice (e := 5) (pv := [(0, (Value.int .u8 1)), (1, (Value.int .u8 0)), (2, (Value.int .u8 7))]) (cs := [(Value.int .u8 1), (Value.int .u8 0), (Value.int .u8 7)]) ⟨rfl, rfl, ⟨rfl, rfl, ⟨rfl, rfl, trivial⟩⟩⟩ (by kernel_rfl) ?_
 intro w11 b12 lo_b12 hi_b12 hB14 E13
 have z_w11 := E13.size
 have hB6 := hB6.keep0 E13
 have hO7 := hO7.keep0 E13
 have hb := below_step0 hb E13 hb.size
 have hq15 : RdC w11 0 w11.heap.size 1 (Value.slice (some ⟨b12, 0, none⟩) 3 3) [1, 0, 7].length ([1, 0, 7].map u8v) := by have hh : RdC w11 0 w11.heap.size 1 _ _ _ := ((RdC.ofBx (sz := 1) (n := 3) hB14 rfl (by decide)).mono (L' := 0) (B' := w11.heap.size) (Nat.zero_le _) (by have := hB14.lt; omega)); first | simpa using hh | simpa [Nat.add_comm, Nat.add_left_comm, Nat.add_assoc] using hh | exact hh.cast (by first | rfl | (simp; try omega)) (by first | rfl | (simp; done) | simp [u8v])
 refine op_fn (vs := [(Value.slice (some ⟨b12, 0, none⟩) 3 3)]) ok38 ⟨(ev_hit hN rfl), trivial⟩ (labTake_ret [1, 0, 7] (Value.slice (some ⟨b12, 0, none⟩) 3 3) _ (by first | assumption | omega | (simp only [List.length_append, List.length_cons, List.length_nil, List.length_drop, List.length_take]; omega) | (dsimp only; omega) | decide | (simp [keyV, be8_len]; done)) hq15) ?_
 rintro _ w17 ⟨E18, u16, rfl, hO16⟩
 have dj19 : DJ u16 v7 := fun k hk hg => by have q1 := (hO16.lt k hk).1; have q2 := (hO7.lt k hg).2; omega
 have E18 := grown_of_below E18
 have z_w17 := E18.size
 have hB6 := hB6.keep0 E18
 have hO7 := hO7.keep0 E18
 have hB14 := hB14.keep0 E18
 have hb := below_step0 hb E18 hb.size
 have hO16 := hO16.mono (base' := w11.heap.size) (by omega)
 refine op_move (ev_hit hN rfl) ?_
 refine op_extract (ev_hit hN rfl) rfl ?_
 refine op_extract (ev_hit hN rfl) rfl ?_
 refine op_extract (ev_hit hN rfl) rfl ?_
 refine op_assign (ev_hit hN rfl) ?_
 refine op_assign (ev_hit hN rfl) ?_
 refine op_assign (ev_hit hN rfl) ?_
 refine reg_nil ?_
 refine hK10 _ _ ?_
 refine seq_any fun K20 hK20 => ?_
 refine one_reg ?_
 refine op_move (ev_hit hN rfl) ?_
 refine op_eql (ev_hit hN rfl) rfl (fun c18 => ?_) (fun c18 => ?_)
 · -- 18T
  refine op_move (ev_hit hN rfl) ?_
  refine g_true (j := 2) (dj := 19) (b := true) rfl rfl rfl (ev_hit hN rfl) ?_
  refine op_move (ev_hit hN rfl) ?_
  refine g_true (j := 2) (dj := 19) (b := true) rfl rfl rfl (ev_hit hN rfl) ?_
  refine op_len_rd Try.underlying23 (ev_hit hN rfl) hO7.rdw ?_
  refine g_true (j := 2) (dj := 19) (b := true) rfl rfl rfl (ev_hit hN rfl) ?_
  refine op_eql (ev_hit hN rfl) rfl (fun c22 => ?_) (fun c22 => ?_)
  · -- 22T
   refine op_pick_t (ev_hit hN rfl) (ev_hit hN rfl) ?_
   refine op_move (ev_hit hN rfl) ?_
   refine g_true (j := 7) (dj := 24) (b := true) rfl rfl rfl (ev_hit hN rfl) ?_
   refine op_move (ev_hit hN rfl) ?_
   refine g_true (j := 7) (dj := 24) (b := true) rfl rfl rfl (ev_hit hN rfl) ?_
   refine op_index_rd slt23 (ev_hit hN rfl) hO7.rdw rfl (by omega) (by omega) ?_
   intro b21 o22 h0b21 h1b21 hc23
   refine g_true (j := 7) (dj := 24) (b := true) rfl rfl rfl (ev_hit hN rfl) ?_
   refine op_load1 (v := (Value.int .u16 (((normL [3, 1, 3]).getD 0 0).toNat : Int))) one35 (ev_hit hN rfl) (by have := hc23 0 (Value.int .u16 (((normL [3, 1, 3]).getD 0 0).toNat : Int)) (by decide) (el_u16 (i := 0) (by omega) (by omega)); simpa using this) ?_
   refine g_true (j := 7) (dj := 24) (b := true) rfl rfl rfl (ev_hit hN rfl) ?_
   refine op_eql (ev_hit hN rfl) rfl (fun c28 => ?_) (fun c28 => ?_)
   · -- 28T
    refine op_pick_t (ev_hit hN rfl) (ev_hit hN rfl) ?_
    refine op_move (ev_hit hN rfl) ?_
    refine g_true (j := 13) (dj := 30) (b := true) rfl rfl rfl (ev_hit hN rfl) ?_
    refine op_move (ev_hit hN rfl) ?_
    refine g_true (j := 13) (dj := 30) (b := true) rfl rfl rfl (ev_hit hN rfl) ?_
    refine op_fn (vs := [v7]) ok26 ⟨(ev_hit hN rfl), trivial⟩ (labMay_ret (normL [3, 1, 3]) _ _ (by first | assumption | omega | (simp only [List.length_append, List.length_cons, List.length_nil, List.length_drop, List.length_take]; omega) | (dsimp only; omega) | decide | (simp [keyV, be8_len]; done)) (show RdC w17 0 w17.heap.size 1 v7 (normL [3, 1, 3]).length ((normL [3, 1, 3]).map u16v) from by have hh : RdC w17 0 w17.heap.size 1 _ _ _ := (hO7.rdw.mono (L' := 0) (B' := w17.heap.size) (Nat.zero_le _) (by omega)); first | exact hh | exact hh.cast (by first | omega | (simp; try omega)) (by first | rfl | simp [u16v]))) ?_
    rintro _ w24 ⟨E25, rfl⟩
    have E25 := grown_of_below E25
    have z_w24 := E25.size
    have hB6 := hB6.keep0 E25
    have hO7 := hO7.keep0 E25
    have hB14 := hB14.keep0 E25
    have hO16 := hO16.keep0 E25
    have hb := below_step0 hb E25 hb.size
    rcases Bool.eq_false_or_eq_true ((mayL (normL [3, 1, 3]))) with c32 | c32
    · -- 32T
     rw [c32]
     refine op_pick_t (ev_hit hN rfl) (ev_hit hN rfl) ?_
     refine op_move (ev_hit hN rfl) ?_
     refine g_true (j := 17) (dj := 34) (b := true) rfl rfl rfl (ev_hit hN rfl) ?_
     refine op_move (ev_hit hN rfl) ?_
     refine g_true (j := 17) (dj := 34) (b := true) rfl rfl rfl (ev_hit hN rfl) ?_
     refine op_fn (vs := [(Value.slice none 0 0), v7]) ok27 ⟨rfl, ⟨(ev_hit hN rfl), trivial⟩⟩ (flowsW_ret ([] : Lb) (normL [3, 1, 3]) _ _ _ (by first | assumption | omega | (simp only [List.length_append, List.length_cons, List.length_nil, List.length_drop, List.length_take]; omega) | (dsimp only; omega) | decide | (simp [keyV, be8_len]; done)) (by first | assumption | omega | (simp only [List.length_append, List.length_cons, List.length_nil, List.length_drop, List.length_take]; omega) | (dsimp only; omega) | decide | (simp [keyV, be8_len]; done)) (show RdC w24 0 w24.heap.size 1 (Value.slice none 0 0) ([] : Lb).length (([] : Lb).map u16v) from by have hh : RdC w24 0 w24.heap.size 1 _ _ _ := ((RdC.nil _ 0 0 1).mono (L' := 0) (B' := w24.heap.size) (Nat.zero_le _) (by omega)); first | exact hh | exact hh.cast (by first | omega | (simp; try omega)) (by first | rfl | simp [u16v])) (show RdC w24 0 w24.heap.size 1 v7 (normL [3, 1, 3]).length ((normL [3, 1, 3]).map u16v) from by have hh : RdC w24 0 w24.heap.size 1 _ _ _ := (hO7.rdw.mono (L' := 0) (B' := w24.heap.size) (Nat.zero_le _) (by omega)); first | exact hh | exact hh.cast (by first | omega | (simp; try omega)) (by first | rfl | simp [u16v]))) ?_
     rintro _ w26 ⟨E27, rfl⟩
     have E27 := grown_of_below E27
     have z_w26 := E27.size
     have hB6 := hB6.keep0 E27
     have hO7 := hO7.keep0 E27
     have hB14 := hB14.keep0 E27
     have hO16 := hO16.keep0 E27
     have hb := below_step0 hb E27 hb.size
     rcases Bool.eq_false_or_eq_true ((flowsL ([] : Lb) (normL [3, 1, 3]))) with c36 | c36
     · -- 36T
      rw [c36]
      refine op_pick_t (ev_hit hN rfl) (ev_hit hN rfl) ?_
      refine op_move (ev_hit hN rfl) ?_
      refine g_true (j := 21) (dj := 38) (b := true) rfl rfl rfl (ev_hit hN rfl) ?_
      refine op_move (ev_hit hN rfl) ?_
      refine g_true (j := 21) (dj := 38) (b := true) rfl rfl rfl (ev_hit hN rfl) ?_
      refine op_fn (vs := [v7, (Value.slice none 0 0)]) ok27 ⟨(ev_hit hN rfl), ⟨rfl, trivial⟩⟩ (flowsW_ret (normL [3, 1, 3]) ([] : Lb) _ _ _ (by first | assumption | omega | (simp only [List.length_append, List.length_cons, List.length_nil, List.length_drop, List.length_take]; omega) | (dsimp only; omega) | decide | (simp [keyV, be8_len]; done)) (by first | assumption | omega | (simp only [List.length_append, List.length_cons, List.length_nil, List.length_drop, List.length_take]; omega) | (dsimp only; omega) | decide | (simp [keyV, be8_len]; done)) (show RdC w26 0 w26.heap.size 1 v7 (normL [3, 1, 3]).length ((normL [3, 1, 3]).map u16v) from by have hh : RdC w26 0 w26.heap.size 1 _ _ _ := (hO7.rdw.mono (L' := 0) (B' := w26.heap.size) (Nat.zero_le _) (by omega)); first | exact hh | exact hh.cast (by first | omega | (simp; try omega)) (by first | rfl | simp [u16v])) (show RdC w26 0 w26.heap.size 1 (Value.slice none 0 0) ([] : Lb).length (([] : Lb).map u16v) from by have hh : RdC w26 0 w26.heap.size 1 _ _ _ := ((RdC.nil _ 0 0 1).mono (L' := 0) (B' := w26.heap.size) (Nat.zero_le _) (by omega)); first | exact hh | exact hh.cast (by first | omega | (simp; try omega)) (by first | rfl | simp [u16v]))) ?_
      rintro _ w28 ⟨E29, rfl⟩
      have E29 := grown_of_below E29
      have z_w28 := E29.size
      have hB6 := hB6.keep0 E29
      have hO7 := hO7.keep0 E29
      have hB14 := hB14.keep0 E29
      have hO16 := hO16.keep0 E29
      have hb := below_step0 hb E29 hb.size
      rcases Bool.eq_false_or_eq_true ((flowsL (normL [3, 1, 3]) ([] : Lb))) with c40 | c40
      · -- 40T
       exact absurd c40 (by decide +kernel)
      · -- 40F
       rw [c40]
       refine g_true (j := 21) (dj := 38) (b := true) rfl rfl rfl (ev_hit hN rfl) ?_
       refine op_not (ev_hit hN rfl) ?_
       refine op_pick_t (ev_hit hN rfl) (ev_hit hN rfl) ?_
       refine op_move (ev_hit hN rfl) ?_
       refine g_true (j := 26) (dj := 43) (b := true) rfl rfl rfl (ev_hit hN rfl) ?_
       refine op_move (ev_hit hN rfl) ?_
       refine g_true (j := 26) (dj := 43) (b := true) rfl rfl rfl (ev_hit hN rfl) ?_
       refine op_bslice (e := 35) (pv := [(0, (Value.int .u16 2))]) (cs := [(Value.int .u16 2)]) ⟨rfl, rfl, trivial⟩ (by kernel_rfl) ?_
       intro w30 b31 lo_b31 hi_b31 hB33 E32
       have ne_b31_v7 : v7.ownBlock ≠ some b31 := fun hh => by have := (hO7.lt _ hh).2; omega
       have ne_b31_u16 : u16.ownBlock ≠ some b31 := fun hh => by have := (hO16.lt _ hh).2; omega
       have z_w30 := E32.size
       have hB6 := hB6.keep0 E32
       have hO7 := hO7.keep0 E32
       have hB14 := hB14.keep0 E32
       have hO16 := hO16.keep0 E32
       have hb := below_step0 hb E32 hb.size
       have hz3 := join_len (normL [3, 1, 3]) [2]
       have hz4 : (joinL (normL [3, 1, 3]) [2]).length = 3 := by decide +kernel
       refine g_true (j := 26) (dj := 43) (b := true) rfl rfl rfl (ev_hit hN rfl) ?_
       refine op_fn (vs := [v7, (Value.slice (some ⟨b31, 0, none⟩) 1 1)]) ok28 ⟨(ev_hit hN rfl), ⟨(ev_hit hN rfl), trivial⟩⟩ (joinW_ret (normL [3, 1, 3]) [2] _ _ _ (by first | assumption | omega | (simp only [List.length_append, List.length_cons, List.length_nil, List.length_drop, List.length_take]; omega) | (dsimp only; omega) | decide | (simp [keyV, be8_len]; done)) (by first | assumption | omega | (simp only [List.length_append, List.length_cons, List.length_nil, List.length_drop, List.length_take]; omega) | (dsimp only; omega) | decide | (simp [keyV, be8_len]; done)) (show RdC w30 0 w30.heap.size 1 v7 (normL [3, 1, 3]).length ((normL [3, 1, 3]).map u16v) from by have hh : RdC w30 0 w30.heap.size 1 _ _ _ := (hO7.rdw.mono (L' := 0) (B' := w30.heap.size) (Nat.zero_le _) (by omega)); first | exact hh | exact hh.cast (by first | omega | (simp; try omega)) (by first | rfl | simp [u16v])) (show RdC w30 0 w30.heap.size 1 (Value.slice (some ⟨b31, 0, none⟩) 1 1) [2].length ([2].map u16v) from by have hh : RdC w30 0 w30.heap.size 1 _ _ _ := ((RdC.ofBx (sz := 1) (n := 1) hB33 rfl (by decide)).mono (L' := 0) (B' := w30.heap.size) (Nat.zero_le _) (by have := hB33.lt; omega)); first | exact hh | exact hh.cast (by first | omega | (simp; try omega)) (by first | rfl | simp [u16v]))) ?_
       rintro v34 w35 ⟨E36, hO34⟩
       have dj37 : DJ v34 v7 := fun k hk hg => by have q1 := (hO34.lt k hk).1; have q2 := (hO7.lt k hg).2; omega
       have dj38 : DJ v34 u16 := fun k hk hg => by have q1 := (hO34.lt k hk).1; have q2 := (hO16.lt k hg).2; omega
       have E36 := grown_of_below E36
       have z_w35 := E36.size
       have hB6 := hB6.keep0 E36
       have hO7 := hO7.keep0 E36
       have hB14 := hB14.keep0 E36
       have hO16 := hO16.keep0 E36
       have hB33 := hB33.keep0 E36
       have hb := below_step0 hb E36 hb.size
       have hO34 := hO34.mono (base' := w.heap.size) (by omega)
       refine g_true (j := 26) (dj := 43) (b := true) rfl rfl rfl (ev_hit hN rfl) ?_
       refine op_len_rd Try.underlying23 (ev_hit hN rfl) hO34.rdw ?_
       refine g_true (j := 26) (dj := 43) (b := true) rfl rfl rfl (ev_hit hN rfl) ?_
       refine op_eql (ev_hit hN rfl) rfl (fun c48 => ?_) (fun c48 => ?_)
       · -- 48T
        refine op_pick_t (ev_hit hN rfl) (ev_hit hN rfl) ?_
        refine op_move (ev_hit hN rfl) ?_
        refine g_true (j := 33) (dj := 50) (b := true) rfl rfl rfl (ev_hit hN rfl) ?_
        refine op_move (ev_hit hN rfl) ?_
        refine g_true (j := 33) (dj := 50) (b := true) rfl rfl rfl (ev_hit hN rfl) ?_
        refine op_eql (ev_hit hN rfl) rfl (fun c52 => ?_) (fun c52 => ?_)
        · -- 52T
         refine op_pick_t (ev_hit hN rfl) (ev_hit hN rfl) ?_
         refine op_move (ev_hit hN rfl) ?_
         refine g_true (j := 37) (dj := 54) (b := true) rfl rfl rfl (ev_hit hN rfl) ?_
         refine op_move (ev_hit hN rfl) ?_
         refine g_true (j := 37) (dj := 54) (b := true) rfl rfl rfl (ev_hit hN rfl) ?_
         refine op_eql (ev_hit hN rfl) rfl (fun c56 => ?_) (fun c56 => ?_)
         · -- 56T
          refine op_pick_t (ev_hit hN rfl) (ev_hit hN rfl) ?_
          refine op_move (ev_hit hN rfl) ?_
          refine g_true (j := 41) (dj := 58) (b := true) rfl rfl rfl (ev_hit hN rfl) ?_
          refine op_move (ev_hit hN rfl) ?_
          refine g_true (j := 41) (dj := 58) (b := true) rfl rfl rfl (ev_hit hN rfl) ?_
          refine op_len_rd Try.underlying23 (ev_hit hN rfl) hO16.rdw ?_
          refine g_true (j := 41) (dj := 58) (b := true) rfl rfl rfl (ev_hit hN rfl) ?_
          refine op_eql (ev_hit hN rfl) rfl (fun c61 => ?_) (fun c61 => ?_)
          · -- 61T
           refine op_pick_t (ev_hit hN rfl) (ev_hit hN rfl) ?_
           refine op_move (ev_hit hN rfl) ?_
           refine g_true (j := 46) (dj := 63) (b := true) rfl rfl rfl (ev_hit hN rfl) ?_
           refine op_move (ev_hit hN rfl) ?_
           refine g_true (j := 46) (dj := 63) (b := true) rfl rfl rfl (ev_hit hN rfl) ?_
           refine op_index_rd slt23 (ev_hit hN rfl) hO16.rdw rfl (by omega) (by omega) ?_
           intro b39 o40 h0b39 h1b39 hc41
           refine g_true (j := 46) (dj := 63) (b := true) rfl rfl rfl (ev_hit hN rfl) ?_
           refine op_load1 (v := (Value.int .u16 (((takeL [1, 0, 7]).1.getD 0 0).toNat : Int))) one35 (ev_hit hN rfl) (by have := hc41 0 (Value.int .u16 (((takeL [1, 0, 7]).1.getD 0 0).toNat : Int)) (by decide) (el_u16 (i := 0) (by omega) (by omega)); simpa using this) ?_
           refine g_true (j := 46) (dj := 63) (b := true) rfl rfl rfl (ev_hit hN rfl) ?_
           refine op_eql (ev_hit hN rfl) rfl (fun c67 => ?_) (fun c67 => ?_)
           · -- 67T
            refine op_pick_t (ev_hit hN rfl) (ev_hit hN rfl) ?_
            refine op_move (ev_hit hN rfl) ?_
            refine g_true (j := 52) (dj := 69) (b := true) rfl rfl rfl (ev_hit hN rfl) ?_
            refine op_move (ev_hit hN rfl) ?_
            refine g_true (j := 52) (dj := 69) (b := true) rfl rfl rfl (ev_hit hN rfl) ?_
            refine op_fn (vs := [(Value.slice none 0 0), v7]) ok31 ⟨rfl, ⟨(ev_hit hN rfl), trivial⟩⟩ (lcmpW_ret ([] : Lb) (normL [3, 1, 3]) _ _ _ (by first | assumption | omega | (simp only [List.length_append, List.length_cons, List.length_nil, List.length_drop, List.length_take]; omega) | (dsimp only; omega) | decide | (simp [keyV, be8_len]; done)) (by first | assumption | omega | (simp only [List.length_append, List.length_cons, List.length_nil, List.length_drop, List.length_take]; omega) | (dsimp only; omega) | decide | (simp [keyV, be8_len]; done)) (show RdC w35 0 w35.heap.size 1 (Value.slice none 0 0) ([] : Lb).length (([] : Lb).map u16v) from by have hh : RdC w35 0 w35.heap.size 1 _ _ _ := ((RdC.nil _ 0 0 1).mono (L' := 0) (B' := w35.heap.size) (Nat.zero_le _) (by omega)); first | exact hh | exact hh.cast (by first | omega | (simp; try omega)) (by first | rfl | simp [u16v])) (show RdC w35 0 w35.heap.size 1 v7 (normL [3, 1, 3]).length ((normL [3, 1, 3]).map u16v) from by have hh : RdC w35 0 w35.heap.size 1 _ _ _ := (hO7.rdw.mono (L' := 0) (B' := w35.heap.size) (Nat.zero_le _) (by omega)); first | exact hh | exact hh.cast (by first | omega | (simp; try omega)) (by first | rfl | simp [u16v]))) ?_
            rintro _ w42 ⟨E43, rfl⟩
            have E43 := grown_of_below E43
            have z_w42 := E43.size
            have hB6 := hB6.keep0 E43
            have hO7 := hO7.keep0 E43
            have hB14 := hB14.keep0 E43
            have hO16 := hO16.keep0 E43
            have hB33 := hB33.keep0 E43
            have hO34 := hO34.keep0 E43
            have hb := below_step0 hb E43 hb.size
            refine g_true (j := 52) (dj := 69) (b := true) rfl rfl rfl (ev_hit hN rfl) ?_
            refine op_eql (ev_hit hN rfl) rfl (fun c72 => ?_) (fun c72 => ?_)
            · -- 72T
             refine op_pick_t (ev_hit hN rfl) (ev_hit hN rfl) ?_
             refine op_assign (ev_hit hN rfl) ?_
             refine reg_nil ?_
             refine hK20 _ _ ?_
             refine wp_ret ?_
             refine ret1 rfl hd (ev_hit hN rfl) ⟨_, rfl, ?_⟩
             -- path 18T 22T 28T 32T 36T 40F 48T 52T 56T 61T 67T 72T
             exact ⟨hb, rfl⟩
            · -- 72F
             exact absurd c72 (by decide +kernel)
           · -- 67F
            exact absurd c67 (by decide +kernel)
          · -- 61F
           exact absurd c61 (by decide +kernel)
         · -- 56F
          exact absurd c56 (by decide +kernel)
        · -- 52F
         exact absurd c52 (by decide +kernel)
       · -- 48F
        exact absurd c48 (by decide +kernel)
     · -- 36F
      exact absurd c36 (by decide +kernel)
    · -- 32F
     exact absurd c32 (by decide +kernel)
   · -- 28F
    exact absurd c28 (by decide +kernel)
  · -- 22F
   exact absurd c22 (by decide +kernel)
 · -- 18F
  exact absurd c18 (by decide +kernel)

theorem LabelMakes_ret (l : Lb) (vl : Value) (w : World) (hll : l.length ≤ 9223372036854775807) (hrl : RdC w 0 w.heap.size 1 vl l.length (l.map u16v)) : Ret Try.prog 6 #[vl] w (fun v' w' => Below w.heap.size w w' ∧ v' = .bool true) := by
 have hb := Below.refl w.heap.size w
 refine enter (N := 58) Try.func6 rfl rfl (by simp) fun a0 hN hd hA => ?_
 have s0 : a0.tmps.getD 0 undef = vl := hA 0 (by simp)
 clear hA
 refine seq_any fun K44 hK44 => ?_
 refine one_reg ?_
 refine op_assign rfl ?_
 refine reg_nil ?_
 refine hK44 _ _ ?_
 refine seq_any fun K45 hK45 => ?_
 refine seq_any fun K46 hK46 => ?_
 refine one_reg ?_
 refine op_fn (vs := []) ok23 trivial (begun1_ret _) ?_
 rintro _ w47 ⟨E48, rfl⟩
 have E48 := grown_of_below E48
 have z_w47 := E48.size
 have hrl := hrl.keep0 E48
 have hb := below_step0 hb E48 hb.size
 refine op_not (ev_hit hN rfl) ?_
 refine reg_nil ?_
 refine hK46 _ _ ?_
 refine wp_cond_false (ev_hit hN rfl) ?_
 refine wp_skip ?_
 refine hK45 _ _ ?_
 refine seq_any fun K49 hK49 => ?_
 refine seq_any fun K50 hK50 => ?_
 refine one_reg ?_
 refine op_move (ev_base hN rfl s0) ?_
 refine op_len_rd Try.underlying22 (ev_hit hN rfl) hrl ?_
 refine op_gtr (ev_hit hN rfl) rfl (fun c14 => ?_) (fun c14 => ?_)
 · -- 14T
  refine reg_nil ?_
  refine hK50 _ _ ?_
  refine wp_cond_true (ev_hit hN rfl) ?_
  refine seq_any fun K51 hK51 => ?_
  refine one_reg ?_
  refine op_assign rfl ?_
  refine reg_nil ?_
  refine hK51 _ _ ?_
  refine wp_ret (then_ret ( ?_))
  refine ret1 rfl hd (ev_hit hN rfl) ⟨_, rfl, ?_⟩
  -- path 14T
  exact ⟨hb, rfl⟩
 · -- 14F
  refine reg_nil ?_
  refine hK50 _ _ ?_
  refine wp_cond_false (ev_hit hN rfl) ?_
  refine wp_skip ?_
  refine hK49 _ _ ?_
  refine seq_any fun K52 hK52 => ?_
  refine one_reg ?_
  refine op_bslice (e := 35) (pv := []) (cs := []) trivial (by kernel_rfl) ?_
  intro w53 b54 lo_b54 hi_b54 hB56 E55
  have z_w53 := E55.size
  have hrl := hrl.keep0 E55
  have hb := below_step0 hb E55 hb.size
  refine op_move (ev_base hN rfl s0) ?_
  have hP62 := (Own.ofBx (base := w.heap.size) (sz := 1) (n := 0) hB56 rfl (by decide) (by omega))
  refine op_append slt22 (ev_hit hN rfl) hP62 (ev_hit hN rfl) (Src.ofRd Try.underlying22 (by decide) hrl (one_u16 _)) (by unfold maxLen; omega) (by omega) hb.size ?_
  intro v57 w58 hO60 E59 hm61
  have z_w58 := E59.size
  have hrl := hrl.keepO hP62 E59 (by omega)
  have hb := below_stepO hb hP62 E59 hb.size (by omega)
  have hO60 : Own w58 w.heap.size 35 1 v57 (0 + l.length) ((l).map u16v) := by simpa [u8v, u16v, cellsV] using hO60
  refine op_assign (ev_hit hN rfl) ?_
  refine reg_nil ?_
  refine hK52 _ _ ?_
  refine seq_any fun K63 hK63 => ?_
  refine one_reg ?_
  refine op_move (ev_base hN rfl s0) ?_
  refine op_fn (vs := [vl]) ok24 ⟨(ev_hit hN rfl), trivial⟩ (normW_ret l _ _ (by first | assumption | omega | (simp only [List.length_append, List.length_cons, List.length_nil, List.length_drop, List.length_take]; omega) | (dsimp only; omega) | decide | (simp [keyV, be8_len]; done)) (show RdC w58 0 w58.heap.size 1 vl l.length (l.map u16v) from by have hh : RdC w58 0 w58.heap.size 1 _ _ _ := (hrl.mono (L' := 0) (B' := w58.heap.size) (Nat.zero_le _) (by omega)); first | exact hh | exact hh.cast (by first | omega | (simp; try omega)) (by first | rfl | simp [u16v]))) ?_
  rintro _ w65 ⟨E66, v64, rfl, hO64⟩
  have dj67 : DJ v64 v57 := fun k hk hg => by have q1 := (hO64.lt k hk).1; have q2 := (hO60.lt k hg).2; omega
  have E66 := grown_of_below E66
  have z_w65 := E66.size
  have hrl := hrl.keep0 E66
  have hO60 := hO60.keep0 E66
  have hb := below_step0 hb E66 hb.size
  have hO64 := hO64.mono (base' := w.heap.size) (by omega)
  have hnl64 := normL_len l
  refine op_move (ev_hit hN rfl) ?_
  refine op_extract (ev_hit hN rfl) rfl ?_
  refine op_extract (ev_hit hN rfl) rfl ?_
  refine op_assign (ev_hit hN rfl) ?_
  refine op_assign (ev_hit hN rfl) ?_
  refine reg_nil ?_
  refine hK63 _ _ ?_
  refine seq_any fun K68 hK68 => ?_
  refine one_reg ?_
  refine op_move (ev_hit hN rfl) ?_
  refine op_fn (vs := [v57]) ok25 ⟨(ev_hit hN rfl), trivial⟩ (rnormW_ret l _ _ (by first | assumption | omega | (simp only [List.length_append, List.length_cons, List.length_nil, List.length_drop, List.length_take]; omega) | (dsimp only; omega) | decide | (simp [keyV, be8_len]; done)) (show RdC w65 0 w65.heap.size 1 v57 l.length (l.map u16v) from by have hh : RdC w65 0 w65.heap.size 1 _ _ _ := (hO60.rdw.mono (L' := 0) (B' := w65.heap.size) (Nat.zero_le _) (by omega)); first | exact hh | exact hh.cast (by first | omega | (simp; try omega)) (by first | rfl | simp [u16v]))) ?_
  rintro _ w70 ⟨E71, v69, rfl, hO69⟩
  have dj72 : DJ v69 v57 := fun k hk hg => by have q1 := (hO69.lt k hk).1; have q2 := (hO60.lt k hg).2; omega
  have dj73 : DJ v69 v64 := fun k hk hg => by have q1 := (hO69.lt k hk).1; have q2 := (hO64.lt k hg).2; omega
  have E71 := grown_of_below E71
  have z_w70 := E71.size
  have hrl := hrl.keep0 E71
  have hO60 := hO60.keep0 E71
  have hO64 := hO64.keep0 E71
  have hb := below_step0 hb E71 hb.size
  have hO69 := hO69.mono (base' := w.heap.size) (by omega)
  have hnl69 := normL_len l
  refine op_move (ev_hit hN rfl) ?_
  refine op_extract (ev_hit hN rfl) rfl ?_
  refine op_extract (ev_hit hN rfl) rfl ?_
  refine op_assign (ev_hit hN rfl) ?_
  refine op_assign (ev_hit hN rfl) ?_
  refine reg_nil ?_
  refine hK68 _ _ ?_
  refine seq_any fun K74 hK74 => ?_
  refine one_reg ?_
  refine op_move (ev_hit hN rfl) ?_
  refine op_move (ev_hit hN rfl) ?_
  refine op_eql (ev_hit hN rfl) (ev_hit hN rfl) (fun c30 => ?_) (fun c30 => ?_)
  · -- 30T
   refine op_move (ev_hit hN rfl) ?_
   refine g_true (j := 3) (dj := 31) (b := true) rfl rfl rfl (ev_hit hN rfl) ?_
   refine op_move (ev_hit hN rfl) ?_
   refine g_true (j := 3) (dj := 31) (b := true) rfl rfl rfl (ev_hit hN rfl) ?_
   refine op_move (ev_hit hN rfl) ?_
   refine g_true (j := 3) (dj := 31) (b := true) rfl rfl rfl (ev_hit hN rfl) ?_
   refine op_fn (vs := [v64, v69]) ok19 ⟨(ev_hit hN rfl), ⟨(ev_hit hN rfl), trivial⟩⟩ (sameL_ret (normL l) (normL l) _ _ _ (by first | assumption | omega | (simp only [List.length_append, List.length_cons, List.length_nil, List.length_drop, List.length_take]; omega) | (dsimp only; omega) | decide | (simp [keyV, be8_len]; done)) (by first | assumption | omega | (simp only [List.length_append, List.length_cons, List.length_nil, List.length_drop, List.length_take]; omega) | (dsimp only; omega) | decide | (simp [keyV, be8_len]; done)) (show RdC w70 0 w70.heap.size 1 v64 (normL l).length ((normL l).map u16v) from by have hh : RdC w70 0 w70.heap.size 1 _ _ _ := (hO64.rdw.mono (L' := 0) (B' := w70.heap.size) (Nat.zero_le _) (by omega)); first | exact hh | exact hh.cast (by first | omega | (simp; try omega)) (by first | rfl | simp [u16v])) (show RdC w70 0 w70.heap.size 1 v69 (normL l).length ((normL l).map u16v) from by have hh : RdC w70 0 w70.heap.size 1 _ _ _ := (hO69.rdw.mono (L' := 0) (B' := w70.heap.size) (Nat.zero_le _) (by omega)); first | exact hh | exact hh.cast (by first | omega | (simp; try omega)) (by first | rfl | simp [u16v]))) ?_
   rintro _ w75 ⟨E76, rfl⟩
   have E76 := grown_of_below E76
   have z_w75 := E76.size
   have hrl := hrl.keep0 E76
   have hO60 := hO60.keep0 E76
   have hO64 := hO64.keep0 E76
   have hO69 := hO69.keep0 E76
   have hb := below_step0 hb E76 hb.size
   rcases Bool.eq_false_or_eq_true ((decide ((normL l) = (normL l)))) with c34 | c34
   · -- 34T
    rw [c34]
    refine op_pick_t (ev_hit hN rfl) (ev_hit hN rfl) ?_
    refine op_move (ev_hit hN rfl) ?_
    refine g_true (j := 8) (dj := 36) (b := true) rfl rfl rfl (ev_hit hN rfl) ?_
    refine op_move (ev_base hN rfl s0) ?_
    refine g_true (j := 8) (dj := 36) (b := true) rfl rfl rfl (ev_hit hN rfl) ?_
    refine op_fn (vs := [vl]) ok26 ⟨(ev_hit hN rfl), trivial⟩ (labMay_ret l _ _ (by first | assumption | omega | (simp only [List.length_append, List.length_cons, List.length_nil, List.length_drop, List.length_take]; omega) | (dsimp only; omega) | decide | (simp [keyV, be8_len]; done)) (show RdC w75 0 w75.heap.size 1 vl l.length (l.map u16v) from by have hh : RdC w75 0 w75.heap.size 1 _ _ _ := (hrl.mono (L' := 0) (B' := w75.heap.size) (Nat.zero_le _) (by omega)); first | exact hh | exact hh.cast (by first | omega | (simp; try omega)) (by first | rfl | simp [u16v]))) ?_
    rintro _ w77 ⟨E78, rfl⟩
    have E78 := grown_of_below E78
    have z_w77 := E78.size
    have hrl := hrl.keep0 E78
    have hO60 := hO60.keep0 E78
    have hO64 := hO64.keep0 E78
    have hO69 := hO69.keep0 E78
    have hb := below_step0 hb E78 hb.size
    refine g_true (j := 8) (dj := 36) (b := true) rfl rfl rfl (ev_hit hN rfl) ?_
    refine op_move (ev_hit hN rfl) ?_
    refine g_true (j := 8) (dj := 36) (b := true) rfl rfl rfl (ev_hit hN rfl) ?_
    refine op_fn (vs := [v57]) ok13 ⟨(ev_hit hN rfl), trivial⟩ (refMay_ret l _ _ (by first | assumption | omega | (simp only [List.length_append, List.length_cons, List.length_nil, List.length_drop, List.length_take]; omega) | (dsimp only; omega) | decide | (simp [keyV, be8_len]; done)) (show RdC w77 0 w77.heap.size 1 v57 l.length (l.map u16v) from by have hh : RdC w77 0 w77.heap.size 1 _ _ _ := (hO60.rdw.mono (L' := 0) (B' := w77.heap.size) (Nat.zero_le _) (by omega)); first | exact hh | exact hh.cast (by first | omega | (simp; try omega)) (by first | rfl | simp [u16v]))) ?_
    rintro _ w79 ⟨E80, rfl⟩
    have E80 := grown_of_below E80
    have z_w79 := E80.size
    have hrl := hrl.keep0 E80
    have hO60 := hO60.keep0 E80
    have hO64 := hO64.keep0 E80
    have hO69 := hO69.keep0 E80
    have hb := below_step0 hb E80 hb.size
    refine g_true (j := 8) (dj := 36) (b := true) rfl rfl rfl (ev_hit hN rfl) ?_
    refine op_eqb Try.underlying4 (ev_hit hN rfl) (ev_hit hN rfl) ?_
    rcases Bool.eq_false_or_eq_true (((mayL l) == (mayL l))) with c41 | c41
    · -- 41T
     rw [c41]
     refine op_pick_t (ev_hit hN rfl) (ev_hit hN rfl) ?_
     refine op_assign (ev_hit hN rfl) ?_
     refine reg_nil ?_
     refine hK74 _ _ ?_
     refine seq_any fun K81 hK81 => ?_
     refine seq_any fun K82 hK82 => ?_
     refine one_reg ?_
     refine op_assign rfl ?_
     refine reg_nil ?_
     refine hK82 _ _ ?_
     refine wp_block ?_
     refine loop_m (fun mz_ az_ w' => ∃ (i : Nat) (cs1 : List Value), mz_ = (normL l).length - i ∧ (az_.tmps.getD 0 undef = vl) ∧ (az_.tmps.getD 2 undef = (Value.bool false)) ∧ (az_.tmps.getD 3 undef = v57) ∧ (az_.tmps.getD 4 undef = v64) ∧ (az_.tmps.getD 8 undef = (Value.bool true)) ∧ (az_.tmps.getD 9 undef = (Value.int .i64 ((i : Nat) : Int))) ∧ (i ≤ (normL l).length) ∧ (Below w.heap.size w w') ∧ (w79.heap.size ≤ w'.heap.size) ∧ (RdC w' 0 w.heap.size 1 vl l.length (l.map u16v)) ∧ (Own w' w.heap.size 35 1 v57 (0 + l.length) ((l).map u16v)) ∧ (Own w' w.heap.size 35 1 v69 (normL l).length ((normL l).map u16v)) ∧ (Own w' w.heap.size 35 1 v64 (normL l).length (cs1))) _ hN hd ⟨0, _, rfl, (sl_base hN rfl s0), (sl_hit hN rfl), (sl_hit hN rfl), (sl_hit hN rfl), (sl_hit hN rfl), (sl_hit hN rfl).trans (congrArg (Value.int .i64) (by omega)), Nat.zero_le _, hb, (Nat.le_refl _), hrl, hO60, hO69, hO64⟩ ?_
     rintro _ a83 w83 hN83 hd83 ⟨i, cs1, rfl, s83_0, s83_2, s83_3, s83_4, s83_8, s83_9, hi, hb, zl_w83, hrl, hO60, hO69, hO84⟩
     have z_w83 := hb.size
     refine seq_any fun K85 hK85 => ?_
     refine seq_any fun K86 hK86 => ?_
     refine one_reg ?_
     refine op_move (ev_base hN83 rfl s83_9) ?_
     refine op_move (ev_base hN83 rfl s83_4) ?_
     refine op_len_rd Try.underlying23 (ev_hit hN83 rfl) hO84.rdw ?_
     refine op_lss (ev_hit hN83 rfl) (ev_hit hN83 rfl) (fun c46 => ?_) (fun c46 => ?_)
     · -- 46T
      refine reg_nil ?_
      refine hK86 _ _ ?_
      refine wp_cond_true (ev_hit hN83 rfl) ?_
      refine wp_skip ?_
      refine hK85 _ _ ?_
      refine seq_any fun K87 hK87 => ?_
      refine wp_block ?_
      refine one_reg ?_
      refine op_move (ev_base hN83 rfl s83_4) ?_
      refine op_move (ev_base hN83 rfl s83_9) ?_
      refine op_index_own (i := i) slt23 (ev_hit hN83 rfl) hO84 (ev_hit hN83 rfl) (by omega) (by omega) ?_
      intro b88 o89 lo_b88 hA90
      have hA90 : AtV v64 (i) b88 o89 := by simpa using hA90
      have hP93 := hO84
      refine op_store_own (vs := [(Value.int .u16 777)]) size35 (ev_hit hN83 rfl) rfl rfl rfl rfl hP93 hA90 (by have := hP93.1; simp; omega) ?_
      intro w91 hO94 E92
      have z_w91 := E92.size
      have hrl := hrl.keepO hP93 E92 (by omega)
      have hO60 := hO60.keepD E92 dj67.symm
      have hO69 := hO69.keepD E92 dj73
      have hb := below_stepO hb hP93 E92 hb.size (by omega)
      have hO94 : Own w91 w.heap.size 35 1 v64 (normL l).length ((cs1.take (i) ++ [(Value.int .u16 777)] ++ cs1.drop (i + 1))) := by simpa using hO94
      refine reg_nil ?_
      refine hK87 _ _ ?_
      refine one_reg ?_
      refine op_move (ev_base hN83 rfl s83_9) ?_
      refine op_add (ev_hit hN83 rfl) rfl (add64 (by omega)) ?_
      refine op_assign (ev_hit hN83 rfl) ?_
      refine reg_nil ?_
      -- round 14F 30T 34T 41T 46T
      exact loop_next _ hN83 hd83 ⟨i + 1, _, rfl, (sl_base hN83 rfl s83_0), (sl_base hN83 rfl s83_2), (sl_base hN83 rfl s83_3), (sl_base hN83 rfl s83_4), (sl_base hN83 rfl s83_8), (sl_hit hN83 rfl).trans (congrArg (Value.int .i64) (by omega)), (by omega), hb, (by omega), hrl, hO60, hO69, hO94⟩ (by omega)
     · -- 46F
      refine reg_nil ?_
      refine hK86 _ _ ?_
      refine wp_cond_false (ev_hit hN83 rfl) ?_
      refine wp_exit (then_exit (then_exit (blk_hit ?_)))
      refine hK81 _ _ ?_
      refine seq_any fun K95 hK95 => ?_
      refine one_reg ?_
      refine op_move (ev_base hN83 rfl s83_8) ?_
      refine op_move (ev_hit hN83 rfl) ?_
      refine g_true (j := 1) (dj := 53) (b := true) rfl rfl rfl (ev_hit hN83 rfl) ?_
      refine op_move (ev_base hN83 rfl s83_0) ?_
      refine g_true (j := 1) (dj := 53) (b := true) rfl rfl rfl (ev_hit hN83 rfl) ?_
      refine op_move (ev_base hN83 rfl s83_3) ?_
      refine g_true (j := 1) (dj := 53) (b := true) rfl rfl rfl (ev_hit hN83 rfl) ?_
      refine op_fn (vs := [vl, v57]) ok19 ⟨(ev_hit hN83 rfl), ⟨(ev_hit hN83 rfl), trivial⟩⟩ (sameL_ret l l _ _ _ (by first | assumption | omega | (simp only [List.length_append, List.length_cons, List.length_nil, List.length_drop, List.length_take]; omega) | (dsimp only; omega) | decide | (simp [keyV, be8_len]; done)) (by first | assumption | omega | (simp only [List.length_append, List.length_cons, List.length_nil, List.length_drop, List.length_take]; omega) | (dsimp only; omega) | decide | (simp [keyV, be8_len]; done)) (show RdC w83 0 w83.heap.size 1 vl l.length (l.map u16v) from by have hh : RdC w83 0 w83.heap.size 1 _ _ _ := (hrl.mono (L' := 0) (B' := w83.heap.size) (Nat.zero_le _) (by omega)); first | exact hh | exact hh.cast (by first | omega | (simp; try omega)) (by first | rfl | simp [u16v])) (show RdC w83 0 w83.heap.size 1 v57 l.length (l.map u16v) from by have hh : RdC w83 0 w83.heap.size 1 _ _ _ := (hO60.rdw.mono (L' := 0) (B' := w83.heap.size) (Nat.zero_le _) (by omega)); first | exact hh | exact hh.cast (by first | omega | (simp; try omega)) (by first | rfl | simp [u16v]))) ?_
      rintro _ w96 ⟨E97, rfl⟩
      have E97 := grown_of_below E97
      have z_w96 := E97.size
      have hrl := hrl.keep0 E97
      have hO60 := hO60.keep0 E97
      have hO69 := hO69.keep0 E97
      have hO84 := hO84.keep0 E97
      have hb := below_step0 hb E97 hb.size
      rcases Bool.eq_false_or_eq_true ((decide (l = l))) with c56 | c56
      · -- 56T
       rw [c56]
       refine op_pick_t (ev_hit hN83 rfl) (ev_hit hN83 rfl) ?_
       refine op_assign (ev_hit hN83 rfl) ?_
       refine reg_nil ?_
       refine hK95 _ _ ?_
       refine wp_ret ?_
       refine ret1 rfl hd83 (ev_hit hN83 rfl) ⟨_, rfl, ?_⟩
       -- path 14F 30T 34T 41T 46F 56T
       exact ⟨hb, rfl⟩
      · -- 56F
       exact absurd c56 (by simp)
    · -- 41F
     exact absurd c41 (by simp)
   · -- 34F
    exact absurd c34 (by simp)
  · -- 30F
   exact absurd rfl c30

end Go.Proofs.Ytpmnljffdofkeaa

/- Walks, written by a program: what each function of the translation hands back. -/
namespace Go.Proofs.Ytpmnljffdofkeaa
open Go.Gx Go.RowKit
attribute [local irreducible] wpList wpStill Code.wp Calls

theorem LabelNorms_ret (l : Lb) (turn : UInt8) (vl : Value) (w : World) (hll : l.length ≤ 9223372036854775807) (hrl : RdC w 0 w.heap.size 1 vl l.length (l.map u16v)) : Ret Try.prog 7 #[vl, (Value.int .u8 (turn.toNat : Int))] w (fun v' w' => Below w.heap.size w w' ∧ v' = .bool true) := by
 have hb := Below.refl w.heap.size w
 refine enter (N := 115) Try.func7 rfl rfl (by simp) fun a0 hN hd hA => ?_
 have s0 : a0.tmps.getD 0 undef = vl := hA 0 (by simp)
 have s1 : a0.tmps.getD 1 undef = (Value.int .u8 (turn.toNat : Int)) := hA 1 (by simp)
 clear hA
 refine seq_any fun K1 hK1 => ?_
 refine one_reg ?_
 refine op_assign rfl ?_
 refine reg_nil ?_
 refine hK1 _ _ ?_
 refine seq_any fun K2 hK2 => ?_
 refine seq_any fun K3 hK3 => ?_
 refine one_reg ?_
 refine op_fn (vs := []) ok23 trivial (begun1_ret _) ?_
 rintro _ w4 ⟨E5, rfl⟩
 have E5 := grown_of_below E5
 have z_w4 := E5.size
 have hrl := hrl.keep0 E5
 have hb := below_step0 hb E5 hb.size
 refine op_not (ev_hit hN rfl) ?_
 refine reg_nil ?_
 refine hK3 _ _ ?_
 refine wp_cond_false (ev_hit hN rfl) ?_
 refine wp_skip ?_
 refine hK2 _ _ ?_
 refine seq_any fun K6 hK6 => ?_
 refine seq_any fun K7 hK7 => ?_
 refine one_reg ?_
 refine op_move (ev_base hN rfl s0) ?_
 refine op_len_rd Try.underlying22 (ev_hit hN rfl) hrl ?_
 refine op_eql (ev_hit hN rfl) rfl (fun c18 => ?_) (fun c18 => ?_)
 · -- 18T
  refine op_move (ev_hit hN rfl) ?_
  refine g_false (j := 3) (dj := 19) (b := false) rfl rfl rfl (ev_hit hN rfl) rfl rfl ?_
  refine g_false (j := 3) (dj := 19) (b := false) rfl rfl rfl (ev_hit hN rfl) rfl rfl ?_
  refine g_false (j := 3) (dj := 19) (b := false) rfl rfl rfl (ev_hit hN rfl) rfl rfl ?_
  refine op_pick_t (ev_hit hN rfl) rfl ?_
  refine reg_nil ?_
  refine hK7 _ _ ?_
  refine wp_cond_true (ev_hit hN rfl) ?_
  refine seq_any fun K8 hK8 => ?_
  refine one_reg ?_
  refine op_assign rfl ?_
  refine reg_nil ?_
  refine hK8 _ _ ?_
  refine wp_ret (then_ret ( ?_))
  refine ret1 rfl hd (ev_hit hN rfl) ⟨_, rfl, ?_⟩
  -- path 18T
  exact ⟨hb, rfl⟩
 · -- 18F
  refine op_move (ev_hit hN rfl) ?_
  refine g_true (j := 3) (dj := 19) (b := false) rfl rfl rfl (ev_hit hN rfl) ?_
  refine op_move (ev_base hN rfl s0) ?_
  refine g_true (j := 3) (dj := 19) (b := false) rfl rfl rfl (ev_hit hN rfl) ?_
  refine op_len_rd Try.underlying22 (ev_hit hN rfl) hrl ?_
  refine g_true (j := 3) (dj := 19) (b := false) rfl rfl rfl (ev_hit hN rfl) ?_
  refine op_gtr (ev_hit hN rfl) rfl (fun c22 => ?_) (fun c22 => ?_)
  · -- 22T
   refine op_pick_f (ev_hit hN rfl) (ev_hit hN rfl) ?_
   refine reg_nil ?_
   refine hK7 _ _ ?_
   refine wp_cond_true (ev_hit hN rfl) ?_
   refine seq_any fun K9 hK9 => ?_
   refine one_reg ?_
   refine op_assign rfl ?_
   refine reg_nil ?_
   refine hK9 _ _ ?_
   refine wp_ret (then_ret ( ?_))
   refine ret1 rfl hd (ev_hit hN rfl) ⟨_, rfl, ?_⟩
   -- path 18F 22T
   exact ⟨hb, rfl⟩
  · -- 22F
   refine op_pick_f (ev_hit hN rfl) (ev_hit hN rfl) ?_
   refine reg_nil ?_
   refine hK7 _ _ ?_
   refine wp_cond_false (ev_hit hN rfl) ?_
   refine wp_skip ?_
   refine hK6 _ _ ?_
   refine seq_any fun K10 hK10 => ?_
   refine one_reg ?_
   refine op_move (ev_base hN rfl s1) ?_
   refine op_conv (r := (turn.toNat : Int)) (ev_hit hN rfl) us5 Try.underlying3 (wrap_i64 (by have := (turn).toNat_lt; omega)) ?_
   refine op_move (ev_base hN rfl s0) ?_
   refine op_len_rd Try.underlying22 (ev_hit hN rfl) hrl ?_
   have hkt : (turn.toNat % l.length) < l.length := Nat.mod_lt _ (by omega)
   refine op_rem (r := (((turn.toNat % l.length) : Nat) : Int)) (ev_hit hN rfl) (ev_hit hN rfl) (by omega) (by rw [tmod_nat]) ?_
   refine op_assign (ev_hit hN rfl) ?_
   refine reg_nil ?_
   refine hK10 _ _ ?_
   refine seq_any fun K11 hK11 => ?_
   refine one_reg ?_
   refine op_move (ev_base hN rfl s0) ?_
   refine op_fn (vs := [vl]) ok24 ⟨(ev_hit hN rfl), trivial⟩ (normW_ret l _ _ (by first | assumption | omega | (simp only [List.length_append, List.length_cons, List.length_nil, List.length_drop, List.length_take]; omega) | (dsimp only; omega) | decide | (simp [keyV, be8_len]; done)) (show RdC w4 0 w4.heap.size 1 vl l.length (l.map u16v) from by have hh : RdC w4 0 w4.heap.size 1 _ _ _ := (hrl.mono (L' := 0) (B' := w4.heap.size) (Nat.zero_le _) (by omega)); first | exact hh | exact hh.cast (by first | omega | (simp; try omega)) (by first | rfl | simp [u16v]))) ?_
   rintro _ w13 ⟨E14, v12, rfl, hO12⟩
   have E14 := grown_of_below E14
   have z_w13 := E14.size
   have hrl := hrl.keep0 E14
   have hb := below_step0 hb E14 hb.size
   have hO12 := hO12.mono (base' := w.heap.size) (by omega)
   have hnl12 := normL_len l
   refine op_move (ev_hit hN rfl) ?_
   refine op_extract (ev_hit hN rfl) rfl ?_
   refine op_extract (ev_hit hN rfl) rfl ?_
   refine op_assign (ev_hit hN rfl) ?_
   refine op_assign (ev_hit hN rfl) ?_
   refine reg_nil ?_
   refine hK11 _ _ ?_
   refine seq_any fun K15 hK15 => ?_
   have hO12_s := hO12
   refine reg_split (hd := [_, _, _, _, _, _, _, _, _, _, _, _, _, _]) (tl := _) 14 mixed (by kernel_rfl) rfl rfl ?_
   refine any_chain (Φ := phiC [chP 0, (fun _ _ uz _ => uz = vl), (fun _ _ uz _ => uz = (Value.int .i64 (((turn.toNat % l.length) : Nat) : Int))), (fun _ vz uz w' => ∃ (v20 : Value), uz = v20 ∧ RdC w' 0 w.heap.size 1 v20 (l.length - (turn.toNat % l.length)) (((l.drop (turn.toNat % l.length))).map u16v) ∧ (w.heap.size ≤ w'.heap.size ∧ ∀ k, vz.ownBlock = some k → w.heap.size ≤ k)), chP 1, (fun _ _ uz _ => uz = vl), (fun _ _ uz _ => uz = (Value.int .i64 (((turn.toNat % l.length) : Nat) : Int))), (fun _ vz uz w' => ∃ (v29 : Value), uz = v29 ∧ RdC w' 0 w.heap.size 1 v29 ((turn.toNat % l.length)) (((l.take (turn.toNat % l.length))).map u16v) ∧ (w.heap.size ≤ w'.heap.size ∧ ∀ k, vz.ownBlock = some k → w.heap.size ≤ k)), chP 2, (fun _ _ uz _ => uz = vl), (fun _ _ uz _ => uz = (Value.int .i64 (((turn.toNat % l.length) : Nat) : Int))), (fun _ vz uz w' => ∃ (b38 : (Nat)) (o39 : (Nat)), uz = (ptr b38 o39) ∧ PtC w' 0 w.heap.size b38 o39 [(Value.int .u16 ((l.getD (turn.toNat % l.length) 0).toNat : Int))] ∧ (w.heap.size ≤ w'.heap.size ∧ ∀ k, vz.ownBlock = some k → w.heap.size ≤ k)), (fun _ _ uz _ => uz = (Value.int .u16 ((l.getD (turn.toNat % l.length) 0).toNat : Int))), (fun _ vz uz w' => ∃ (b43 : Nat), uz = (Value.slice (some ⟨b43, 0, none⟩) 1 1) ∧ w13.heap.size ≤ b43 ∧ Bx w' b43 35 [(Value.int .u16 ((l.getD (turn.toNat % l.length) 0).toNat : Int))] ∧ vz.ownBlock ≠ some b43)]) (C := CL [(fun vz w' => Own w' w.heap.size 35 1 vz 0 ([])), (fun vz w' => Own w' w.heap.size 35 1 vz 0 ([])), (fun vz w' => Own w' w.heap.size 35 1 vz (0 + (l.length - (turn.toNat % l.length))) (((l.drop (turn.toNat % l.length))).map u16v)), (fun vz w' => Own w' w.heap.size 35 1 vz ((0 + (l.length - (turn.toNat % l.length))) + ((turn.toNat % l.length))) ((((l.drop (turn.toNat % l.length)) ++ (l.take (turn.toNat % l.length)))).map u16v))]) ⟨[0, 4, 8], fun c => [115, 35, 39, 43].getD c 115⟩ (Value.slice none 0 0) (by kernel_rfl) (by kernel_rfl) (by kernel_rfl) (by kernel_rfl) hN (StK.get0 (n := 3) (StK.ch (StK.eq (StK.eq (StK.cons (fun c v u w1 w2 E h => by obtain ⟨x0, hv, f0, q0⟩ := h; exact ⟨x0, hv, f0.keep0 E, ⟨Nat.le_trans q0.1 E.size, q0.2⟩⟩) (fun c v v' u w1 w2 _ E h => by obtain ⟨x0, hv, f0, q0⟩ := h; exact ⟨x0, hv, f0.keep E.1 (fun k hk => .inr (q0.2 k hk)), ⟨Nat.le_trans q0.1 E.1.size, ge_step E q0.1 q0.2⟩⟩) (StK.ch (StK.eq (StK.eq (StK.cons (fun c v u w1 w2 E h => by obtain ⟨x0, hv, f0, q0⟩ := h; exact ⟨x0, hv, f0.keep0 E, ⟨Nat.le_trans q0.1 E.size, q0.2⟩⟩) (fun c v v' u w1 w2 _ E h => by obtain ⟨x0, hv, f0, q0⟩ := h; exact ⟨x0, hv, f0.keep E.1 (fun k hk => .inr (q0.2 k hk)), ⟨Nat.le_trans q0.1 E.1.size, ge_step E q0.1 q0.2⟩⟩) (StK.ch (StK.eq (StK.eq (StK.cons (fun c v u w1 w2 E h => by obtain ⟨x0, x1, hv, f0, q0⟩ := h; exact ⟨x0, x1, hv, f0.keep0 E, ⟨Nat.le_trans q0.1 E.size, q0.2⟩⟩) (fun c v v' u w1 w2 _ E h => by obtain ⟨x0, x1, hv, f0, q0⟩ := h; exact ⟨x0, x1, hv, f0.keep E.1 (fun k hk => .inr (q0.2 k hk)), ⟨Nat.le_trans q0.1 E.1.size, ge_step E q0.1 q0.2⟩⟩) (StK.eq (StK.cons (fun c v u w1 w2 E h => by obtain ⟨x0, hv, l0, f0, q0⟩ := h; exact ⟨x0, hv, l0, f0.keep0 E, q0⟩) (fun c v v' u w1 w2 _ E h => by obtain ⟨x0, hv, l0, f0, q0⟩ := h; exact ⟨x0, hv, l0, f0.keep E.1 (fun hh => q0 hh.symm), ne_step E f0.lt q0⟩) (StK.nil)))))))))))))))) (StK.get1 (n := 3) (StK.ch (StK.eq (StK.eq (StK.cons (fun c v u w1 w2 E h => by obtain ⟨x0, hv, f0, q0⟩ := h; exact ⟨x0, hv, f0.keep0 E, ⟨Nat.le_trans q0.1 E.size, q0.2⟩⟩) (fun c v v' u w1 w2 _ E h => by obtain ⟨x0, hv, f0, q0⟩ := h; exact ⟨x0, hv, f0.keep E.1 (fun k hk => .inr (q0.2 k hk)), ⟨Nat.le_trans q0.1 E.1.size, ge_step E q0.1 q0.2⟩⟩) (StK.ch (StK.eq (StK.eq (StK.cons (fun c v u w1 w2 E h => by obtain ⟨x0, hv, f0, q0⟩ := h; exact ⟨x0, hv, f0.keep0 E, ⟨Nat.le_trans q0.1 E.size, q0.2⟩⟩) (fun c v v' u w1 w2 _ E h => by obtain ⟨x0, hv, f0, q0⟩ := h; exact ⟨x0, hv, f0.keep E.1 (fun k hk => .inr (q0.2 k hk)), ⟨Nat.le_trans q0.1 E.1.size, ge_step E q0.1 q0.2⟩⟩) (StK.ch (StK.eq (StK.eq (StK.cons (fun c v u w1 w2 E h => by obtain ⟨x0, x1, hv, f0, q0⟩ := h; exact ⟨x0, x1, hv, f0.keep0 E, ⟨Nat.le_trans q0.1 E.size, q0.2⟩⟩) (fun c v v' u w1 w2 _ E h => by obtain ⟨x0, x1, hv, f0, q0⟩ := h; exact ⟨x0, x1, hv, f0.keep E.1 (fun k hk => .inr (q0.2 k hk)), ⟨Nat.le_trans q0.1 E.1.size, ge_step E q0.1 q0.2⟩⟩) (StK.eq (StK.cons (fun c v u w1 w2 E h => by obtain ⟨x0, hv, l0, f0, q0⟩ := h; exact ⟨x0, hv, l0, f0.keep0 E, q0⟩) (fun c v v' u w1 w2 _ E h => by obtain ⟨x0, hv, l0, f0, q0⟩ := h; exact ⟨x0, hv, l0, f0.keep E.1 (fun hh => q0 hh.symm), ne_step E f0.lt q0⟩) (StK.nil)))))))))))))))) (StL2.get0 (StL2.own (StL2.own (StL2.own (StL2.own (StL2.nil)))))) (StL2.get1 (StL2.own (StL2.own (StL2.own (StL2.own (StL2.nil)))))) (Own.nil w13 w.heap.size 35 1) (ObLn.get (ObLn.pass rfl (ObLn.cons ?_ (ObLn.cons ?_ (ObLn.cons ?_ (ObLn.pass rfl (ObLn.cons ?_ (ObLn.cons ?_ (ObLn.cons ?_ (ObLn.pass rfl (ObLn.cons ?_ (ObLn.cons ?_ (ObLn.cons ?_ (ObLn.cons ?_ (ObLn.cons ?_ (ObLn.nil)))))))))))))))) (ObLc.get (ObLc.cons ?_ (ObLc.cons ?_ (ObLc.cons ?_ (ObLc.nil))))) ?_
   ·
    intro aA wA ccA cvA hNA hclA hRA hltA hvoA hbsA hdpA
    have qA_0 := (hbsA 0 rfl).trans (sl_base hN rfl s0)
    refine op_move (ev_base hNA rfl qA_0) ?_
    exact obNc_end rfl rfl (grown_refl _ _)
   ·
    intro aA wA ccA cvA hNA hclA hRA hltA hvoA hbsA hdpA
    have qA_5 := (hbsA 5 rfl).trans (sl_hit hN rfl)
    refine op_move (ev_base hNA rfl qA_5) ?_
    exact obNc_end rfl rfl (grown_refl _ _)
   ·
    intro aA wA ccA cvA hNA hclA hRA hltA hvoA hbsA hdpA
    have hRA : w13.grownBy wA (Value.slice none 0 0).ownBlock := hRA
    have hnil_o := (Own.nil w13 w.heap.size 35 1)
    have z_wA := hRA.size
    have hb := below_stepO hb (Own.nil w13 w.heap.size 35 1) hRA hb.size (by omega)
    have hrl := hrl.keep0 hRA
    have hO12 := hO12.keep0 hRA
    have qA_36 : Sl aA 36 vl := hdpA 1 _ 36 (by kernel_rfl) rfl rfl
    have qA_37 : Sl aA 37 (Value.int .i64 (((turn.toNat % l.length) : Nat) : Int)) := hdpA 2 _ 37 (by kernel_rfl) rfl rfl
    clear hbsA hdpA
    refine op_slice_rd (lo := (turn.toNat % l.length)) (hi := l.length) slt22 (ev_base hNA rfl qA_36) hrl (.inr ⟨_, _, rfl, (ev_base hNA rfl qA_37)⟩) (.inl ⟨rfl, rfl⟩) (by omega) (by omega) ?_
    intro v16 hR17
    have hR17 : RdC wA 0 w.heap.size 1 v16 (l.length - (turn.toNat % l.length)) (((l.drop (turn.toNat % l.length))).map u16v) := by simpa [List.map_drop, List.map_take, List.take_of_length_le] using hR17
    exact obNc_end rfl ⟨v16, rfl, hR17, ⟨by omega, ge_of hvoA (fun k hk => by simp [Value.ownBlock] at hk) (by omega)⟩⟩ (grown_refl _ _)
   ·
    intro aA wA ccA cvA hNA hclA hRA hltA hvoA hbsA hdpA
    have qA_0 := (hbsA 0 rfl).trans (sl_base hN rfl s0)
    refine op_move (ev_base hNA rfl qA_0) ?_
    exact obNc_end rfl rfl (grown_refl _ _)
   ·
    intro aA wA ccA cvA hNA hclA hRA hltA hvoA hbsA hdpA
    have qA_5 := (hbsA 5 rfl).trans (sl_hit hN rfl)
    refine op_move (ev_base hNA rfl qA_5) ?_
    exact obNc_end rfl rfl (grown_refl _ _)
   ·
    intro aA wA ccA cvA hNA hclA hRA hltA hvoA hbsA hdpA
    have hRA : w13.grownBy wA (Value.slice none 0 0).ownBlock := hRA
    have hnil_o := (Own.nil w13 w.heap.size 35 1)
    have z_wA := hRA.size
    have hb := below_stepO hb (Own.nil w13 w.heap.size 35 1) hRA hb.size (by omega)
    have hrl := hrl.keep0 hRA
    have hO12 := hO12.keep0 hRA
    have qA_40 : Sl aA 40 vl := hdpA 5 _ 40 (by kernel_rfl) rfl rfl
    have qA_41 : Sl aA 41 (Value.int .i64 (((turn.toNat % l.length) : Nat) : Int)) := hdpA 6 _ 41 (by kernel_rfl) rfl rfl
    clear hbsA hdpA
    refine op_slice_rd (lo := 0) (hi := (turn.toNat % l.length)) slt22 (ev_base hNA rfl qA_40) hrl (.inl ⟨rfl, rfl⟩) (.inr ⟨_, _, rfl, (ev_base hNA rfl qA_41)⟩) (by omega) (by omega) ?_
    intro v18 hR19
    have hR19 : RdC wA 0 w.heap.size 1 v18 ((turn.toNat % l.length)) (((l.take (turn.toNat % l.length))).map u16v) := by simpa [List.map_drop, List.map_take] using hR19
    exact obNc_end rfl ⟨v18, rfl, hR19, ⟨by omega, ge_of hvoA (fun k hk => by simp [Value.ownBlock] at hk) (by omega)⟩⟩ (grown_refl _ _)
   ·
    intro aA wA ccA cvA hNA hclA hRA hltA hvoA hbsA hdpA
    have qA_0 := (hbsA 0 rfl).trans (sl_base hN rfl s0)
    refine op_move (ev_base hNA rfl qA_0) ?_
    exact obNc_end rfl rfl (grown_refl _ _)
   ·
    intro aA wA ccA cvA hNA hclA hRA hltA hvoA hbsA hdpA
    have qA_5 := (hbsA 5 rfl).trans (sl_hit hN rfl)
    refine op_move (ev_base hNA rfl qA_5) ?_
    exact obNc_end rfl rfl (grown_refl _ _)
   ·
    intro aA wA ccA cvA hNA hclA hRA hltA hvoA hbsA hdpA
    have hRA : w13.grownBy wA (Value.slice none 0 0).ownBlock := hRA
    have hnil_o := (Own.nil w13 w.heap.size 35 1)
    have z_wA := hRA.size
    have hb := below_stepO hb (Own.nil w13 w.heap.size 35 1) hRA hb.size (by omega)
    have hrl := hrl.keep0 hRA
    have hO12 := hO12.keep0 hRA
    have qA_44 : Sl aA 44 vl := hdpA 9 _ 44 (by kernel_rfl) rfl rfl
    have qA_45 : Sl aA 45 (Value.int .i64 (((turn.toNat % l.length) : Nat) : Int)) := hdpA 10 _ 45 (by kernel_rfl) rfl rfl
    clear hbsA hdpA
    refine op_index_rd slt22 (ev_base hNA rfl qA_44) hrl (ev_base hNA rfl qA_45) (by omega) (by omega) ?_
    intro b20 o21 h0b20 h1b20 hc22
    have hp23 : PtC wA 0 w.heap.size b20 o21 [(Value.int .u16 ((l.getD (turn.toNat % l.length) 0).toNat : Int))] := ⟨by omega, by omega, fun j u hu => hc22 j u (by have := (List.getElem?_eq_some_iff.1 hu).1; simpa using this) ((fun j u hu => one_at (el_u16 (i := (turn.toNat % l.length)) (by omega) (by omega)) hu) j u hu)⟩
    exact obNc_end rfl ⟨b20, o21, rfl, hp23, ⟨by omega, ge_of hvoA (fun k hk => by simp [Value.ownBlock] at hk) (by omega)⟩⟩ (grown_refl _ _)
   ·
    intro aA wA ccA cvA hNA hclA hRA hltA hvoA hbsA hdpA
    have hRA : w13.grownBy wA (Value.slice none 0 0).ownBlock := hRA
    have hnil_o := (Own.nil w13 w.heap.size 35 1)
    have z_wA := hRA.size
    have hb := below_stepO hb (Own.nil w13 w.heap.size 35 1) hRA hb.size (by omega)
    have hrl := hrl.keep0 hRA
    have hO12 := hO12.keep0 hRA
    obtain ⟨b38, o39, qA_46, hp41, xqA_46_0⟩ := hdpA 11 _ 46 (by kernel_rfl) rfl rfl
    have hp41 : PtC wA 0 w.heap.size b38 o39 [(Value.int .u16 ((l.getD (turn.toNat % l.length) 0).toNat : Int))] := hp41
    clear hbsA hdpA
    refine op_load1 (v := (Value.int .u16 ((l.getD (turn.toNat % l.length) 0).toNat : Int))) one35 (ev_base hNA rfl qA_46) (hp41.2.2 0 _ rfl) ?_
    exact obNc_end rfl rfl (grown_refl _ _)
   ·
    intro aA wA ccA cvA hNA hclA hRA hltA hvoA hbsA hdpA
    have hRA : w13.grownBy wA (Value.slice none 0 0).ownBlock := hRA
    have hnil_o := (Own.nil w13 w.heap.size 35 1)
    have z_wA := hRA.size
    have hb := below_stepO hb (Own.nil w13 w.heap.size 35 1) hRA hb.size (by omega)
    have hrl := hrl.keep0 hRA
    have hO12 := hO12.keep0 hRA
    have qA_47 : Sl aA 47 (Value.int .u16 ((l.getD (turn.toNat % l.length) 0).toNat : Int)) := hdpA 12 _ 47 (by kernel_rfl) rfl rfl
    clear hbsA hdpA
    refine op_bslice (e := 35) (pv := [(0, (Value.int .u16 ((l.getD (turn.toNat % l.length) 0).toNat : Int)))]) (cs := [(Value.int .u16 ((l.getD (turn.toNat % l.length) 0).toNat : Int))]) ⟨rfl, (ev_base hNA rfl qA_47), trivial⟩ (by kernel_rfl) ?_
    intro w24 b25 lo_b25 hi_b25 hB27 E26
    have ne_b25_v12 : v12.ownBlock ≠ some b25 := fun hh => by have := (hO12.lt _ hh).2; omega
    have z_w24 := E26.size
    have hrl := hrl.keep0 E26
    have hO12 := hO12.keep0 E26
    have hb := below_step0 hb E26 hb.size
    exact obNc_end rfl ⟨b25, rfl, (by omega), hB27, (fun hh => by have := hltA _ hh; omega)⟩ (E26)
   ·
    intro o_ ho_; obtain rfl := Option.some.inj ho_; intro aA wA cvA hNA hRA hcv0A hbsA hdpA hCA
    have hRA : w13.grownBy wA (Value.slice none 0 0).ownBlock := hRA
    have hnil_o := (Own.nil w13 w.heap.size 35 1)
    have z_wA := hRA.size
    have hb := below_stepO hb (Own.nil w13 w.heap.size 35 1) hRA hb.size (by omega)
    have hrl := hrl.keep0 hRA
    have hO12 := hO12.keep0 hRA
    have hcvA : (Value.slice none 0 0) = cvA := (hcv0A rfl).symm
    subst hcvA
    have hCA : Own wA w.heap.size 35 1 (Value.slice none 0 0) 0 ([]) := hCA
    clear hbsA hdpA
    refine op_bslice (e := 35) (pv := []) (cs := []) trivial (by kernel_rfl) ?_
    intro w28 b29 lo_b29 hi_b29 hB31 E30
    have ne_b29_v12 : v12.ownBlock ≠ some b29 := fun hh => by have := (hO12.lt _ hh).2; omega
    have z_w28 := E30.size
    have hrl := hrl.keep0 E30
    have hO12 := hO12.keep0 E30
    have hCA := hCA.keep0 E30
    have hb := below_step0 hb E30 hb.size
    exact obCc_end rfl rfl (chP_now (w := w28)) (Own.ofBx (base := w.heap.size) (sz := 1) (n := 0) hB31 rfl (by decide) (by omega)) ⟨E30, .inr (fun k hk => by simp [Value.ownBlock] at hk; omega)⟩
   ·
    intro o_ ho_; obtain rfl := Option.some.inj ho_; intro aA wA cvA hNA hRA hcv0A hbsA hdpA hCA
    have hRA : w13.grownBy wA (Value.slice none 0 0).ownBlock := hRA
    have hnil_o := (Own.nil w13 w.heap.size 35 1)
    have z_wA := hRA.size
    have hb := below_stepO hb (Own.nil w13 w.heap.size 35 1) hRA hb.size (by omega)
    have hrl := hrl.keep0 hRA
    have hO12 := hO12.keep0 hRA
    have hCA : Own wA w.heap.size 35 1 cvA 0 ([]) := hCA
    have qA_35 : aA.tmps.getD 35 undef = cvA := (show chP 0 1 cvA (aA.tmps.getD 35 undef) wA from hdpA 0 _ 35 (by kernel_rfl) rfl rfl).2 rfl
    obtain ⟨v20, qA_38, hR21, xqA_38_0⟩ := hdpA 3 _ 38 (by kernel_rfl) rfl rfl
    have hR21 : RdC wA 0 w.heap.size 1 v20 (l.length - (turn.toNat % l.length)) (((l.drop (turn.toNat % l.length))).map u16v) := hR21
    clear hbsA hdpA
    have hP37 := hCA
    refine op_append slt22 (ev_base hNA rfl qA_35) hP37 (ev_base hNA rfl qA_38) (Src.ofRd Try.underlying22 (by decide) hR21 (one_u16 _)) (by unfold maxLen; omega) (by omega) hb.size ?_
    intro v32 w33 hO35 E34 hm36
    have z_w33 := E34.size
    have hrl := hrl.keepO hP37 E34 (by omega)
    have hR21 := hR21.keep E34 (fun k hk => .inr (xqA_38_0.2 k hk))
    have hb := below_stepO hb hP37 E34 hb.size (by omega)
    have hO35 : Own w33 w.heap.size 35 1 v32 (0 + (l.length - (turn.toNat % l.length))) (((l.drop (turn.toNat % l.length))).map u16v) := by simpa [u8v, u16v, cellsV] using hO35
    exact obCc_end rfl rfl (chP_now (w := w33)) hO35 ⟨E34, hm36⟩
   ·
    intro o_ ho_; obtain rfl := Option.some.inj ho_; intro aA wA cvA hNA hRA hcv0A hbsA hdpA hCA
    have hRA : w13.grownBy wA (Value.slice none 0 0).ownBlock := hRA
    have hnil_o := (Own.nil w13 w.heap.size 35 1)
    have z_wA := hRA.size
    have hb := below_stepO hb (Own.nil w13 w.heap.size 35 1) hRA hb.size (by omega)
    have hrl := hrl.keep0 hRA
    have hO12 := hO12.keep0 hRA
    have hCA : Own wA w.heap.size 35 1 cvA (0 + (l.length - (turn.toNat % l.length))) (((l.drop (turn.toNat % l.length))).map u16v) := hCA
    have qA_39 : aA.tmps.getD 39 undef = cvA := (show chP 1 2 cvA (aA.tmps.getD 39 undef) wA from hdpA 4 _ 39 (by kernel_rfl) rfl rfl).2 rfl
    obtain ⟨v29, qA_42, hR30, xqA_42_0⟩ := hdpA 7 _ 42 (by kernel_rfl) rfl rfl
    have hR30 : RdC wA 0 w.heap.size 1 v29 ((turn.toNat % l.length)) (((l.take (turn.toNat % l.length))).map u16v) := hR30
    clear hbsA hdpA
    have hP43 := hCA
    refine op_append slt22 (ev_base hNA rfl qA_39) hP43 (ev_base hNA rfl qA_42) (Src.ofRd Try.underlying22 (by decide) hR30 (one_u16 _)) (by unfold maxLen; omega) (by omega) hb.size ?_
    intro v38 w39 hO41 E40 hm42
    have z_w39 := E40.size
    have hrl := hrl.keepO hP43 E40 (by omega)
    have hR30 := hR30.keep E40 (fun k hk => .inr (xqA_42_0.2 k hk))
    have hb := below_stepO hb hP43 E40 hb.size (by omega)
    have hO41 : Own w39 w.heap.size 35 1 v38 ((0 + (l.length - (turn.toNat % l.length))) + ((turn.toNat % l.length))) ((((l.drop (turn.toNat % l.length)) ++ (l.take (turn.toNat % l.length)))).map u16v) := by simpa [u8v, u16v, cellsV] using hO41
    exact obCc_end rfl rfl (chP_now (w := w39)) hO41 ⟨E40, hm42⟩
   ·
    intro a44 w44 v31 hN44 hd44 hbs44 hph44 hC44 E44 hm44
    have hd44 := hd44.trans hd
    have s44_0 := (hbs44 0 rfl).trans (sl_base hN rfl s0)
    have s44_4 := (hbs44 4 rfl).trans (sl_hit hN rfl)
    have s44_5 := (hbs44 5 rfl).trans (sl_hit hN rfl)
    have s44_6 := (hbs44 6 rfl).trans (sl_hit hN rfl)
    have s44_7 := (hbs44 7 rfl).trans (sl_hit hN rfl)
    have s44_43 : a44.tmps.getD 43 undef = v31 := (show chP 2 3 v31 (a44.tmps.getD 43 undef) w44 from hph44 8 _ 43 rfl rfl).2 rfl
    obtain ⟨b43, s44_48, l44_0, hB45, xq44_48_0⟩ := hph44 13 _ 48 rfl rfl
    have hB45 : Bx w44 b43 35 [(Value.int .u16 ((l.getD (turn.toNat % l.length) 0).toNat : Int))] := hB45
    clear hbs44 hph44
    have E44 : w13.grownBy w44 (Value.slice none 0 0).ownBlock := E44
    have hC44 : Own w44 w.heap.size 35 1 v31 ((0 + (l.length - (turn.toNat % l.length))) + ((turn.toNat % l.length))) ((((l.drop (turn.toNat % l.length)) ++ (l.take (turn.toNat % l.length)))).map u16v) := hC44
    have dj45 : DJ v12 v31 := fun k hk hg => by have q1 := (hO12.lt k hk).2; rcases hm44 with h7 | h7; (rw [h7] at hg; simp [Value.ownBlock] at hg); (have := h7 k hg; omega)
    have E44 : w13.grownBy w44 none := E44
    have z_w44 := E44.size
    have hrl := hrl.keep0 E44
    have hO12 := hO12.keep0 E44
    have hb := below_step0 hb E44 hb.size
    refine split_end ?_
    refine from_one (k' := 15) (by kernel_rfl) rfl rfl ?_
    have hP51 := hC44
    refine op_append slt22 (ev_base hN44 rfl s44_43) hP51 (ev_base hN44 rfl s44_48) (Src.ofRd Try.underlying22 (by decide) (RdC.ofBx (sz := 1) (n := 1) hB45 rfl (by decide)) (by simp [Value.oneCell', u8v])) (by unfold maxLen; omega) (by omega) hb.size ?_
    intro v46 w47 hO49 E48 hm50
    have dj52 : DJ v12 v46 := DJ.step hm50 (fun k hk => (hO12.lt k hk).2) dj45
    have z_w47 := E48.size
    have hrl := hrl.keepO hP51 E48 (by omega)
    have hO12 := hO12.keepD E48 dj45
    have hB45 := hB45.keep E48 (fun hh => xq44_48_0 hh.symm)
    have hb := below_stepO hb hP51 E48 hb.size (by omega)
    have hO49 : Own w47 w.heap.size 35 1 v46 (((0 + (l.length - (turn.toNat % l.length))) + ((turn.toNat % l.length))) + 1) (((((l.drop (turn.toNat % l.length)) ++ (l.take (turn.toNat % l.length))) ++ [(l.getD (turn.toNat % l.length) 0)])).map u16v) := by simpa [u8v, u16v, cellsV] using hO49
    refine from_next ?_
    refine from_one (k' := 16) (by kernel_rfl) rfl rfl ?_
    refine op_fn (vs := [v46]) ok24 ⟨(ev_hit hN44 rfl), trivial⟩ (normW_ret (((l.drop (turn.toNat % l.length)) ++ (l.take (turn.toNat % l.length))) ++ [(l.getD (turn.toNat % l.length) 0)]) _ _ (by first | assumption | omega | (simp only [List.length_append, List.length_cons, List.length_nil, List.length_drop, List.length_take]; omega) | (dsimp only; omega) | decide | (simp [keyV, be8_len]; done)) (show RdC w47 0 w47.heap.size 1 v46 (((l.drop (turn.toNat % l.length)) ++ (l.take (turn.toNat % l.length))) ++ [(l.getD (turn.toNat % l.length) 0)]).length ((((l.drop (turn.toNat % l.length)) ++ (l.take (turn.toNat % l.length))) ++ [(l.getD (turn.toNat % l.length) 0)]).map u16v) from by have hh : RdC w47 0 w47.heap.size 1 _ _ _ := (hO49.rdw.mono (L' := 0) (B' := w47.heap.size) (Nat.zero_le _) (by omega)); first | exact hh | exact hh.cast (by first | omega | (simp; try omega)) (by first | rfl | simp [u16v]))) ?_
    rintro _ w54 ⟨E55, v53, rfl, hO53⟩
    have dj56 : DJ v53 v12 := fun k hk hg => by have q1 := (hO53.lt k hk).1; have q2 := (hO12.lt k hg).2; omega
    have dj57 : DJ v53 v46 := fun k hk hg => by have q1 := (hO53.lt k hk).1; have q2 := (hO49.lt k hg).2; omega
    have E55 := grown_of_below E55
    have z_w54 := E55.size
    have hrl := hrl.keep0 E55
    have hO12 := hO12.keep0 E55
    have hB45 := hB45.keep0 E55
    have hO49 := hO49.keep0 E55
    have hb := below_step0 hb E55 hb.size
    have hO53 := hO53.mono (base' := w.heap.size) (by omega)
    have hnl53 := normL_len (((l.drop (turn.toNat % l.length)) ++ (l.take (turn.toNat % l.length))) ++ [(l.getD (turn.toNat % l.length) 0)])
    refine from_next ?_
    refine from_still (m := 21) 5 (hd := [_, _, _, _, _]) (by kernel_rfl) rfl rfl ?_
    refine st_step rfl (fun _ h9 => op_move (ev_hit hN44 rfl) h9) ?_
    refine st_step rfl (fun _ h9 => op_extract (ev_hit hN44 rfl) rfl h9) ?_
    refine st_step rfl (fun _ h9 => op_extract (ev_hit hN44 rfl) rfl h9) ?_
    refine st_step rfl (fun _ h9 => op_assign (ev_hit hN44 rfl) h9) ?_
    refine st_step rfl (fun _ h9 => op_assign (ev_hit hN44 rfl) h9) ?_
    refine st_nil ?_
    refine from_end ?_ rfl
    refine hK15 _ _ ?_
    refine seq_any fun K58 hK58 => ?_
    refine seq_any fun K59 hK59 => ?_
    refine one_reg ?_
    refine op_move (ev_base hN44 rfl s44_7) ?_
    refine op_move (ev_hit hN44 rfl) ?_
    refine op_neq (ev_hit hN44 rfl) (ev_hit hN44 rfl) (fun c55 => ?_) (fun c55 => ?_)
    · -- 55T
     exact absurd (normE_turn hkt).symm c55
    · -- 55F
     refine op_move (ev_hit hN44 rfl) ?_
     refine g_true (j := 3) (dj := 56) (b := false) rfl rfl rfl (ev_hit hN44 rfl) ?_
     refine op_move (ev_base hN44 rfl s44_6) ?_
     refine g_true (j := 3) (dj := 56) (b := false) rfl rfl rfl (ev_hit hN44 rfl) ?_
     refine op_move (ev_hit hN44 rfl) ?_
     refine g_true (j := 3) (dj := 56) (b := false) rfl rfl rfl (ev_hit hN44 rfl) ?_
     refine op_fn (vs := [v12, v53]) ok19 ⟨(ev_hit hN44 rfl), ⟨(ev_hit hN44 rfl), trivial⟩⟩ (sameL_ret (normL l) (normL (((l.drop (turn.toNat % l.length)) ++ (l.take (turn.toNat % l.length))) ++ [(l.getD (turn.toNat % l.length) 0)])) _ _ _ (by first | assumption | omega | (simp only [List.length_append, List.length_cons, List.length_nil, List.length_drop, List.length_take]; omega) | (dsimp only; omega) | decide | (simp [keyV, be8_len]; done)) (by first | assumption | omega | (simp only [List.length_append, List.length_cons, List.length_nil, List.length_drop, List.length_take]; omega) | (dsimp only; omega) | decide | (simp [keyV, be8_len]; done)) (show RdC w54 0 w54.heap.size 1 v12 (normL l).length ((normL l).map u16v) from by have hh : RdC w54 0 w54.heap.size 1 _ _ _ := (hO12.rdw.mono (L' := 0) (B' := w54.heap.size) (Nat.zero_le _) (by omega)); first | exact hh | exact hh.cast (by first | omega | (simp; try omega)) (by first | rfl | simp [u16v])) (show RdC w54 0 w54.heap.size 1 v53 (normL (((l.drop (turn.toNat % l.length)) ++ (l.take (turn.toNat % l.length))) ++ [(l.getD (turn.toNat % l.length) 0)])).length ((normL (((l.drop (turn.toNat % l.length)) ++ (l.take (turn.toNat % l.length))) ++ [(l.getD (turn.toNat % l.length) 0)])).map u16v) from by have hh : RdC w54 0 w54.heap.size 1 _ _ _ := (hO53.rdw.mono (L' := 0) (B' := w54.heap.size) (Nat.zero_le _) (by omega)); first | exact hh | exact hh.cast (by first | omega | (simp; try omega)) (by first | rfl | simp [u16v]))) ?_
     rintro _ w60 ⟨E61, rfl⟩
     have E61 := grown_of_below E61
     have z_w60 := E61.size
     have hrl := hrl.keep0 E61
     have hO12 := hO12.keep0 E61
     have hB45 := hB45.keep0 E61
     have hO49 := hO49.keep0 E61
     have hO53 := hO53.keep0 E61
     have hb := below_step0 hb E61 hb.size
     rcases Bool.eq_false_or_eq_true ((decide ((normL l) = (normL (((l.drop (turn.toNat % l.length)) ++ (l.take (turn.toNat % l.length))) ++ [(l.getD (turn.toNat % l.length) 0)]))))) with c59 | c59
     · -- 59T
      rw [c59]
      refine g_true (j := 3) (dj := 56) (b := false) rfl rfl rfl (ev_hit hN44 rfl) ?_
      refine op_not (ev_hit hN44 rfl) ?_
      refine op_pick_f (ev_hit hN44 rfl) (ev_hit hN44 rfl) ?_
      refine reg_nil ?_
      refine hK59 _ _ ?_
      refine wp_cond_false (ev_hit hN44 rfl) ?_
      refine wp_skip ?_
      refine hK58 _ _ ?_
      refine seq_any fun K62 hK62 => ?_
      refine seq_any fun K63 hK63 => ?_
      refine one_reg ?_
      refine op_move (ev_base hN44 rfl s44_7) ?_
      refine op_neq (ev_hit hN44 rfl) rfl (fun c63 => ?_) (fun c63 => ?_)
      · -- 63T
       refine reg_nil ?_
       refine hK63 _ _ ?_
       refine wp_cond_true (ev_hit hN44 rfl) ?_
       refine seq_any fun K64 hK64 => ?_
       refine one_reg ?_
       refine op_move (ev_base hN44 rfl s44_7) ?_
       refine op_eql (ev_hit hN44 rfl) rfl (fun c65 => ?_) (fun c65 => ?_)
       · -- 65T
        refine op_move (ev_hit hN44 rfl) ?_
        refine g_true (j := 2) (dj := 66) (b := true) rfl rfl rfl (ev_hit hN44 rfl) ?_
        refine op_move (ev_base hN44 rfl s44_6) ?_
        refine g_true (j := 2) (dj := 66) (b := true) rfl rfl rfl (ev_hit hN44 rfl) ?_
        refine op_len_rd Try.underlying23 (ev_hit hN44 rfl) hO12.rdw ?_
        refine g_true (j := 2) (dj := 66) (b := true) rfl rfl rfl (ev_hit hN44 rfl) ?_
        refine op_eql (ev_hit hN44 rfl) rfl (fun c69 => ?_) (fun c69 => ?_)
        · -- 69T
         refine op_pick_t (ev_hit hN44 rfl) (ev_hit hN44 rfl) ?_
         refine op_assign (ev_hit hN44 rfl) ?_
         refine reg_nil ?_
         refine hK64 _ _ ?_
         refine wp_ret (then_ret ( ?_))
         refine ret1 rfl hd44 (ev_hit hN44 rfl) ⟨_, rfl, ?_⟩
         -- path 18F 22F 55F 59T 63T 65T 69T
         exact ⟨hb, rfl⟩
        · -- 69F
         exact absurd (by rw [normL_none c63]; rfl) c69
       · -- 65F
        exfalso; have := normE_val l; omega
      · -- 63F
       refine reg_nil ?_
       refine hK63 _ _ ?_
       refine wp_cond_false (ev_hit hN44 rfl) ?_
       refine wp_skip ?_
       refine hK62 _ _ ?_
       refine seq_any fun K65 hK65 => ?_
       refine one_reg ?_
       refine op_move (ev_base hN44 rfl s44_6) ?_
       refine op_fn (vs := [v12]) ok24 ⟨(ev_hit hN44 rfl), trivial⟩ (normW_ret (normL l) _ _ (by first | assumption | omega | (simp only [List.length_append, List.length_cons, List.length_nil, List.length_drop, List.length_take]; omega) | (dsimp only; omega) | decide | (simp [keyV, be8_len]; done)) (show RdC w60 0 w60.heap.size 1 v12 (normL l).length ((normL l).map u16v) from by have hh : RdC w60 0 w60.heap.size 1 _ _ _ := (hO12.rdw.mono (L' := 0) (B' := w60.heap.size) (Nat.zero_le _) (by omega)); first | exact hh | exact hh.cast (by first | omega | (simp; try omega)) (by first | rfl | simp [u16v]))) ?_
       rintro _ w67 ⟨E68, v66, rfl, hO66⟩
       have dj69 : DJ v66 v12 := fun k hk hg => by have q1 := (hO66.lt k hk).1; have q2 := (hO12.lt k hg).2; omega
       have dj70 : DJ v66 v46 := fun k hk hg => by have q1 := (hO66.lt k hk).1; have q2 := (hO49.lt k hg).2; omega
       have dj71 : DJ v66 v53 := fun k hk hg => by have q1 := (hO66.lt k hk).1; have q2 := (hO53.lt k hg).2; omega
       have E68 := grown_of_below E68
       have z_w67 := E68.size
       have hrl := hrl.keep0 E68
       have hO12 := hO12.keep0 E68
       have hB45 := hB45.keep0 E68
       have hO49 := hO49.keep0 E68
       have hO53 := hO53.keep0 E68
       have hb := below_step0 hb E68 hb.size
       have hO66 := hO66.mono (base' := w.heap.size) (by omega)
       have hnl66 := normL_len (normL l)
       refine op_move (ev_hit hN44 rfl) ?_
       refine op_extract (ev_hit hN44 rfl) rfl ?_
       refine op_extract (ev_hit hN44 rfl) rfl ?_
       refine op_assign (ev_hit hN44 rfl) ?_
       refine op_assign (ev_hit hN44 rfl) ?_
       refine reg_nil ?_
       refine hK65 _ _ ?_
       refine seq_any fun K72 hK72 => ?_
       refine one_reg ?_
       refine op_assign rfl ?_
       refine reg_nil ?_
       refine hK72 _ _ ?_
       refine seq_any fun K73 hK73 => ?_
       refine seq_any fun K74 hK74 => ?_
       refine one_reg ?_
       refine op_assign rfl ?_
       refine reg_nil ?_
       refine hK74 _ _ ?_
       refine wp_block ?_
       refine loop_m (fun mz_ az_ w' => ∃ (i : Nat), mz_ = (normL l).length - i ∧ (az_.tmps.getD 0 undef = vl) ∧ (az_.tmps.getD 4 undef = (Value.bool false)) ∧ (az_.tmps.getD 5 undef = (Value.int .i64 (((turn.toNat % l.length) : Nat) : Int))) ∧ (az_.tmps.getD 6 undef = v12) ∧ (az_.tmps.getD 10 undef = v66) ∧ (az_.tmps.getD 11 undef = (Value.int .i64 (normE (normL l)))) ∧ (az_.tmps.getD 13 undef = (Value.int .i64 ((i : Nat) : Int))) ∧ (az_.tmps.getD 12 undef = (Value.bool (inL (l.getD (turn.toNat % l.length) 0) ((normL l).take i)))) ∧ (i ≤ (normL l).length) ∧ (Below w.heap.size w w') ∧ (w67.heap.size ≤ w'.heap.size) ∧ (RdC w' 0 w.heap.size 1 vl l.length (l.map u16v)) ∧ (Own w' w.heap.size 35 1 v12 (normL l).length ((normL l).map u16v)) ∧ (Bx w' b43 35 [(Value.int .u16 ((l.getD (turn.toNat % l.length) 0).toNat : Int))]) ∧ (Own w' w.heap.size 35 1 v46 (((0 + (l.length - (turn.toNat % l.length))) + ((turn.toNat % l.length))) + 1) (((((l.drop (turn.toNat % l.length)) ++ (l.take (turn.toNat % l.length))) ++ [(l.getD (turn.toNat % l.length) 0)])).map u16v)) ∧ (Own w' w.heap.size 35 1 v53 (normL (((l.drop (turn.toNat % l.length)) ++ (l.take (turn.toNat % l.length))) ++ [(l.getD (turn.toNat % l.length) 0)])).length ((normL (((l.drop (turn.toNat % l.length)) ++ (l.take (turn.toNat % l.length))) ++ [(l.getD (turn.toNat % l.length) 0)])).map u16v)) ∧ (Own w' w.heap.size 35 1 v66 (normL (normL l)).length ((normL (normL l)).map u16v))) _ hN44 hd44 ⟨0, rfl, (sl_base hN44 rfl s44_0), (sl_base hN44 rfl s44_4), (sl_base hN44 rfl s44_5), (sl_base hN44 rfl s44_6), (sl_hit hN44 rfl), (sl_hit hN44 rfl), (sl_hit hN44 rfl).trans (congrArg (Value.int .i64) (by omega)), (sl_hit hN44 rfl).trans (congrArg Value.bool (by simp [inL])), Nat.zero_le _, hb, (Nat.le_refl _), hrl, hO12, hB45, hO49, hO53, hO66⟩ ?_
       rintro _ a75 w75 hN75 hd75 ⟨i, rfl, s75_0, s75_4, s75_5, s75_6, s75_10, s75_11, s75_13, s75_12, hi, hb, zl_w75, hrl, hO12, hB45, hO49, hO53, hO66⟩
       have z_w75 := hb.size
       refine seq_any fun K76 hK76 => ?_
       refine seq_any fun K77 hK77 => ?_
       refine one_reg ?_
       refine op_move (ev_base hN75 rfl s75_13) ?_
       refine op_move (ev_base hN75 rfl s75_6) ?_
       refine op_len_rd Try.underlying23 (ev_hit hN75 rfl) hO12.rdw ?_
       refine op_lss (ev_hit hN75 rfl) (ev_hit hN75 rfl) (fun c79 => ?_) (fun c79 => ?_)
       · -- 79T
        refine reg_nil ?_
        refine hK77 _ _ ?_
        refine wp_cond_true (ev_hit hN75 rfl) ?_
        refine wp_skip ?_
        refine hK76 _ _ ?_
        refine seq_any fun K78 hK78 => ?_
        refine wp_block ?_
        refine reg_still mixed (by kernel_rfl) ?_
        intro w80 E79
        have z_w80 := E79.size
        have hrl := hrl.keep0 E79
        have hO12 := hO12.keep0 E79
        have hB45 := hB45.keep0 E79
        have hO49 := hO49.keep0 E79
        have hO53 := hO53.keep0 E79
        have hO66 := hO66.keep0 E79
        have hb := below_step0 hb E79 hb.size
        refine st_step rfl (fun _ h9 => op_move (ev_base hN75 rfl s75_12) h9) ?_
        refine st_step rfl (fun _ h9 => op_move (ev_hit hN75 rfl) h9) ?_
        rcases Bool.eq_false_or_eq_true ((inL (l.getD (turn.toNat % l.length) 0) ((normL l).take i))) with g83 | g83
        · -- 83T
         rw [g83]
         refine st_g_false (j := 1) (dj := 83) (b := false) rfl rfl rfl (ev_hit hN75 rfl) rfl rfl ?_
         refine st_g_false (j := 1) (dj := 83) (b := false) rfl rfl rfl (ev_hit hN75 rfl) rfl rfl ?_
         refine st_g_false (j := 1) (dj := 83) (b := false) rfl rfl rfl (ev_hit hN75 rfl) rfl rfl ?_
         refine st_g_false (j := 1) (dj := 83) (b := false) rfl rfl rfl (ev_hit hN75 rfl) rfl rfl ?_
         refine st_g_false (j := 1) (dj := 83) (b := false) rfl rfl rfl (ev_hit hN75 rfl) rfl rfl ?_
         refine st_g_false (j := 1) (dj := 83) (b := false) rfl rfl rfl (ev_hit hN75 rfl) rfl rfl ?_
         refine st_g_false (j := 1) (dj := 83) (b := false) rfl rfl rfl (ev_hit hN75 rfl) rfl rfl ?_
         refine st_g_false (j := 1) (dj := 83) (b := false) rfl rfl rfl (ev_hit hN75 rfl) rfl rfl ?_
         refine st_g_false (j := 1) (dj := 83) (b := false) rfl rfl rfl (ev_hit hN75 rfl) rfl rfl ?_
         refine st_step rfl (fun _ h9 => op_pick_t (ev_hit hN75 rfl) rfl h9) ?_
         refine st_step rfl (fun _ h9 => op_assign (ev_hit hN75 rfl) h9) ?_
         refine st_nil ?_
         refine hK78 _ _ ?_
         refine one_reg ?_
         refine op_move (ev_base hN75 rfl s75_13) ?_
         refine op_add (ev_hit hN75 rfl) rfl (add64 (by omega)) ?_
         refine op_assign (ev_hit hN75 rfl) ?_
         refine reg_nil ?_
         -- round 18F 22F 55F 59T 63F 79T 83T
         exact loop_next _ hN75 hd75 ⟨i + 1, rfl, (sl_base hN75 rfl s75_0), (sl_base hN75 rfl s75_4), (sl_base hN75 rfl s75_5), (sl_base hN75 rfl s75_6), (sl_base hN75 rfl s75_10), (sl_base hN75 rfl s75_11), (sl_hit hN75 rfl).trans (congrArg (Value.int .i64) (by omega)), (sl_hit hN75 rfl).trans (congrArg Value.bool (by rw [in_step (by omega), g83]; rfl)), (by omega), hb, (by omega), hrl, hO12, hB45, hO49, hO53, hO66⟩ (by omega)
        · -- 83F
         rw [g83]
         refine st_g_true (j := 1) (dj := 83) (b := false) rfl rfl rfl (ev_hit hN75 rfl) ?_
         refine st_step rfl (fun _ h9 => op_move (ev_base hN75 rfl s75_6) h9) ?_
         refine st_g_true (j := 1) (dj := 83) (b := false) rfl rfl rfl (ev_hit hN75 rfl) ?_
         refine st_step rfl (fun _ h9 => op_move (ev_base hN75 rfl s75_13) h9) ?_
         refine st_g_true (j := 1) (dj := 83) (b := false) rfl rfl rfl (ev_hit hN75 rfl) ?_
         refine st_index_rd slt23 (ev_hit hN75 rfl) hO12.rdw (ev_hit hN75 rfl) (by omega) (by omega) ?_
         intro b81 o82 h0b81 h1b81 hc83
         refine st_g_true (j := 1) (dj := 83) (b := false) rfl rfl rfl (ev_hit hN75 rfl) ?_
         refine st_step rfl (fun _ h9 => op_load1 (v := (Value.int .u16 (((normL l).getD i 0).toNat : Int))) one35 (ev_hit hN75 rfl) (by have := hc83 0 (Value.int .u16 (((normL l).getD i 0).toNat : Int)) (by decide) (el_u16 (i := i) (by omega) (by omega)); simpa using this) h9) ?_
         refine st_g_true (j := 1) (dj := 83) (b := false) rfl rfl rfl (ev_hit hN75 rfl) ?_
         refine st_step rfl (fun _ h9 => op_move (ev_base hN75 rfl s75_0) h9) ?_
         refine st_g_true (j := 1) (dj := 83) (b := false) rfl rfl rfl (ev_hit hN75 rfl) ?_
         refine st_step rfl (fun _ h9 => op_move (ev_base hN75 rfl s75_5) h9) ?_
         refine st_g_true (j := 1) (dj := 83) (b := false) rfl rfl rfl (ev_hit hN75 rfl) ?_
         refine st_index_rd slt22 (ev_hit hN75 rfl) hrl (ev_hit hN75 rfl) (by omega) (by omega) ?_
         intro b84 o85 h0b84 h1b84 hc86
         refine st_g_true (j := 1) (dj := 83) (b := false) rfl rfl rfl (ev_hit hN75 rfl) ?_
         refine st_step rfl (fun _ h9 => op_load1 (v := (Value.int .u16 ((l.getD (turn.toNat % l.length) 0).toNat : Int))) one35 (ev_hit hN75 rfl) (by have := hc86 0 (Value.int .u16 ((l.getD (turn.toNat % l.length) 0).toNat : Int)) (by decide) (el_u16 (i := (turn.toNat % l.length)) (by omega) (by omega)); simpa using this) h9) ?_
         refine st_g_true (j := 1) (dj := 83) (b := false) rfl rfl rfl (ev_hit hN75 rfl) ?_
         refine st_step rfl (fun _ h9 => op_cmp (b := (decide ((((normL l).getD i 0).toNat : Int) = ((l.getD (turn.toNat % l.length) 0).toNat : Int)))) (ev_hit hN75 rfl) (ev_hit hN75 rfl) (b_eql rfl) h9) ?_
         refine st_step rfl (fun _ h9 => op_pick_f (ev_hit hN75 rfl) (ev_hit hN75 rfl) h9) ?_
         refine st_step rfl (fun _ h9 => op_assign (ev_hit hN75 rfl) h9) ?_
         refine st_nil ?_
         refine hK78 _ _ ?_
         refine one_reg ?_
         refine op_move (ev_base hN75 rfl s75_13) ?_
         refine op_add (ev_hit hN75 rfl) rfl (add64 (by omega)) ?_
         refine op_assign (ev_hit hN75 rfl) ?_
         refine reg_nil ?_
         -- round 18F 22F 55F 59T 63F 79T 83F
         exact loop_next _ hN75 hd75 ⟨i + 1, rfl, (sl_base hN75 rfl s75_0), (sl_base hN75 rfl s75_4), (sl_base hN75 rfl s75_5), (sl_base hN75 rfl s75_6), (sl_base hN75 rfl s75_10), (sl_base hN75 rfl s75_11), (sl_hit hN75 rfl).trans (congrArg (Value.int .i64) (by omega)), (sl_hit hN75 rfl).trans (congrArg Value.bool (by rw [in_step (by omega), g83, Bool.false_or, u16dec])), (by omega), hb, (by omega), hrl, hO12, hB45, hO49, hO53, hO66⟩ (by omega)
       · -- 79F
        refine reg_nil ?_
        refine hK77 _ _ ?_
        refine wp_cond_false (ev_hit hN75 rfl) ?_
        refine wp_exit (then_exit (then_exit (blk_hit ?_)))
        refine hK73 _ _ ?_
        refine seq_any fun K87 hK87 => ?_
        refine one_reg ?_
        refine op_move (ev_base hN75 rfl s75_11) ?_
        refine op_eql (ev_hit hN75 rfl) rfl (fun c95 => ?_) (fun c95 => ?_)
        · -- 95T
         refine op_move (ev_hit hN75 rfl) ?_
         refine g_true (j := 2) (dj := 96) (b := true) rfl rfl rfl (ev_hit hN75 rfl) ?_
         refine op_move (ev_base hN75 rfl s75_6) ?_
         refine g_true (j := 2) (dj := 96) (b := true) rfl rfl rfl (ev_hit hN75 rfl) ?_
         refine op_move (ev_base hN75 rfl s75_10) ?_
         refine g_true (j := 2) (dj := 96) (b := true) rfl rfl rfl (ev_hit hN75 rfl) ?_
         refine op_fn (vs := [v12, v66]) ok19 ⟨(ev_hit hN75 rfl), ⟨(ev_hit hN75 rfl), trivial⟩⟩ (sameL_ret (normL l) (normL (normL l)) _ _ _ (by first | assumption | omega | (simp only [List.length_append, List.length_cons, List.length_nil, List.length_drop, List.length_take]; omega) | (dsimp only; omega) | decide | (simp [keyV, be8_len]; done)) (by first | assumption | omega | (simp only [List.length_append, List.length_cons, List.length_nil, List.length_drop, List.length_take]; omega) | (dsimp only; omega) | decide | (simp [keyV, be8_len]; done)) (show RdC w75 0 w75.heap.size 1 v12 (normL l).length ((normL l).map u16v) from by have hh : RdC w75 0 w75.heap.size 1 _ _ _ := (hO12.rdw.mono (L' := 0) (B' := w75.heap.size) (Nat.zero_le _) (by omega)); first | exact hh | exact hh.cast (by first | omega | (simp; try omega)) (by first | rfl | simp [u16v])) (show RdC w75 0 w75.heap.size 1 v66 (normL (normL l)).length ((normL (normL l)).map u16v) from by have hh : RdC w75 0 w75.heap.size 1 _ _ _ := (hO66.rdw.mono (L' := 0) (B' := w75.heap.size) (Nat.zero_le _) (by omega)); first | exact hh | exact hh.cast (by first | omega | (simp; try omega)) (by first | rfl | simp [u16v]))) ?_
         rintro _ w88 ⟨E89, rfl⟩
         have E89 := grown_of_below E89
         have z_w88 := E89.size
         have hrl := hrl.keep0 E89
         have hO12 := hO12.keep0 E89
         have hB45 := hB45.keep0 E89
         have hO49 := hO49.keep0 E89
         have hO53 := hO53.keep0 E89
         have hO66 := hO66.keep0 E89
         have hb := below_step0 hb E89 hb.size
         rcases Bool.eq_false_or_eq_true ((decide ((normL l) = (normL (normL l))))) with c99 | c99
         · -- 99T
          rw [c99]
          refine op_pick_t (ev_hit hN75 rfl) (ev_hit hN75 rfl) ?_
          refine op_move (ev_hit hN75 rfl) ?_
          refine g_true (j := 7) (dj := 101) (b := true) rfl rfl rfl (ev_hit hN75 rfl) ?_
          refine op_move (ev_base hN75 rfl s75_6) ?_
          refine g_true (j := 7) (dj := 101) (b := true) rfl rfl rfl (ev_hit hN75 rfl) ?_
          refine op_fn (vs := [v12]) ok26 ⟨(ev_hit hN75 rfl), trivial⟩ (labMay_ret (normL l) _ _ (by first | assumption | omega | (simp only [List.length_append, List.length_cons, List.length_nil, List.length_drop, List.length_take]; omega) | (dsimp only; omega) | decide | (simp [keyV, be8_len]; done)) (show RdC w88 0 w88.heap.size 1 v12 (normL l).length ((normL l).map u16v) from by have hh : RdC w88 0 w88.heap.size 1 _ _ _ := (hO12.rdw.mono (L' := 0) (B' := w88.heap.size) (Nat.zero_le _) (by omega)); first | exact hh | exact hh.cast (by first | omega | (simp; try omega)) (by first | rfl | simp [u16v]))) ?_
          rintro _ w90 ⟨E91, rfl⟩
          have E91 := grown_of_below E91
          have z_w90 := E91.size
          have hrl := hrl.keep0 E91
          have hO12 := hO12.keep0 E91
          have hB45 := hB45.keep0 E91
          have hO49 := hO49.keep0 E91
          have hO53 := hO53.keep0 E91
          have hO66 := hO66.keep0 E91
          have hb := below_step0 hb E91 hb.size
          rcases Bool.eq_false_or_eq_true ((mayL (normL l))) with c103 | c103
          · -- 103T
           rw [c103]
           refine op_pick_t (ev_hit hN75 rfl) (ev_hit hN75 rfl) ?_
           refine op_move (ev_hit hN75 rfl) ?_
           refine g_true (j := 11) (dj := 105) (b := true) rfl rfl rfl (ev_hit hN75 rfl) ?_
           refine op_move (ev_base hN75 rfl s75_12) ?_
           refine op_pick_t (ev_hit hN75 rfl) (ev_hit hN75 rfl) ?_
           refine op_move (ev_hit hN75 rfl) ?_
           rcases Bool.eq_false_or_eq_true ((inL (l.getD (turn.toNat % l.length) 0) ((normL l).take i))) with g108 | g108
           · -- 108T
            rw [g108]
            refine g_true (j := 14) (dj := 108) (b := true) rfl rfl rfl (ev_hit hN75 rfl) ?_
            refine op_move (ev_base hN75 rfl s75_6) ?_
            refine g_true (j := 14) (dj := 108) (b := true) rfl rfl rfl (ev_hit hN75 rfl) ?_
            refine op_len_rd Try.underlying23 (ev_hit hN75 rfl) hO12.rdw ?_
            refine g_true (j := 14) (dj := 108) (b := true) rfl rfl rfl (ev_hit hN75 rfl) ?_
            refine op_move (ev_base hN75 rfl s75_0) ?_
            refine g_true (j := 14) (dj := 108) (b := true) rfl rfl rfl (ev_hit hN75 rfl) ?_
            refine op_len_rd Try.underlying22 (ev_hit hN75 rfl) hrl ?_
            refine g_true (j := 14) (dj := 108) (b := true) rfl rfl rfl (ev_hit hN75 rfl) ?_
            refine op_leq (ev_hit hN75 rfl) (ev_hit hN75 rfl) (fun c113 => ?_) (fun c113 => ?_)
            · -- 113T
             refine op_pick_t (ev_hit hN75 rfl) (ev_hit hN75 rfl) ?_
             refine op_assign (ev_hit hN75 rfl) ?_
             refine reg_nil ?_
             refine hK87 _ _ ?_
             refine wp_ret ?_
             refine ret1 rfl hd75 (ev_hit hN75 rfl) ⟨_, rfl, ?_⟩
             -- path 18F 22F 55F 59T 63F 79F 95T 99T 103T 108T 113T
             exact ⟨hb, rfl⟩
            · -- 113F
             exfalso; have := norm_le l; omega
           · -- 108F
            exact absurd (norm_in c63 hkt) (by rw [← in_take (i := i) (by omega), g108]; decide)
          · -- 103F
           exact absurd c103 (by rw [norm_may c63]; decide)
         · -- 99F
          exact absurd c99 (by rw [(norm_twice c63).2]; simp)
        · -- 95F
         exact absurd (norm_twice c63).1 c95
     · -- 59F
      exact absurd c59 (by rw [normL_turn hkt]; simp)

end Go.Proofs.Ytpmnljffdofkeaa

/- What the arguments of the laws are, told by their types. -/
namespace Go.Proofs.Ytpmnljffdofkeaa
open Go.Gx Go.RowKit
theorem rd_le {w : World} {L B sz n : Nat} {v : Value} {cs : List Value} (h : RdC w L B sz v n cs) : n ≤ 9223372036854775807 := by obtain ⟨_, _, _, _, hq, hm, _⟩ := h; exact Nat.le_trans hq hm
theorem cells35 : Try.prog.cellsOf 35 = 1 := by kernel_rfl
theorem flat_u16v (l : List UInt16) : l.flatMap (fun c => [u16v c]) = l.map u16v := by induction l with | nil => rfl | cons c l ih => simp [ih]
theorem dec23 {H : Type} {enc : TypeId × Value → H} {w : World} {base : Nat} {spare : Nat → Bool} {held : Bool} : Dec enc Try.prog w base spare held 23 (fun p : Value × List UInt16 => [p.1]) (fun p => RdC w 0 w.heap.size 1 p.1 p.2.length (p.2.map u16v)) :=
  (Dec.slice Try.underlying23 (by rw [cells35]; decide) (Dec.u16 Try.underlying35) (fun _ _ => by rw [cells35]; rfl)).map fun p hp => ⟨p, rfl, by have hq := hp.1; rwa [cells35, flat_u16v] at hq⟩
theorem dec22 {H : Type} {enc : TypeId × Value → H} {w : World} {base : Nat} {spare : Nat → Bool} {held : Bool} : Dec enc Try.prog w base spare held 22 (fun p : Value × List UInt16 => [p.1]) (fun p => RdC w 0 w.heap.size 1 p.1 p.2.length (p.2.map u16v)) :=
  (Dec.slice Try.underlying22 (by rw [cells35]; decide) (Dec.u16 Try.underlying35) (fun _ _ => by rw [cells35]; rfl)).map fun p hp => ⟨p, rfl, by have hq := hp.1; rwa [cells35, flat_u16v] at hq⟩
theorem cells5 : Try.prog.cellsOf 5 = 1 := by kernel_rfl
theorem flat_u8v (l : List UInt8) : l.flatMap (fun c => [u8v c]) = l.map u8v := by induction l with | nil => rfl | cons c l ih => simp [ih]
theorem dec39 {H : Type} {enc : TypeId × Value → H} {w : World} {base : Nat} {spare : Nat → Bool} {held : Bool} : Dec enc Try.prog w base spare held 39 (fun p : Value × List UInt8 => [p.1]) (fun p => RdC w 0 w.heap.size 1 p.1 p.2.length (p.2.map u8v)) :=
  (Dec.slice Try.underlying39 (by rw [cells5]; decide) (Dec.u8 Try.underlying5) (fun _ _ => by rw [cells5]; rfl)).map fun p hp => ⟨p, rfl, by have hq := hp.1; rwa [cells5, flat_u8v] at hq⟩
theorem cells23 : Try.prog.cellsOf 23 = 1 := by kernel_rfl
theorem dec49 {H : Type} {enc : TypeId × Value → H} {w : World} {base : Nat} {spare : Nat → Bool} {held : Bool} : Dec enc Try.prog w base spare held 49 (fun p : Value × List (Value × List UInt16) => [p.1]) (fun p => RdC w 0 w.heap.size 1 p.1 p.2.length (p.2.flatMap (fun (x9 : Value × List UInt16) => [x9.1])) ∧ ∀ x ∈ p.2, (RdC w 0 w.heap.size 1 x.1 x.2.length (x.2.map u16v))) :=
  (Dec.slice Try.underlying49 (by rw [cells23]; decide) dec23 (fun _ _ => by rw [cells23]; rfl)).map fun p hp => ⟨p, rfl, by have hq := hp.1; rw [cells23] at hq; exact hq, hp.2⟩
end Go.Proofs.Ytpmnljffdofkeaa
