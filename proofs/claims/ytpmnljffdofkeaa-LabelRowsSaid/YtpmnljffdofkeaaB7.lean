/- Walks, written by a program: what each function of the translation hands back. -/
import Derived.Test.YtpmnljffdofkeaaProg
import Derived.KernelRfl
import Derived.Test.YtpmnljffdofkeaaB6
namespace Go.Proofs.Ytpmnljffdofkeaa
open Go.Gx Go.RowKit
attribute [local irreducible] wpList wpStill Code.wp Calls

theorem begun1_ret (w : World) : Ret Try.prog 23 #[] w (fun v' w' => Below w.heap.size w w' ∧ v' = .bool true) := by
 have hz1 : (normL [3, 1, 3]).length = 2 := by decide +kernel
 have hz2 : (takeL [1, 0, 7]).1.length = 1 := by decide +kernel
 have hb := Below.refl w.heap.size w
 refine enter (N := 74) Try.func23 rfl rfl (by simp) fun a0 hN hd hA => ?_
 clear hA
 refine seq_any fun K1 hK1 => ?_
 refine one_reg ?_
 refine op_assign rfl ?_
 refine reg_nil ?_
 refine hK1 _ _ ?_
 refine seq_any fun K2 hK2 => ?_
 refine one_reg ?_
 refine op_bslice (e := 35) (pv := [(0, (Value.int .u16 3)), (1, (Value.int .u16 1)), (2, (Value.int .u16 3))]) (cs := [(Value.int .u16 3), (Value.int .u16 1), (Value.int .u16 3)]) ⟨rfl, rfl, ⟨rfl, rfl, ⟨rfl, rfl, trivial⟩⟩⟩ (by kernel_rfl) ?_
 intro w3 b4 lo_b4 hi_b4 hB6 E5
 have z_w3 := E5.size
 have hb := below_step0 hb E5 hb.size
 refine op_fn (vs := [(Value.slice (some ⟨b4, 0, none⟩) 3 3)]) ok24 ⟨(ev_hit hN rfl), trivial⟩ (normW_ret [3, 1, 3] _ _ (by first | assumption | omega | (simp only [List.length_append, List.length_cons, List.length_nil, List.length_drop, List.length_take]; omega) | (dsimp only; omega) | decide | (simp [keyV, be8_len]; done)) (show RdC w3 0 w3.heap.size 1 (Value.slice (some ⟨b4, 0, none⟩) 3 3) [3, 1, 3].length ([3, 1, 3].map u16v) from by have hh : RdC w3 0 w3.heap.size 1 _ _ _ := ((RdC.ofBx (sz := 1) (n := 3) hB6 rfl (by decide)).mono (L' := 0) (B' := w3.heap.size) (Nat.zero_le _) (by have := hB6.lt; omega)); first | exact hh | exact hh.cast (by first | omega | (simp; try omega)) (by first | rfl | simp [u16v]))) ?_
 rintro _ w8 ⟨E9, v7, rfl, hO7⟩
 have E9 := grown_of_below E9
 have z_w8 := E9.size
 have hB6 := hB6.keep0 E9
 have hb := below_step0 hb E9 hb.size
 have hO7 := hO7.mono (base' := w.heap.size) (by omega)
 have hnl7 := normL_len [3, 1, 3]
 refine op_move (ev_hit hN rfl) ?_
 refine op_extract (ev_hit hN rfl) rfl ?_
 refine op_extract (ev_hit hN rfl) rfl ?_
 refine op_assign (ev_hit hN rfl) ?_
 refine op_assign (ev_hit hN rfl) ?_
 refine reg_nil ?_
 refine hK2 _ _ ?_
 refine seq_any fun K10 hK10 => ?_
 refine one_reg ?_
 refine op_bslice (e := 5) (pv := [(0, (Value.int .u8 1)), (1, (Value.int .u8 0)), (2, (Value.int .u8 7))]) (cs := [(Value.int .u8 1), (Value.int .u8 0), (Value.int .u8 7)]) ⟨rfl, rfl, ⟨rfl, rfl, ⟨rfl, rfl, trivial⟩⟩⟩ (by kernel_rfl) ?_
 intro w11 b12 lo_b12 hi_b12 hB14 E13
 have z_w11 := E13.size
 have hB6 := hB6.keep0 E13
 have hO7 := hO7.keep0 E13
 have hb := below_step0 hb E13 hb.size
 have hq15 : RdC w11 0 w11.heap.size 1 (Value.slice (some ⟨b12, 0, none⟩) 3 3) [1, 0, 7].length ([1, 0, 7].map u8v) := by have hh : RdC w11 0 w11.heap.size 1 _ _ _ := ((RdC.ofBx (sz := 1) (n := 3) hB14 rfl (by decide)).mono (L' := 0) (B' := w11.heap.size) (Nat.zero_le _) (by have := hB14.lt; omega)); first | simpa using hh | simpa [Nat.add_comm, Nat.add_left_comm, Nat.add_assoc] using hh | exact hh.cast (by first | rfl | (simp; try omega)) (by first | rfl | (simp; done) | simp [u8v])
 refine op_fn (vs := [(Value.slice (some ⟨b12, 0, none⟩) 3 3)]) ok38 ⟨(ev_hit hN rfl), trivial⟩ (labTake_ret [1, 0, 7] (Value.slice (some ⟨b12, 0, none⟩) 3 3) _ (by first | assumption | omega | (simp only [List.length_append, List.length_cons, List.length_nil, List.length_drop, List.length_take]; omega) | (dsimp only; omega) | decide | (simp [keyV, be8_len]; done)) hq15) ?_
 rintro _ w17 ⟨E18, u16, rfl, hO16⟩
 have dj19 : DJ u16 v7 := fun k hk hg => by have q1 := (hO16.lt k hk).1; have q2 := (hO7.lt k hg).2; omega
 have E18 := grown_of_below E18
 have z_w17 := E18.size
 have hB6 := hB6.keep0 E18
 have hO7 := hO7.keep0 E18
 have hB14 := hB14.keep0 E18
 have hb := below_step0 hb E18 hb.size
 have hO16 := hO16.mono (base' := w11.heap.size) (by omega)
 refine op_move (ev_hit hN rfl) ?_
 refine op_extract (ev_hit hN rfl) rfl ?_
 refine op_extract (ev_hit hN rfl) rfl ?_
 refine op_extract (ev_hit hN rfl) rfl ?_
 refine op_assign (ev_hit hN rfl) ?_
 refine op_assign (ev_hit hN rfl) ?_
 refine op_assign (ev_hit hN rfl) ?_
 refine reg_nil ?_
 refine hK10 _ _ ?_
 refine seq_any fun K20 hK20 => ?_
 refine one_reg ?_
 refine op_move (ev_hit hN rfl) ?_
 refine op_eql (ev_hit hN rfl) rfl (fun c18 => ?_) (fun c18 => ?_)
 · -- 18T
  refine op_move (ev_hit hN rfl) ?_
  refine g_true (j := 2) (dj := 19) (b := true) rfl rfl rfl (ev_hit hN rfl) ?_
  refine op_move (ev_hit hN rfl) ?_
  refine g_true (j := 2) (dj := 19) (b := true) rfl rfl rfl (ev_hit hN rfl) ?_
  refine op_len_rd Try.underlying23 (ev_hit hN rfl) hO7.rdw ?_
  refine g_true (j := 2) (dj := 19) (b := true) rfl rfl rfl (ev_hit hN rfl) ?_
  refine op_eql (ev_hit hN rfl) rfl (fun c22 => ?_) (fun c22 => ?_)
  · -- 22T
   refine op_pick_t (ev_hit hN rfl) (ev_hit hN rfl) ?_
   refine op_move (ev_hit hN rfl) ?_
   refine g_true (j := 7) (dj := 24) (b := true) rfl rfl rfl (ev_hit hN rfl) ?_
   refine op_move (ev_hit hN rfl) ?_
   refine g_true (j := 7) (dj := 24) (b := true) rfl rfl rfl (ev_hit hN rfl) ?_
   refine op_index_rd slt23 (ev_hit hN rfl) hO7.rdw rfl (by omega) (by omega) ?_
   intro b21 o22 h0b21 h1b21 hc23
   refine g_true (j := 7) (dj := 24) (b := true) rfl rfl rfl (ev_hit hN rfl) ?_
   refine op_load1 (v := (Value.int .u16 (((normL [3, 1, 3]).getD 0 0).toNat : Int))) one35 (ev_hit hN rfl) (by have := hc23 0 (Value.int .u16 (((normL [3, 1, 3]).getD 0 0).toNat : Int)) (by decide) (el_u16 (i := 0) (by omega) (by omega)); simpa using this) ?_
   refine g_true (j := 7) (dj := 24) (b := true) rfl rfl rfl (ev_hit hN rfl) ?_
   refine op_eql (ev_hit hN rfl) rfl (fun c28 => ?_) (fun c28 => ?_)
   · -- 28T
    refine op_pick_t (ev_hit hN rfl) (ev_hit hN rfl) ?_
    refine op_move (ev_hit hN rfl) ?_
    refine g_true (j := 13) (dj := 30) (b := true) rfl rfl rfl (ev_hit hN rfl) ?_
    refine op_move (ev_hit hN rfl) ?_
    refine g_true (j := 13) (dj := 30) (b := true) rfl rfl rfl (ev_hit hN rfl) ?_
    refine op_fn (vs := [v7]) ok26 ⟨(ev_hit hN rfl), trivial⟩ (labMay_ret (normL [3, 1, 3]) _ _ (by first | assumption | omega | (simp only [List.length_append, List.length_cons, List.length_nil, List.length_drop, List.length_take]; omega) | (dsimp only; omega) | decide | (simp [keyV, be8_len]; done)) (show RdC w17 0 w17.heap.size 1 v7 (normL [3, 1, 3]).length ((normL [3, 1, 3]).map u16v) from by have hh : RdC w17 0 w17.heap.size 1 _ _ _ := (hO7.rdw.mono (L' := 0) (B' := w17.heap.size) (Nat.zero_le _) (by omega)); first | exact hh | exact hh.cast (by first | omega | (simp; try omega)) (by first | rfl | simp [u16v]))) ?_
    rintro _ w24 ⟨E25, rfl⟩
    have E25 := grown_of_below E25
    have z_w24 := E25.size
    have hB6 := hB6.keep0 E25
    have hO7 := hO7.keep0 E25
    have hB14 := hB14.keep0 E25
    have hO16 := hO16.keep0 E25
    have hb := below_step0 hb E25 hb.size
    rcases Bool.eq_false_or_eq_true ((mayL (normL [3, 1, 3]))) with c32 | c32
    · -- 32T
     rw [c32]
     refine op_pick_t (ev_hit hN rfl) (ev_hit hN rfl) ?_
     refine op_move (ev_hit hN rfl) ?_
     refine g_true (j := 17) (dj := 34) (b := true) rfl rfl rfl (ev_hit hN rfl) ?_
     refine op_move (ev_hit hN rfl) ?_
     refine g_true (j := 17) (dj := 34) (b := true) rfl rfl rfl (ev_hit hN rfl) ?_
     refine op_fn (vs := [(Value.slice none 0 0), v7]) ok27 ⟨rfl, ⟨(ev_hit hN rfl), trivial⟩⟩ (flowsW_ret ([] : Lb) (normL [3, 1, 3]) _ _ _ (by first | assumption | omega | (simp only [List.length_append, List.length_cons, List.length_nil, List.length_drop, List.length_take]; omega) | (dsimp only; omega) | decide | (simp [keyV, be8_len]; done)) (by first | assumption | omega | (simp only [List.length_append, List.length_cons, List.length_nil, List.length_drop, List.length_take]; omega) | (dsimp only; omega) | decide | (simp [keyV, be8_len]; done)) (show RdC w24 0 w24.heap.size 1 (Value.slice none 0 0) ([] : Lb).length (([] : Lb).map u16v) from by have hh : RdC w24 0 w24.heap.size 1 _ _ _ := ((RdC.nil _ 0 0 1).mono (L' := 0) (B' := w24.heap.size) (Nat.zero_le _) (by omega)); first | exact hh | exact hh.cast (by first | omega | (simp; try omega)) (by first | rfl | simp [u16v])) (show RdC w24 0 w24.heap.size 1 v7 (normL [3, 1, 3]).length ((normL [3, 1, 3]).map u16v) from by have hh : RdC w24 0 w24.heap.size 1 _ _ _ := (hO7.rdw.mono (L' := 0) (B' := w24.heap.size) (Nat.zero_le _) (by omega)); first | exact hh | exact hh.cast (by first | omega | (simp; try omega)) (by first | rfl | simp [u16v]))) ?_
     rintro _ w26 ⟨E27, rfl⟩
     have E27 := grown_of_below E27
     have z_w26 := E27.size
     have hB6 := hB6.keep0 E27
     have hO7 := hO7.keep0 E27
     have hB14 := hB14.keep0 E27
     have hO16 := hO16.keep0 E27
     have hb := below_step0 hb E27 hb.size
     rcases Bool.eq_false_or_eq_true ((flowsL ([] : Lb) (normL [3, 1, 3]))) with c36 | c36
     · -- 36T
      rw [c36]
      refine op_pick_t (ev_hit hN rfl) (ev_hit hN rfl) ?_
      refine op_move (ev_hit hN rfl) ?_
      refine g_true (j := 21) (dj := 38) (b := true) rfl rfl rfl (ev_hit hN rfl) ?_
      refine op_move (ev_hit hN rfl) ?_
      refine g_true (j := 21) (dj := 38) (b := true) rfl rfl rfl (ev_hit hN rfl) ?_
      refine op_fn (vs := [v7, (Value.slice none 0 0)]) ok27 ⟨(ev_hit hN rfl), ⟨rfl, trivial⟩⟩ (flowsW_ret (normL [3, 1, 3]) ([] : Lb) _ _ _ (by first | assumption | omega | (simp only [List.length_append, List.length_cons, List.length_nil, List.length_drop, List.length_take]; omega) | (dsimp only; omega) | decide | (simp [keyV, be8_len]; done)) (by first | assumption | omega | (simp only [List.length_append, List.length_cons, List.length_nil, List.length_drop, List.length_take]; omega) | (dsimp only; omega) | decide | (simp [keyV, be8_len]; done)) (show RdC w26 0 w26.heap.size 1 v7 (normL [3, 1, 3]).length ((normL [3, 1, 3]).map u16v) from by have hh : RdC w26 0 w26.heap.size 1 _ _ _ := (hO7.rdw.mono (L' := 0) (B' := w26.heap.size) (Nat.zero_le _) (by omega)); first | exact hh | exact hh.cast (by first | omega | (simp; try omega)) (by first | rfl | simp [u16v])) (show RdC w26 0 w26.heap.size 1 (Value.slice none 0 0) ([] : Lb).length (([] : Lb).map u16v) from by have hh : RdC w26 0 w26.heap.size 1 _ _ _ := ((RdC.nil _ 0 0 1).mono (L' := 0) (B' := w26.heap.size) (Nat.zero_le _) (by omega)); first | exact hh | exact hh.cast (by first | omega | (simp; try omega)) (by first | rfl | simp [u16v]))) ?_
      rintro _ w28 ⟨E29, rfl⟩
      have E29 := grown_of_below E29
      have z_w28 := E29.size
      have hB6 := hB6.keep0 E29
      have hO7 := hO7.keep0 E29
      have hB14 := hB14.keep0 E29
      have hO16 := hO16.keep0 E29
      have hb := below_step0 hb E29 hb.size
      rcases Bool.eq_false_or_eq_true ((flowsL (normL [3, 1, 3]) ([] : Lb))) with c40 | c40
      · -- 40T
       exact absurd c40 (by decide +kernel)
      · -- 40F
       rw [c40]
       refine g_true (j := 21) (dj := 38) (b := true) rfl rfl rfl (ev_hit hN rfl) ?_
       refine op_not (ev_hit hN rfl) ?_
       refine op_pick_t (ev_hit hN rfl) (ev_hit hN rfl) ?_
       refine op_move (ev_hit hN rfl) ?_
       refine g_true (j := 26) (dj := 43) (b := true) rfl rfl rfl (ev_hit hN rfl) ?_
       refine op_move (ev_hit hN rfl) ?_
       refine g_true (j := 26) (dj := 43) (b := true) rfl rfl rfl (ev_hit hN rfl) ?_
       refine op_bslice (e := 35) (pv := [(0, (Value.int .u16 2))]) (cs := [(Value.int .u16 2)]) ⟨rfl, rfl, trivial⟩ (by kernel_rfl) ?_
       intro w30 b31 lo_b31 hi_b31 hB33 E32
       have ne_b31_v7 : v7.ownBlock ≠ some b31 := fun hh => by have := (hO7.lt _ hh).2; omega
       have ne_b31_u16 : u16.ownBlock ≠ some b31 := fun hh => by have := (hO16.lt _ hh).2; omega
       have z_w30 := E32.size
       have hB6 := hB6.keep0 E32
       have hO7 := hO7.keep0 E32
       have hB14 := hB14.keep0 E32
       have hO16 := hO16.keep0 E32
       have hb := below_step0 hb E32 hb.size
       have hz3 := join_len (normL [3, 1, 3]) [2]
       have hz4 : (joinL (normL [3, 1, 3]) [2]).length = 3 := by decide +kernel
       refine g_true (j := 26) (dj := 43) (b := true) rfl rfl rfl (ev_hit hN rfl) ?_
       refine op_fn (vs := [v7, (Value.slice (some ⟨b31, 0, none⟩) 1 1)]) ok28 ⟨(ev_hit hN rfl), ⟨(ev_hit hN rfl), trivial⟩⟩ (joinW_ret (normL [3, 1, 3]) [2] _ _ _ (by first | assumption | omega | (simp only [List.length_append, List.length_cons, List.length_nil, List.length_drop, List.length_take]; omega) | (dsimp only; omega) | decide | (simp [keyV, be8_len]; done)) (by first | assumption | omega | (simp only [List.length_append, List.length_cons, List.length_nil, List.length_drop, List.length_take]; omega) | (dsimp only; omega) | decide | (simp [keyV, be8_len]; done)) (show RdC w30 0 w30.heap.size 1 v7 (normL [3, 1, 3]).length ((normL [3, 1, 3]).map u16v) from by have hh : RdC w30 0 w30.heap.size 1 _ _ _ := (hO7.rdw.mono (L' := 0) (B' := w30.heap.size) (Nat.zero_le _) (by omega)); first | exact hh | exact hh.cast (by first | omega | (simp; try omega)) (by first | rfl | simp [u16v])) (show RdC w30 0 w30.heap.size 1 (Value.slice (some ⟨b31, 0, none⟩) 1 1) [2].length ([2].map u16v) from by have hh : RdC w30 0 w30.heap.size 1 _ _ _ := ((RdC.ofBx (sz := 1) (n := 1) hB33 rfl (by decide)).mono (L' := 0) (B' := w30.heap.size) (Nat.zero_le _) (by have := hB33.lt; omega)); first | exact hh | exact hh.cast (by first | omega | (simp; try omega)) (by first | rfl | simp [u16v]))) ?_
       rintro v34 w35 ⟨E36, hO34⟩
       have dj37 : DJ v34 v7 := fun k hk hg => by have q1 := (hO34.lt k hk).1; have q2 := (hO7.lt k hg).2; omega
       have dj38 : DJ v34 u16 := fun k hk hg => by have q1 := (hO34.lt k hk).1; have q2 := (hO16.lt k hg).2; omega
       have E36 := grown_of_below E36
       have z_w35 := E36.size
       have hB6 := hB6.keep0 E36
       have hO7 := hO7.keep0 E36
       have hB14 := hB14.keep0 E36
       have hO16 := hO16.keep0 E36
       have hB33 := hB33.keep0 E36
       have hb := below_step0 hb E36 hb.size
       have hO34 := hO34.mono (base' := w.heap.size) (by omega)
       refine g_true (j := 26) (dj := 43) (b := true) rfl rfl rfl (ev_hit hN rfl) ?_
       refine op_len_rd Try.underlying23 (ev_hit hN rfl) hO34.rdw ?_
       refine g_true (j := 26) (dj := 43) (b := true) rfl rfl rfl (ev_hit hN rfl) ?_
       refine op_eql (ev_hit hN rfl) rfl (fun c48 => ?_) (fun c48 => ?_)
       · -- 48T
        refine op_pick_t (ev_hit hN rfl) (ev_hit hN rfl) ?_
        refine op_move (ev_hit hN rfl) ?_
        refine g_true (j := 33) (dj := 50) (b := true) rfl rfl rfl (ev_hit hN rfl) ?_
        refine op_move (ev_hit hN rfl) ?_
        refine g_true (j := 33) (dj := 50) (b := true) rfl rfl rfl (ev_hit hN rfl) ?_
        refine op_eql (ev_hit hN rfl) rfl (fun c52 => ?_) (fun c52 => ?_)
        · -- 52T
         refine op_pick_t (ev_hit hN rfl) (ev_hit hN rfl) ?_
         refine op_move (ev_hit hN rfl) ?_
         refine g_true (j := 37) (dj := 54) (b := true) rfl rfl rfl (ev_hit hN rfl) ?_
         refine op_move (ev_hit hN rfl) ?_
         refine g_true (j := 37) (dj := 54) (b := true) rfl rfl rfl (ev_hit hN rfl) ?_
         refine op_eql (ev_hit hN rfl) rfl (fun c56 => ?_) (fun c56 => ?_)
         · -- 56T
          refine op_pick_t (ev_hit hN rfl) (ev_hit hN rfl) ?_
          refine op_move (ev_hit hN rfl) ?_
          refine g_true (j := 41) (dj := 58) (b := true) rfl rfl rfl (ev_hit hN rfl) ?_
          refine op_move (ev_hit hN rfl) ?_
          refine g_true (j := 41) (dj := 58) (b := true) rfl rfl rfl (ev_hit hN rfl) ?_
          refine op_len_rd Try.underlying23 (ev_hit hN rfl) hO16.rdw ?_
          refine g_true (j := 41) (dj := 58) (b := true) rfl rfl rfl (ev_hit hN rfl) ?_
          refine op_eql (ev_hit hN rfl) rfl (fun c61 => ?_) (fun c61 => ?_)
          · -- 61T
           refine op_pick_t (ev_hit hN rfl) (ev_hit hN rfl) ?_
           refine op_move (ev_hit hN rfl) ?_
           refine g_true (j := 46) (dj := 63) (b := true) rfl rfl rfl (ev_hit hN rfl) ?_
           refine op_move (ev_hit hN rfl) ?_
           refine g_true (j := 46) (dj := 63) (b := true) rfl rfl rfl (ev_hit hN rfl) ?_
           refine op_index_rd slt23 (ev_hit hN rfl) hO16.rdw rfl (by omega) (by omega) ?_
           intro b39 o40 h0b39 h1b39 hc41
           refine g_true (j := 46) (dj := 63) (b := true) rfl rfl rfl (ev_hit hN rfl) ?_
           refine op_load1 (v := (Value.int .u16 (((takeL [1, 0, 7]).1.getD 0 0).toNat : Int))) one35 (ev_hit hN rfl) (by have := hc41 0 (Value.int .u16 (((takeL [1, 0, 7]).1.getD 0 0).toNat : Int)) (by decide) (el_u16 (i := 0) (by omega) (by omega)); simpa using this) ?_
           refine g_true (j := 46) (dj := 63) (b := true) rfl rfl rfl (ev_hit hN rfl) ?_
           refine op_eql (ev_hit hN rfl) rfl (fun c67 => ?_) (fun c67 => ?_)
           · -- 67T
            refine op_pick_t (ev_hit hN rfl) (ev_hit hN rfl) ?_
            refine op_move (ev_hit hN rfl) ?_
            refine g_true (j := 52) (dj := 69) (b := true) rfl rfl rfl (ev_hit hN rfl) ?_
            refine op_move (ev_hit hN rfl) ?_
            refine g_true (j := 52) (dj := 69) (b := true) rfl rfl rfl (ev_hit hN rfl) ?_
            refine op_fn (vs := [(Value.slice none 0 0), v7]) ok31 ⟨rfl, ⟨(ev_hit hN rfl), trivial⟩⟩ (lcmpW_ret ([] : Lb) (normL [3, 1, 3]) _ _ _ (by first | assumption | omega | (simp only [List.length_append, List.length_cons, List.length_nil, List.length_drop, List.length_take]; omega) | (dsimp only; omega) | decide | (simp [keyV, be8_len]; done)) (by first | assumption | omega | (simp only [List.length_append, List.length_cons, List.length_nil, List.length_drop, List.length_take]; omega) | (dsimp only; omega) | decide | (simp [keyV, be8_len]; done)) (show RdC w35 0 w35.heap.size 1 (Value.slice none 0 0) ([] : Lb).length (([] : Lb).map u16v) from by have hh : RdC w35 0 w35.heap.size 1 _ _ _ := ((RdC.nil _ 0 0 1).mono (L' := 0) (B' := w35.heap.size) (Nat.zero_le _) (by omega)); first | exact hh | exact hh.cast (by first | omega | (simp; try omega)) (by first | rfl | simp [u16v])) (show RdC w35 0 w35.heap.size 1 v7 (normL [3, 1, 3]).length ((normL [3, 1, 3]).map u16v) from by have hh : RdC w35 0 w35.heap.size 1 _ _ _ := (hO7.rdw.mono (L' := 0) (B' := w35.heap.size) (Nat.zero_le _) (by omega)); first | exact hh | exact hh.cast (by first | omega | (simp; try omega)) (by first | rfl | simp [u16v]))) ?_
            rintro _ w42 ⟨E43, rfl⟩
            have E43 := grown_of_below E43
            have z_w42 := E43.size
            have hB6 := hB6.keep0 E43
            have hO7 := hO7.keep0 E43
            have hB14 := hB14.keep0 E43
            have hO16 := hO16.keep0 E43
            have hB33 := hB33.keep0 E43
            have hO34 := hO34.keep0 E43
            have hb := below_step0 hb E43 hb.size
            refine g_true (j := 52) (dj := 69) (b := true) rfl rfl rfl (ev_hit hN rfl) ?_
            refine op_eql (ev_hit hN rfl) rfl (fun c72 => ?_) (fun c72 => ?_)
            · -- 72T
             refine op_pick_t (ev_hit hN rfl) (ev_hit hN rfl) ?_
             refine op_assign (ev_hit hN rfl) ?_
             refine reg_nil ?_
             refine hK20 _ _ ?_
             refine wp_ret ?_
             refine ret1 rfl hd (ev_hit hN rfl) ⟨_, rfl, ?_⟩
             -- path 18T 22T 28T 32T 36T 40F 48T 52T 56T 61T 67T 72T
             exact ⟨hb, rfl⟩
            · -- 72F
             exact absurd c72 (by decide +kernel)
           · -- 67F
            exact absurd c67 (by decide +kernel)
          · -- 61F
           exact absurd c61 (by decide +kernel)
         · -- 56F
          exact absurd c56 (by decide +kernel)
        · -- 52F
         exact absurd c52 (by decide +kernel)
       · -- 48F
        exact absurd c48 (by decide +kernel)
     · -- 36F
      exact absurd c36 (by decide +kernel)
    · -- 32F
     exact absurd c32 (by decide +kernel)
   · -- 28F
    exact absurd c28 (by decide +kernel)
  · -- 22F
   exact absurd c22 (by decide +kernel)
 · -- 18F
  exact absurd c18 (by decide +kernel)

theorem LabelMakes_ret (l : Lb) (vl : Value) (w : World) (hll : l.length ≤ 9223372036854775807) (hrl : RdC w 0 w.heap.size 1 vl l.length (l.map u16v)) : Ret Try.prog 6 #[vl] w (fun v' w' => Below w.heap.size w w' ∧ v' = .bool true) := by
 have hb := Below.refl w.heap.size w
 refine enter (N := 58) Try.func6 rfl rfl (by simp) fun a0 hN hd hA => ?_
 have s0 : a0.tmps.getD 0 undef = vl := hA 0 (by simp)
 clear hA
 refine seq_any fun K44 hK44 => ?_
 refine one_reg ?_
 refine op_assign rfl ?_
 refine reg_nil ?_
 refine hK44 _ _ ?_
 refine seq_any fun K45 hK45 => ?_
 refine seq_any fun K46 hK46 => ?_
 refine one_reg ?_
 refine op_fn (vs := []) ok23 trivial (begun1_ret _) ?_
 rintro _ w47 ⟨E48, rfl⟩
 have E48 := grown_of_below E48
 have z_w47 := E48.size
 have hrl := hrl.keep0 E48
 have hb := below_step0 hb E48 hb.size
 refine op_not (ev_hit hN rfl) ?_
 refine reg_nil ?_
 refine hK46 _ _ ?_
 refine wp_cond_false (ev_hit hN rfl) ?_
 refine wp_skip ?_
 refine hK45 _ _ ?_
 refine seq_any fun K49 hK49 => ?_
 refine seq_any fun K50 hK50 => ?_
 refine one_reg ?_
 refine op_move (ev_base hN rfl s0) ?_
 refine op_len_rd Try.underlying22 (ev_hit hN rfl) hrl ?_
 refine op_gtr (ev_hit hN rfl) rfl (fun c14 => ?_) (fun c14 => ?_)
 · -- 14T
  refine reg_nil ?_
  refine hK50 _ _ ?_
  refine wp_cond_true (ev_hit hN rfl) ?_
  refine seq_any fun K51 hK51 => ?_
  refine one_reg ?_
  refine op_assign rfl ?_
  refine reg_nil ?_
  refine hK51 _ _ ?_
  refine wp_ret (then_ret ( ?_))
  refine ret1 rfl hd (ev_hit hN rfl) ⟨_, rfl, ?_⟩
  -- path 14T
  exact ⟨hb, rfl⟩
 · -- 14F
  refine reg_nil ?_
  refine hK50 _ _ ?_
  refine wp_cond_false (ev_hit hN rfl) ?_
  refine wp_skip ?_
  refine hK49 _ _ ?_
  refine seq_any fun K52 hK52 => ?_
  refine one_reg ?_
  refine op_bslice (e := 35) (pv := []) (cs := []) trivial (by kernel_rfl) ?_
  intro w53 b54 lo_b54 hi_b54 hB56 E55
  have z_w53 := E55.size
  have hrl := hrl.keep0 E55
  have hb := below_step0 hb E55 hb.size
  refine op_move (ev_base hN rfl s0) ?_
  have hP62 := (Own.ofBx (base := w.heap.size) (sz := 1) (n := 0) hB56 rfl (by decide) (by omega))
  refine op_append slt22 (ev_hit hN rfl) hP62 (ev_hit hN rfl) (Src.ofRd Try.underlying22 (by decide) hrl (one_u16 _)) (by unfold maxLen; omega) (by omega) hb.size ?_
  intro v57 w58 hO60 E59 hm61
  have z_w58 := E59.size
  have hrl := hrl.keepO hP62 E59 (by omega)
  have hb := below_stepO hb hP62 E59 hb.size (by omega)
  have hO60 : Own w58 w.heap.size 35 1 v57 (0 + l.length) ((l).map u16v) := by simpa [u8v, u16v, cellsV] using hO60
  refine op_assign (ev_hit hN rfl) ?_
  refine reg_nil ?_
  refine hK52 _ _ ?_
  refine seq_any fun K63 hK63 => ?_
  refine one_reg ?_
  refine op_move (ev_base hN rfl s0) ?_
  refine op_fn (vs := [vl]) ok24 ⟨(ev_hit hN rfl), trivial⟩ (normW_ret l _ _ (by first | assumption | omega | (simp only [List.length_append, List.length_cons, List.length_nil, List.length_drop, List.length_take]; omega) | (dsimp only; omega) | decide | (simp [keyV, be8_len]; done)) (show RdC w58 0 w58.heap.size 1 vl l.length (l.map u16v) from by have hh : RdC w58 0 w58.heap.size 1 _ _ _ := (hrl.mono (L' := 0) (B' := w58.heap.size) (Nat.zero_le _) (by omega)); first | exact hh | exact hh.cast (by first | omega | (simp; try omega)) (by first | rfl | simp [u16v]))) ?_
  rintro _ w65 ⟨E66, v64, rfl, hO64⟩
  have dj67 : DJ v64 v57 := fun k hk hg => by have q1 := (hO64.lt k hk).1; have q2 := (hO60.lt k hg).2; omega
  have E66 := grown_of_below E66
  have z_w65 := E66.size
  have hrl := hrl.keep0 E66
  have hO60 := hO60.keep0 E66
  have hb := below_step0 hb E66 hb.size
  have hO64 := hO64.mono (base' := w.heap.size) (by omega)
  have hnl64 := normL_len l
  refine op_move (ev_hit hN rfl) ?_
  refine op_extract (ev_hit hN rfl) rfl ?_
  refine op_extract (ev_hit hN rfl) rfl ?_
  refine op_assign (ev_hit hN rfl) ?_
  refine op_assign (ev_hit hN rfl) ?_
  refine reg_nil ?_
  refine hK63 _ _ ?_
  refine seq_any fun K68 hK68 => ?_
  refine one_reg ?_
  refine op_move (ev_hit hN rfl) ?_
  refine op_fn (vs := [v57]) ok25 ⟨(ev_hit hN rfl), trivial⟩ (rnormW_ret l _ _ (by first | assumption | omega | (simp only [List.length_append, List.length_cons, List.length_nil, List.length_drop, List.length_take]; omega) | (dsimp only; omega) | decide | (simp [keyV, be8_len]; done)) (show RdC w65 0 w65.heap.size 1 v57 l.length (l.map u16v) from by have hh : RdC w65 0 w65.heap.size 1 _ _ _ := (hO60.rdw.mono (L' := 0) (B' := w65.heap.size) (Nat.zero_le _) (by omega)); first | exact hh | exact hh.cast (by first | omega | (simp; try omega)) (by first | rfl | simp [u16v]))) ?_
  rintro _ w70 ⟨E71, v69, rfl, hO69⟩
  have dj72 : DJ v69 v57 := fun k hk hg => by have q1 := (hO69.lt k hk).1; have q2 := (hO60.lt k hg).2; omega
  have dj73 : DJ v69 v64 := fun k hk hg => by have q1 := (hO69.lt k hk).1; have q2 := (hO64.lt k hg).2; omega
  have E71 := grown_of_below E71
  have z_w70 := E71.size
  have hrl := hrl.keep0 E71
  have hO60 := hO60.keep0 E71
  have hO64 := hO64.keep0 E71
  have hb := below_step0 hb E71 hb.size
  have hO69 := hO69.mono (base' := w.heap.size) (by omega)
  have hnl69 := normL_len l
  refine op_move (ev_hit hN rfl) ?_
  refine op_extract (ev_hit hN rfl) rfl ?_
  refine op_extract (ev_hit hN rfl) rfl ?_
  refine op_assign (ev_hit hN rfl) ?_
  refine op_assign (ev_hit hN rfl) ?_
  refine reg_nil ?_
  refine hK68 _ _ ?_
  refine seq_any fun K74 hK74 => ?_
  refine one_reg ?_
  refine op_move (ev_hit hN rfl) ?_
  refine op_move (ev_hit hN rfl) ?_
  refine op_eql (ev_hit hN rfl) (ev_hit hN rfl) (fun c30 => ?_) (fun c30 => ?_)
  · -- 30T
   refine op_move (ev_hit hN rfl) ?_
   refine g_true (j := 3) (dj := 31) (b := true) rfl rfl rfl (ev_hit hN rfl) ?_
   refine op_move (ev_hit hN rfl) ?_
   refine g_true (j := 3) (dj := 31) (b := true) rfl rfl rfl (ev_hit hN rfl) ?_
   refine op_move (ev_hit hN rfl) ?_
   refine g_true (j := 3) (dj := 31) (b := true) rfl rfl rfl (ev_hit hN rfl) ?_
   refine op_fn (vs := [v64, v69]) ok19 ⟨(ev_hit hN rfl), ⟨(ev_hit hN rfl), trivial⟩⟩ (sameL_ret (normL l) (normL l) _ _ _ (by first | assumption | omega | (simp only [List.length_append, List.length_cons, List.length_nil, List.length_drop, List.length_take]; omega) | (dsimp only; omega) | decide | (simp [keyV, be8_len]; done)) (by first | assumption | omega | (simp only [List.length_append, List.length_cons, List.length_nil, List.length_drop, List.length_take]; omega) | (dsimp only; omega) | decide | (simp [keyV, be8_len]; done)) (show RdC w70 0 w70.heap.size 1 v64 (normL l).length ((normL l).map u16v) from by have hh : RdC w70 0 w70.heap.size 1 _ _ _ := (hO64.rdw.mono (L' := 0) (B' := w70.heap.size) (Nat.zero_le _) (by omega)); first | exact hh | exact hh.cast (by first | omega | (simp; try omega)) (by first | rfl | simp [u16v])) (show RdC w70 0 w70.heap.size 1 v69 (normL l).length ((normL l).map u16v) from by have hh : RdC w70 0 w70.heap.size 1 _ _ _ := (hO69.rdw.mono (L' := 0) (B' := w70.heap.size) (Nat.zero_le _) (by omega)); first | exact hh | exact hh.cast (by first | omega | (simp; try omega)) (by first | rfl | simp [u16v]))) ?_
   rintro _ w75 ⟨E76, rfl⟩
   have E76 := grown_of_below E76
   have z_w75 := E76.size
   have hrl := hrl.keep0 E76
   have hO60 := hO60.keep0 E76
   have hO64 := hO64.keep0 E76
   have hO69 := hO69.keep0 E76
   have hb := below_step0 hb E76 hb.size
   rcases Bool.eq_false_or_eq_true ((decide ((normL l) = (normL l)))) with c34 | c34
   · -- 34T
    rw [c34]
    refine op_pick_t (ev_hit hN rfl) (ev_hit hN rfl) ?_
    refine op_move (ev_hit hN rfl) ?_
    refine g_true (j := 8) (dj := 36) (b := true) rfl rfl rfl (ev_hit hN rfl) ?_
    refine op_move (ev_base hN rfl s0) ?_
    refine g_true (j := 8) (dj := 36) (b := true) rfl rfl rfl (ev_hit hN rfl) ?_
    refine op_fn (vs := [vl]) ok26 ⟨(ev_hit hN rfl), trivial⟩ (labMay_ret l _ _ (by first | assumption | omega | (simp only [List.length_append, List.length_cons, List.length_nil, List.length_drop, List.length_take]; omega) | (dsimp only; omega) | decide | (simp [keyV, be8_len]; done)) (show RdC w75 0 w75.heap.size 1 vl l.length (l.map u16v) from by have hh : RdC w75 0 w75.heap.size 1 _ _ _ := (hrl.mono (L' := 0) (B' := w75.heap.size) (Nat.zero_le _) (by omega)); first | exact hh | exact hh.cast (by first | omega | (simp; try omega)) (by first | rfl | simp [u16v]))) ?_
    rintro _ w77 ⟨E78, rfl⟩
    have E78 := grown_of_below E78
    have z_w77 := E78.size
    have hrl := hrl.keep0 E78
    have hO60 := hO60.keep0 E78
    have hO64 := hO64.keep0 E78
    have hO69 := hO69.keep0 E78
    have hb := below_step0 hb E78 hb.size
    refine g_true (j := 8) (dj := 36) (b := true) rfl rfl rfl (ev_hit hN rfl) ?_
    refine op_move (ev_hit hN rfl) ?_
    refine g_true (j := 8) (dj := 36) (b := true) rfl rfl rfl (ev_hit hN rfl) ?_
    refine op_fn (vs := [v57]) ok13 ⟨(ev_hit hN rfl), trivial⟩ (refMay_ret l _ _ (by first | assumption | omega | (simp only [List.length_append, List.length_cons, List.length_nil, List.length_drop, List.length_take]; omega) | (dsimp only; omega) | decide | (simp [keyV, be8_len]; done)) (show RdC w77 0 w77.heap.size 1 v57 l.length (l.map u16v) from by have hh : RdC w77 0 w77.heap.size 1 _ _ _ := (hO60.rdw.mono (L' := 0) (B' := w77.heap.size) (Nat.zero_le _) (by omega)); first | exact hh | exact hh.cast (by first | omega | (simp; try omega)) (by first | rfl | simp [u16v]))) ?_
    rintro _ w79 ⟨E80, rfl⟩
    have E80 := grown_of_below E80
    have z_w79 := E80.size
    have hrl := hrl.keep0 E80
    have hO60 := hO60.keep0 E80
    have hO64 := hO64.keep0 E80
    have hO69 := hO69.keep0 E80
    have hb := below_step0 hb E80 hb.size
    refine g_true (j := 8) (dj := 36) (b := true) rfl rfl rfl (ev_hit hN rfl) ?_
    refine op_eqb Try.underlying4 (ev_hit hN rfl) (ev_hit hN rfl) ?_
    rcases Bool.eq_false_or_eq_true (((mayL l) == (mayL l))) with c41 | c41
    · -- 41T
     rw [c41]
     refine op_pick_t (ev_hit hN rfl) (ev_hit hN rfl) ?_
     refine op_assign (ev_hit hN rfl) ?_
     refine reg_nil ?_
     refine hK74 _ _ ?_
     refine seq_any fun K81 hK81 => ?_
     refine seq_any fun K82 hK82 => ?_
     refine one_reg ?_
     refine op_assign rfl ?_
     refine reg_nil ?_
     refine hK82 _ _ ?_
     refine wp_block ?_
     refine loop_m (fun mz_ az_ w' => ∃ (i : Nat) (cs1 : List Value), mz_ = (normL l).length - i ∧ (az_.tmps.getD 0 undef = vl) ∧ (az_.tmps.getD 2 undef = (Value.bool false)) ∧ (az_.tmps.getD 3 undef = v57) ∧ (az_.tmps.getD 4 undef = v64) ∧ (az_.tmps.getD 8 undef = (Value.bool true)) ∧ (az_.tmps.getD 9 undef = (Value.int .i64 ((i : Nat) : Int))) ∧ (i ≤ (normL l).length) ∧ (Below w.heap.size w w') ∧ (w79.heap.size ≤ w'.heap.size) ∧ (RdC w' 0 w.heap.size 1 vl l.length (l.map u16v)) ∧ (Own w' w.heap.size 35 1 v57 (0 + l.length) ((l).map u16v)) ∧ (Own w' w.heap.size 35 1 v69 (normL l).length ((normL l).map u16v)) ∧ (Own w' w.heap.size 35 1 v64 (normL l).length (cs1))) _ hN hd ⟨0, _, rfl, (sl_base hN rfl s0), (sl_hit hN rfl), (sl_hit hN rfl), (sl_hit hN rfl), (sl_hit hN rfl), (sl_hit hN rfl).trans (congrArg (Value.int .i64) (by omega)), Nat.zero_le _, hb, (Nat.le_refl _), hrl, hO60, hO69, hO64⟩ ?_
     rintro _ a83 w83 hN83 hd83 ⟨i, cs1, rfl, s83_0, s83_2, s83_3, s83_4, s83_8, s83_9, hi, hb, zl_w83, hrl, hO60, hO69, hO84⟩
     have z_w83 := hb.size
     refine seq_any fun K85 hK85 => ?_
     refine seq_any fun K86 hK86 => ?_
     refine one_reg ?_
     refine op_move (ev_base hN83 rfl s83_9) ?_
     refine op_move (ev_base hN83 rfl s83_4) ?_
     refine op_len_rd Try.underlying23 (ev_hit hN83 rfl) hO84.rdw ?_
     refine op_lss (ev_hit hN83 rfl) (ev_hit hN83 rfl) (fun c46 => ?_) (fun c46 => ?_)
     · -- 46T
      refine reg_nil ?_
      refine hK86 _ _ ?_
      refine wp_cond_true (ev_hit hN83 rfl) ?_
      refine wp_skip ?_
      refine hK85 _ _ ?_
      refine seq_any fun K87 hK87 => ?_
      refine wp_block ?_
      refine one_reg ?_
      refine op_move (ev_base hN83 rfl s83_4) ?_
      refine op_move (ev_base hN83 rfl s83_9) ?_
      refine op_index_own (i := i) slt23 (ev_hit hN83 rfl) hO84 (ev_hit hN83 rfl) (by omega) (by omega) ?_
      intro b88 o89 lo_b88 hA90
      have hA90 : AtV v64 (i) b88 o89 := by simpa using hA90
      have hP93 := hO84
      refine op_store_own (vs := [(Value.int .u16 777)]) size35 (ev_hit hN83 rfl) rfl rfl rfl rfl hP93 hA90 (by have := hP93.1; simp; omega) ?_
      intro w91 hO94 E92
      have z_w91 := E92.size
      have hrl := hrl.keepO hP93 E92 (by omega)
      have hO60 := hO60.keepD E92 dj67.symm
      have hO69 := hO69.keepD E92 dj73
      have hb := below_stepO hb hP93 E92 hb.size (by omega)
      have hO94 : Own w91 w.heap.size 35 1 v64 (normL l).length ((cs1.take (i) ++ [(Value.int .u16 777)] ++ cs1.drop (i + 1))) := by simpa using hO94
      refine reg_nil ?_
      refine hK87 _ _ ?_
      refine one_reg ?_
      refine op_move (ev_base hN83 rfl s83_9) ?_
      refine op_add (ev_hit hN83 rfl) rfl (add64 (by omega)) ?_
      refine op_assign (ev_hit hN83 rfl) ?_
      refine reg_nil ?_
      -- round 14F 30T 34T 41T 46T
      exact loop_next _ hN83 hd83 ⟨i + 1, _, rfl, (sl_base hN83 rfl s83_0), (sl_base hN83 rfl s83_2), (sl_base hN83 rfl s83_3), (sl_base hN83 rfl s83_4), (sl_base hN83 rfl s83_8), (sl_hit hN83 rfl).trans (congrArg (Value.int .i64) (by omega)), (by omega), hb, (by omega), hrl, hO60, hO69, hO94⟩ (by omega)
     · -- 46F
      refine reg_nil ?_
      refine hK86 _ _ ?_
      refine wp_cond_false (ev_hit hN83 rfl) ?_
      refine wp_exit (then_exit (then_exit (blk_hit ?_)))
      refine hK81 _ _ ?_
      refine seq_any fun K95 hK95 => ?_
      refine one_reg ?_
      refine op_move (ev_base hN83 rfl s83_8) ?_
      refine op_move (ev_hit hN83 rfl) ?_
      refine g_true (j := 1) (dj := 53) (b := true) rfl rfl rfl (ev_hit hN83 rfl) ?_
      refine op_move (ev_base hN83 rfl s83_0) ?_
      refine g_true (j := 1) (dj := 53) (b := true) rfl rfl rfl (ev_hit hN83 rfl) ?_
      refine op_move (ev_base hN83 rfl s83_3) ?_
      refine g_true (j := 1) (dj := 53) (b := true) rfl rfl rfl (ev_hit hN83 rfl) ?_
      refine op_fn (vs := [vl, v57]) ok19 ⟨(ev_hit hN83 rfl), ⟨(ev_hit hN83 rfl), trivial⟩⟩ (sameL_ret l l _ _ _ (by first | assumption | omega | (simp only [List.length_append, List.length_cons, List.length_nil, List.length_drop, List.length_take]; omega) | (dsimp only; omega) | decide | (simp [keyV, be8_len]; done)) (by first | assumption | omega | (simp only [List.length_append, List.length_cons, List.length_nil, List.length_drop, List.length_take]; omega) | (dsimp only; omega) | decide | (simp [keyV, be8_len]; done)) (show RdC w83 0 w83.heap.size 1 vl l.length (l.map u16v) from by have hh : RdC w83 0 w83.heap.size 1 _ _ _ := (hrl.mono (L' := 0) (B' := w83.heap.size) (Nat.zero_le _) (by omega)); first | exact hh | exact hh.cast (by first | omega | (simp; try omega)) (by first | rfl | simp [u16v])) (show RdC w83 0 w83.heap.size 1 v57 l.length (l.map u16v) from by have hh : RdC w83 0 w83.heap.size 1 _ _ _ := (hO60.rdw.mono (L' := 0) (B' := w83.heap.size) (Nat.zero_le _) (by omega)); first | exact hh | exact hh.cast (by first | omega | (simp; try omega)) (by first | rfl | simp [u16v]))) ?_
      rintro _ w96 ⟨E97, rfl⟩
      have E97 := grown_of_below E97
      have z_w96 := E97.size
      have hrl := hrl.keep0 E97
      have hO60 := hO60.keep0 E97
      have hO69 := hO69.keep0 E97
      have hO84 := hO84.keep0 E97
      have hb := below_step0 hb E97 hb.size
      rcases Bool.eq_false_or_eq_true ((decide (l = l))) with c56 | c56
      · -- 56T
       rw [c56]
       refine op_pick_t (ev_hit hN83 rfl) (ev_hit hN83 rfl) ?_
       refine op_assign (ev_hit hN83 rfl) ?_
       refine reg_nil ?_
       refine hK95 _ _ ?_
       refine wp_ret ?_
       refine ret1 rfl hd83 (ev_hit hN83 rfl) ⟨_, rfl, ?_⟩
       -- path 14F 30T 34T 41T 46F 56T
       exact ⟨hb, rfl⟩
      · -- 56F
       exact absurd c56 (by simp)
    · -- 41F
     exact absurd c41 (by simp)
   · -- 34F
    exact absurd c34 (by simp)
  · -- 30F
   exact absurd rfl c30

end Go.Proofs.Ytpmnljffdofkeaa

/- Walks, written by a program: what each function of the translation hands back. -/
namespace Go.Proofs.Ytpmnljffdofkeaa
open Go.Gx Go.RowKit
attribute [local irreducible] wpList wpStill Code.wp Calls

theorem LabelRows_ret (L : List LbV) (vL : Value) (w : World) (hlL : L.length ≤ 9223372036854775807) (hsz : ∀ x9 ∈ L, x9.2.length ≤ 9223372036854775807) (hrL : RdC w 0 w.heap.size 1 vL L.length (L.flatMap (fun x9 => [x9.1]))) (hall : ∀ x9 ∈ L, RdC w 0 w.heap.size 1 x9.1 x9.2.length (x9.2.map u16v)) : Ret Try.prog 11 #[vL] w (fun v' w' => Below w.heap.size w w' ∧ v' = .bool true) := by
 have hb := Below.refl w.heap.size w
 refine enter (N := 71) Try.func11 rfl rfl (by simp) fun a0 hN hd hA => ?_
 have s0 : a0.tmps.getD 0 undef = vL := hA 0 (by simp)
 clear hA
 refine seq_any fun K199 hK199 => ?_
 refine one_reg ?_
 refine op_assign rfl ?_
 refine reg_nil ?_
 refine hK199 _ _ ?_
 refine seq_any fun K200 hK200 => ?_
 refine seq_any fun K201 hK201 => ?_
 refine one_reg ?_
 refine op_fn (vs := []) ok23 trivial (begun1_ret _) ?_
 rintro _ w202 ⟨E203, rfl⟩
 have E203 := grown_of_below E203
 have z_w202 := E203.size
 have hrL := hrL.keep0 E203
 have hall : ∀ x9 ∈ L, RdC w202 0 w.heap.size 1 x9.1 x9.2.length (x9.2.map u16v) := fun x9 hx9 => (hall x9 hx9).keep0 E203
 have hb := below_step0 hb E203 hb.size
 refine op_not (ev_hit hN rfl) ?_
 refine reg_nil ?_
 refine hK201 _ _ ?_
 refine wp_cond_false (ev_hit hN rfl) ?_
 refine wp_skip ?_
 refine hK200 _ _ ?_
 refine seq_any fun K204 hK204 => ?_
 refine seq_any fun K205 hK205 => ?_
 refine one_reg ?_
 refine op_move (ev_base hN rfl s0) ?_
 refine op_len_rd Try.underlying49 (ev_hit hN rfl) hrL ?_
 refine op_gtr (ev_hit hN rfl) rfl (fun c13 => ?_) (fun c13 => ?_)
 · -- 13T
  refine reg_nil ?_
  refine hK205 _ _ ?_
  refine wp_cond_true (ev_hit hN rfl) ?_
  refine seq_any fun K206 hK206 => ?_
  refine one_reg ?_
  refine op_assign rfl ?_
  refine reg_nil ?_
  refine hK206 _ _ ?_
  refine wp_ret (then_ret ( ?_))
  refine ret1 rfl hd (ev_hit hN rfl) ⟨_, rfl, ?_⟩
  -- path 13T
  exact ⟨hb, rfl⟩
 · -- 13F
  refine reg_nil ?_
  refine hK205 _ _ ?_
  refine wp_cond_false (ev_hit hN rfl) ?_
  refine wp_skip ?_
  refine hK204 _ _ ?_
  refine seq_any fun K207 hK207 => ?_
  refine one_reg ?_
  refine op_assign rfl ?_
  refine reg_nil ?_
  refine hK207 _ _ ?_
  refine seq_any fun K208 hK208 => ?_
  refine seq_any fun K209 hK209 => ?_
  refine one_reg ?_
  refine op_assign rfl ?_
  refine reg_nil ?_
  refine hK209 _ _ ?_
  refine wp_block ?_
  refine loop_m (fun mz_ az_ w' => ∃ (i : Nat) (r : Value), mz_ = L.length - i ∧ (az_.tmps.getD 0 undef = vL) ∧ (az_.tmps.getD 4 undef = (Value.int .i64 ((i : Nat) : Int))) ∧ (az_.tmps.getD 3 undef = r) ∧ (i ≤ L.length) ∧ (∀ j9, j9 < i → mayL (L.getD j9 D0).2 = true) ∧ ((rowsB (L.take i)).length ≤ 17 * i) ∧ (Below w.heap.size w w') ∧ (w202.heap.size ≤ w'.heap.size) ∧ (RdC w' 0 w.heap.size 1 vL L.length (L.flatMap (fun x9 => [x9.1]))) ∧ (∀ x9 ∈ L, RdC w' 0 w.heap.size 1 x9.1 x9.2.length (x9.2.map u16v)) ∧ (Own w' w.heap.size 5 1 r (rowsB (L.take i)).length ((rowsB (L.take i)).map u8v))) _ hN hd ⟨0, _, rfl, (sl_base hN rfl s0), (sl_hit hN rfl).trans (congrArg (Value.int .i64) (by omega)), (sl_hit hN rfl), Nat.zero_le _, (fun _ h9 => absurd h9 (Nat.not_lt_zero _)), (by simp [rowsB]), hb, (Nat.le_refl _), hrL, hall, (Own.nil _ _ _ _)⟩ ?_
  rintro _ a210 w210 hN210 hd210 ⟨i, r, rfl, s210_0, s210_4, s210_3, hi, hmay, hfl, hb, zl_w210, hrL, hall, hO211⟩
  have z_w210 := hb.size
  refine seq_any fun K212 hK212 => ?_
  refine seq_any fun K213 hK213 => ?_
  refine one_reg ?_
  refine op_move (ev_base hN210 rfl s210_4) ?_
  refine op_move (ev_base hN210 rfl s210_0) ?_
  refine op_len_rd Try.underlying49 (ev_hit hN210 rfl) hrL ?_
  refine op_lss (ev_hit hN210 rfl) (ev_hit hN210 rfl) (fun c17 => ?_) (fun c17 => ?_)
  · -- 17T
   refine reg_nil ?_
   refine hK213 _ _ ?_
   refine wp_cond_true (ev_hit hN210 rfl) ?_
   refine wp_skip ?_
   refine hK212 _ _ ?_
   refine seq_any fun K214 hK214 => ?_
   refine wp_block ?_
   refine seq_any fun K215 hK215 => ?_
   refine seq_any fun K216 hK216 => ?_
   refine one_reg ?_
   refine op_move (ev_base hN210 rfl s210_0) ?_
   refine op_move (ev_base hN210 rfl s210_4) ?_
   refine op_index_rd slt49 (ev_hit hN210 rfl) hrL (ev_hit hN210 rfl) (by omega) (by omega) ?_
   intro b217 o218 h0b217 h1b217 hc219
   have hs220 : RdC w210 0 w.heap.size 1 (L.getD i D0).1 (L.getD i D0).2.length ((L.getD i D0).2.map u16v) := hall _ (getD_mem (by omega))
   refine op_load1 (v := (L.getD i D0).1) one23 (ev_hit hN210 rfl) (by have := hc219 0 (L.getD i D0).1 (by decide) (el_ll (i := i) (d := D0) (by omega) (by omega)); simpa using this) ?_
   have hsi := hsz _ (getD_mem (d := D0) (show i < L.length by omega))
   refine op_fn (vs := [(L.getD i D0).1]) ok13 ⟨(ev_hit hN210 rfl), trivial⟩ (refMay_ret (L.getD i D0).2 _ _ (by first | assumption | omega | (simp only [List.length_append, List.length_cons, List.length_nil, List.length_drop, List.length_take]; omega) | (dsimp only; omega) | decide | (simp [keyV, be8_len]; done)) (show RdC w210 0 w210.heap.size 1 (L.getD i D0).1 (L.getD i D0).2.length ((L.getD i D0).2.map u16v) from by have hh : RdC w210 0 w210.heap.size 1 _ _ _ := (hs220.mono (L' := 0) (B' := w210.heap.size) (Nat.zero_le _) (by omega)); first | exact hh | exact hh.cast (by first | omega | (simp; try omega)) (by first | rfl | simp [u16v]))) ?_
   rintro _ w221 ⟨E222, rfl⟩
   have E222 := grown_of_below E222
   have z_w221 := E222.size
   have hrL := hrL.keep0 E222
   have hall : ∀ x9 ∈ L, RdC w221 0 w.heap.size 1 x9.1 x9.2.length (x9.2.map u16v) := fun x9 hx9 => (hall x9 hx9).keep0 E222
   have hO211 := hO211.keep0 E222
   have hs220 := hs220.keep0 E222
   have hb := below_step0 hb E222 hb.size
   rcases Bool.eq_false_or_eq_true ((mayL (L.getD i D0).2)) with c24 | c24
   · -- 24T
    rw [c24]
    refine op_not (ev_hit hN210 rfl) ?_
    refine reg_nil ?_
    refine hK216 _ _ ?_
    refine wp_cond_false (ev_hit hN210 rfl) ?_
    refine wp_skip ?_
    refine hK215 _ _ ?_
    refine one_reg ?_
    refine op_move (ev_base hN210 rfl s210_3) ?_
    refine op_move (ev_base hN210 rfl s210_0) ?_
    refine op_move (ev_base hN210 rfl s210_4) ?_
    refine op_index_rd slt49 (ev_hit hN210 rfl) hrL (ev_hit hN210 rfl) (by omega) (by omega) ?_
    intro b223 o224 h0b223 h1b223 hc225
    refine op_load1 (v := (L.getD i D0).1) one23 (ev_hit hN210 rfl) (by have := hc225 0 (L.getD i D0).1 (by decide) (el_ll (i := i) (d := D0) (by omega) (by omega)); simpa using this) ?_
    have hli := mayL_len c24
    have hq227 : RdC w221 0 w221.heap.size 1 r (rowsB (L.take i)).length ((rowsB (L.take i)).map u8v) := by have hh : RdC w221 0 w221.heap.size 1 _ _ _ := (hO211.rdw.mono (L' := 0) (B' := w221.heap.size) (Nat.zero_le _) (by omega)); first | simpa using hh | simpa [Nat.add_comm, Nat.add_left_comm, Nat.add_assoc] using hh | exact hh.cast (by first | rfl | (simp; try omega)) (by first | rfl | (simp; done) | simp [u8v])
    refine op_fn (vs := [r, (L.getD i D0).1]) ok34 ⟨(ev_hit hN210 rfl), ⟨(ev_hit hN210 rfl), trivial⟩⟩ (labPut_ret (rowsB (L.take i)) (L.getD i D0).2 _ _ _ (by first | assumption | omega | (simp only [List.length_append, List.length_cons, List.length_nil, List.length_drop, List.length_take]; omega) | (dsimp only; omega) | decide | (simp [keyV, be8_len]; done)) (by first | assumption | omega | (simp only [List.length_append, List.length_cons, List.length_nil, List.length_drop, List.length_take]; omega) | (dsimp only; omega) | decide | (simp [keyV, be8_len]; done)) hq227 (show RdC w221 0 w221.heap.size 1 (L.getD i D0).1 (L.getD i D0).2.length ((L.getD i D0).2.map u16v) from by have hh : RdC w221 0 w221.heap.size 1 _ _ _ := (hs220.mono (L' := 0) (B' := w221.heap.size) (Nat.zero_le _) (by omega)); first | exact hh | exact hh.cast (by first | omega | (simp; try omega)) (by first | rfl | simp [u16v]))) ?_
    rintro v228 w229 ⟨E230, hO228⟩
    have dj231 : DJ v228 r := fun k hk hg => by have q1 := (hO228.lt k hk).1; have q2 := (hO211.lt k hg).2; omega
    have E230 := grown_of_below E230
    have z_w229 := E230.size
    have hrL := hrL.keep0 E230
    have hall : ∀ x9 ∈ L, RdC w229 0 w.heap.size 1 x9.1 x9.2.length (x9.2.map u16v) := fun x9 hx9 => (hall x9 hx9).keep0 E230
    have hO211 := hO211.keep0 E230
    have hs220 := hs220.keep0 E230
    have hb := below_step0 hb E230 hb.size
    have hO228 := hO228.mono (base' := w221.heap.size) (by omega)
    refine op_assign (ev_hit hN210 rfl) ?_
    refine reg_nil ?_
    refine hK214 _ _ ?_
    refine one_reg ?_
    refine op_move (ev_base hN210 rfl s210_4) ?_
    refine op_add (ev_hit hN210 rfl) rfl (add64 (by omega)) ?_
    refine op_assign (ev_hit hN210 rfl) ?_
    refine reg_nil ?_
    -- round 13F 17T 24T
    exact loop_next _ hN210 hd210 ⟨i + 1, _, rfl, (sl_base hN210 rfl s210_0), (sl_hit hN210 rfl).trans (congrArg (Value.int .i64) (by omega)), (sl_hit hN210 rfl), (by omega), (may_step hmay c24), (by rw [rowsB_step (by omega), List.length_append]; have := putL_inj_len c24; omega), hb, (by omega), hrL, hall, ((hO228.mono (by omega)).cast (by rw [rowsB_step (by omega), List.length_append]) (by rw [rowsB_step (by omega)]))⟩ (by omega)
   · -- 24F
    rw [c24]
    refine op_not (ev_hit hN210 rfl) ?_
    refine reg_nil ?_
    refine hK216 _ _ ?_
    refine wp_cond_true (ev_hit hN210 rfl) ?_
    refine seq_any fun K232 hK232 => ?_
    refine one_reg ?_
    refine op_assign rfl ?_
    refine reg_nil ?_
    refine hK232 _ _ ?_
    refine wp_ret (then_ret (blk_ret (then_ret (then_ret (blk_ret (then_ret ( ?_)))))))
    refine ret1 rfl hd210 (ev_hit hN210 rfl) ⟨_, rfl, ?_⟩
    -- path 13F 17T 24F
    exact ⟨hb, rfl⟩
  · -- 17F
   refine reg_nil ?_
   refine hK213 _ _ ?_
   refine wp_cond_false (ev_hit hN210 rfl) ?_
   refine wp_exit (then_exit (then_exit (blk_hit ?_)))
   refine hK208 _ _ ?_
   refine seq_any fun K233 hK233 => ?_
   refine seq_any fun K234 hK234 => ?_
   refine one_reg ?_
   refine op_assign rfl ?_
   refine reg_nil ?_
   refine hK234 _ _ ?_
   refine wp_block ?_
   refine loop_m (fun mz_ az_ w' => ∃ (jj : Nat) (rs : Value), mz_ = L.length - jj ∧ (az_.tmps.getD 0 undef = vL) ∧ (az_.tmps.getD 5 undef = (Value.int .i64 ((jj : Nat) : Int))) ∧ (az_.tmps.getD 3 undef = rs) ∧ (jj ≤ L.length) ∧ (Below w.heap.size w w') ∧ (w210.heap.size ≤ w'.heap.size) ∧ (RdC w' 0 w.heap.size 1 vL L.length (L.flatMap (fun x9 => [x9.1]))) ∧ (∀ x9 ∈ L, RdC w' 0 w.heap.size 1 x9.1 x9.2.length (x9.2.map u16v)) ∧ (RdC w' w.heap.size w210.heap.size 1 rs (rowsB (L.drop jj)).length ((rowsB (L.drop jj)).map u8v))) _ hN210 hd210 ⟨0, _, rfl, (sl_base hN210 rfl s210_0), (sl_hit hN210 rfl).trans (congrArg (Value.int .i64) (by omega)), (sl_base hN210 rfl s210_3), Nat.zero_le _, hb, (Nat.le_refl _), hrL, hall, (hO211.rdw.cast (by rw [List.take_of_length_le (by omega), List.drop_zero]) (by rw [List.take_of_length_le (by omega), List.drop_zero]))⟩ ?_
   rintro _ a235 w235 hN235 hd235 ⟨jj, rs, rfl, s235_0, s235_5, s235_3, hj, hb, zl_w235, hrL, hall, hrs⟩
   have z_w235 := hb.size
   refine seq_any fun K236 hK236 => ?_
   refine seq_any fun K237 hK237 => ?_
   refine one_reg ?_
   refine op_move (ev_base hN235 rfl s235_5) ?_
   refine op_move (ev_base hN235 rfl s235_0) ?_
   refine op_len_rd Try.underlying49 (ev_hit hN235 rfl) hrL ?_
   refine op_lss (ev_hit hN235 rfl) (ev_hit hN235 rfl) (fun c35 => ?_) (fun c35 => ?_)
   · -- 35T
    refine reg_nil ?_
    refine hK237 _ _ ?_
    refine wp_cond_true (ev_hit hN235 rfl) ?_
    refine wp_skip ?_
    refine hK236 _ _ ?_
    refine seq_any fun K238 hK238 => ?_
    refine wp_block ?_
    refine seq_any fun K239 hK239 => ?_
    refine one_reg ?_
    refine op_move (ev_base hN235 rfl s235_3) ?_
    have hX := rowsB_drop (l := L) (i := jj) (by omega)
    have hT : takeL (rowsB (L.drop jj)) = ((L.getD jj D0).2, (((putL (L.getD jj D0).2).length : Nat) : Int), 0) := by rw [hX]; exact takeL_put (hmay jj (by omega)) _
    have hXl : (rowsB (L.drop jj)).length = (putL (L.getD jj D0).2).length + (rowsB (L.drop (jj + 1))).length := by rw [hX, List.length_append]
    have hpj := putL_len (L.getD jj D0).2
    have hmj := mayL_len (hmay jj (by omega))
    have hro : (rowsB (L.drop jj)).length ≤ 340 := by have h7 : (rowsB L).length ≤ 17 * i := (by rwa [List.take_of_length_le (by omega)] at hfl); have h8 : (rowsB (L.drop jj)).length ≤ (rowsB L).length := rowsB_le; omega
    have hq240 : RdC w235 0 w235.heap.size 1 rs (rowsB (L.drop jj)).length ((rowsB (L.drop jj)).map u8v) := by have hh : RdC w235 0 w235.heap.size 1 _ _ _ := (hrs.mono (L' := 0) (B' := w235.heap.size) (Nat.zero_le _) (by omega)); first | simpa using hh | simpa [Nat.add_comm, Nat.add_left_comm, Nat.add_assoc] using hh | exact hh.cast (by first | rfl | (simp; try omega)) (by first | rfl | (simp; done) | simp [u8v])
    refine op_fn (vs := [rs]) ok38 ⟨(ev_hit hN235 rfl), trivial⟩ (labTake_ret (rowsB (L.drop jj)) rs _ (by first | assumption | omega | (simp only [List.length_append, List.length_cons, List.length_nil, List.length_drop, List.length_take]; omega) | (dsimp only; omega) | decide | (simp [keyV, be8_len]; done)) hq240) ?_
    rintro _ w242 ⟨E243, u241, rfl, hO241⟩
    have E243 := grown_of_below E243
    have z_w242 := E243.size
    have hrL := hrL.keep0 E243
    have hall : ∀ x9 ∈ L, RdC w242 0 w.heap.size 1 x9.1 x9.2.length (x9.2.map u16v) := fun x9 hx9 => (hall x9 hx9).keep0 E243
    have hrs := hrs.keep0 E243
    have hb := below_step0 hb E243 hb.size
    have hO241 := hO241.mono (base' := w235.heap.size) (by omega)
    refine op_move (ev_hit hN235 rfl) ?_
    refine op_extract (ev_hit hN235 rfl) rfl ?_
    refine op_extract (ev_hit hN235 rfl) rfl ?_
    refine op_extract (ev_hit hN235 rfl) rfl ?_
    refine op_assign (ev_hit hN235 rfl) ?_
    refine op_assign (ev_hit hN235 rfl) ?_
    refine op_assign (ev_hit hN235 rfl) ?_
    refine reg_nil ?_
    refine hK239 _ _ ?_
    refine seq_any fun K244 hK244 => ?_
    refine seq_any fun K245 hK245 => ?_
    refine one_reg ?_
    refine op_move (ev_hit hN235 rfl) ?_
    refine op_neq (ev_hit hN235 rfl) rfl (fun c45 => ?_) (fun c45 => ?_)
    · -- 45T
     exact absurd (by rw [hT]) c45
    · -- 45F
     refine op_move (ev_hit hN235 rfl) ?_
     refine g_true (j := 2) (dj := 46) (b := false) rfl rfl rfl (ev_hit hN235 rfl) ?_
     refine op_move (ev_hit hN235 rfl) ?_
     refine g_true (j := 2) (dj := 46) (b := false) rfl rfl rfl (ev_hit hN235 rfl) ?_
     refine op_move (ev_base hN235 rfl s235_0) ?_
     refine g_true (j := 2) (dj := 46) (b := false) rfl rfl rfl (ev_hit hN235 rfl) ?_
     refine op_move (ev_base hN235 rfl s235_5) ?_
     refine g_true (j := 2) (dj := 46) (b := false) rfl rfl rfl (ev_hit hN235 rfl) ?_
     refine op_index_rd slt49 (ev_hit hN235 rfl) hrL (ev_hit hN235 rfl) (by omega) (by omega) ?_
     intro b246 o247 h0b246 h1b246 hc248
     refine g_true (j := 2) (dj := 46) (b := false) rfl rfl rfl (ev_hit hN235 rfl) ?_
     have hs249 : RdC w242 0 w.heap.size 1 (L.getD jj D0).1 (L.getD jj D0).2.length ((L.getD jj D0).2.map u16v) := hall _ (getD_mem (by omega))
     refine op_load1 (v := (L.getD jj D0).1) one23 (ev_hit hN235 rfl) (by have := hc248 0 (L.getD jj D0).1 (by decide) (el_ll (i := jj) (d := D0) (by omega) (by omega)); simpa using this) ?_
     have htl := takeL_len (rowsB (L.drop jj))
     refine g_true (j := 2) (dj := 46) (b := false) rfl rfl rfl (ev_hit hN235 rfl) ?_
     refine op_fn (vs := [u241, (L.getD jj D0).1]) ok19 ⟨(ev_hit hN235 rfl), ⟨(ev_hit hN235 rfl), trivial⟩⟩ (sameL_ret (takeL (rowsB (L.drop jj))).1 (L.getD jj D0).2 _ _ _ (by first | assumption | omega | (simp only [List.length_append, List.length_cons, List.length_nil, List.length_drop, List.length_take]; omega) | (dsimp only; omega) | decide | (simp [keyV, be8_len]; done)) (by first | assumption | omega | (simp only [List.length_append, List.length_cons, List.length_nil, List.length_drop, List.length_take]; omega) | (dsimp only; omega) | decide | (simp [keyV, be8_len]; done)) (show RdC w242 0 w242.heap.size 1 u241 (takeL (rowsB (L.drop jj))).1.length ((takeL (rowsB (L.drop jj))).1.map u16v) from by have hh : RdC w242 0 w242.heap.size 1 _ _ _ := (hO241.rdw.mono (L' := 0) (B' := w242.heap.size) (Nat.zero_le _) (by omega)); first | exact hh | exact hh.cast (by first | omega | (simp; try omega)) (by first | rfl | simp [u16v])) (show RdC w242 0 w242.heap.size 1 (L.getD jj D0).1 (L.getD jj D0).2.length ((L.getD jj D0).2.map u16v) from by have hh : RdC w242 0 w242.heap.size 1 _ _ _ := (hs249.mono (L' := 0) (B' := w242.heap.size) (Nat.zero_le _) (by omega)); first | exact hh | exact hh.cast (by first | omega | (simp; try omega)) (by first | rfl | simp [u16v]))) ?_
     rintro _ w250 ⟨E251, rfl⟩
     have E251 := grown_of_below E251
     have z_w250 := E251.size
     have hrL := hrL.keep0 E251
     have hall : ∀ x9 ∈ L, RdC w250 0 w.heap.size 1 x9.1 x9.2.length (x9.2.map u16v) := fun x9 hx9 => (hall x9 hx9).keep0 E251
     have hrs := hrs.keep0 E251
     have hO241 := hO241.keep0 E251
     have hs249 := hs249.keep0 E251
     have hb := below_step0 hb E251 hb.size
     rcases Bool.eq_false_or_eq_true ((decide ((takeL (rowsB (L.drop jj))).1 = (L.getD jj D0).2))) with c52 | c52
     · -- 52T
      rw [c52]
      refine g_true (j := 2) (dj := 46) (b := false) rfl rfl rfl (ev_hit hN235 rfl) ?_
      refine op_not (ev_hit hN235 rfl) ?_
      refine op_pick_f (ev_hit hN235 rfl) (ev_hit hN235 rfl) ?_
      refine op_move (ev_hit hN235 rfl) ?_
      refine g_true (j := 11) (dj := 55) (b := false) rfl rfl rfl (ev_hit hN235 rfl) ?_
      refine op_move (ev_hit hN235 rfl) ?_
      refine g_true (j := 11) (dj := 55) (b := false) rfl rfl rfl (ev_hit hN235 rfl) ?_
      refine op_lss (ev_hit hN235 rfl) rfl (fun c57 => ?_) (fun c57 => ?_)
      · -- 57T
       exfalso; rw [hT] at c57; simp only at c57; omega
      · -- 57F
       refine op_pick_f (ev_hit hN235 rfl) (ev_hit hN235 rfl) ?_
       refine op_move (ev_hit hN235 rfl) ?_
       refine g_true (j := 15) (dj := 59) (b := false) rfl rfl rfl (ev_hit hN235 rfl) ?_
       refine op_move (ev_hit hN235 rfl) ?_
       refine g_true (j := 15) (dj := 59) (b := false) rfl rfl rfl (ev_hit hN235 rfl) ?_
       refine op_move (ev_base hN235 rfl s235_3) ?_
       refine g_true (j := 15) (dj := 59) (b := false) rfl rfl rfl (ev_hit hN235 rfl) ?_
       refine op_len_rd Try.underlying39 (ev_hit hN235 rfl) hrs ?_
       refine g_true (j := 15) (dj := 59) (b := false) rfl rfl rfl (ev_hit hN235 rfl) ?_
       refine op_gtr (ev_hit hN235 rfl) (ev_hit hN235 rfl) (fun c63 => ?_) (fun c63 => ?_)
       · -- 63T
        exfalso; rw [hT] at c63; simp only at c63; omega
       · -- 63F
        refine op_pick_f (ev_hit hN235 rfl) (ev_hit hN235 rfl) ?_
        refine reg_nil ?_
        refine hK245 _ _ ?_
        refine wp_cond_false (ev_hit hN235 rfl) ?_
        refine wp_skip ?_
        refine hK244 _ _ ?_
        refine one_reg ?_
        refine op_move (ev_base hN235 rfl s235_3) ?_
        refine op_move (ev_hit hN235 rfl) ?_
        refine op_slice_rd (lo := (putL (L.getD jj D0).2).length) (hi := (rowsB (L.drop jj)).length) slt39 (ev_hit hN235 rfl) hrs (.inr ⟨_, _, rfl, (ev_hit hN235 rfl).trans (congrArg (Value.int _) (by rw [hT]))⟩) (.inl ⟨rfl, rfl⟩) (by omega) (by omega) ?_
        intro v252 hR253
        have hR253 : RdC w250 w.heap.size w210.heap.size 1 v252 ((rowsB (L.drop (jj + 1))).length) (((rowsB (L.drop (jj + 1)))).map u8v) := by have h9 := hR253; rw [hX] at h9; exact h9.cast (by rw [List.length_append]; omega) (by simp [List.take_of_length_le])
        refine op_assign (ev_hit hN235 rfl) ?_
        refine reg_nil ?_
        refine hK238 _ _ ?_
        refine one_reg ?_
        refine op_move (ev_base hN235 rfl s235_5) ?_
        refine op_add (ev_hit hN235 rfl) rfl (add64 (by omega)) ?_
        refine op_assign (ev_hit hN235 rfl) ?_
        refine reg_nil ?_
        -- round 13F 17F 35T 45F 52T 57F 63F
        exact loop_next _ hN235 hd235 ⟨jj + 1, _, rfl, (sl_base hN235 rfl s235_0), (sl_hit hN235 rfl).trans (congrArg (Value.int .i64) (by omega)), (sl_hit hN235 rfl), (by omega), hb, (by omega), hrL, hall, hR253⟩ (by omega)
     · -- 52F
      exact absurd c52 (by rw [hT]; simp)
   · -- 35F
    refine reg_nil ?_
    refine hK237 _ _ ?_
    refine wp_cond_false (ev_hit hN235 rfl) ?_
    refine wp_exit (then_exit (then_exit (blk_hit ?_)))
    refine hK233 _ _ ?_
    refine seq_any fun K254 hK254 => ?_
    refine one_reg ?_
    refine op_move (ev_base hN235 rfl s235_3) ?_
    refine op_len_rd Try.underlying39 (ev_hit hN235 rfl) hrs ?_
    refine op_eql (ev_hit hN235 rfl) rfl (fun c70 => ?_) (fun c70 => ?_)
    · -- 70T
     refine op_assign (ev_hit hN235 rfl) ?_
     refine reg_nil ?_
     refine hK254 _ _ ?_
     refine wp_ret ?_
     refine ret1 rfl hd235 (ev_hit hN235 rfl) ⟨_, rfl, ?_⟩
     -- path 13F 17F 35F 70T
     exact ⟨hb, rfl⟩
    · -- 70F
     exact absurd (by rw [rowsB_end (by omega)]; rfl) c70

end Go.Proofs.Ytpmnljffdofkeaa

/- What the arguments of the laws are, told by their types. -/
namespace Go.Proofs.Ytpmnljffdofkeaa
open Go.Gx Go.RowKit
theorem rd_le {w : World} {L B sz n : Nat} {v : Value} {cs : List Value} (h : RdC w L B sz v n cs) : n ≤ 9223372036854775807 := by obtain ⟨_, _, _, _, hq, hm, _⟩ := h; exact Nat.le_trans hq hm
theorem cells35 : Try.prog.cellsOf 35 = 1 := by kernel_rfl
theorem flat_u16v (l : List UInt16) : l.flatMap (fun c => [u16v c]) = l.map u16v := by induction l with | nil => rfl | cons c l ih => simp [ih]
theorem dec23 {H : Type} {enc : TypeId × Value → H} {w : World} {base : Nat} {spare : Nat → Bool} {held : Bool} : Dec enc Try.prog w base spare held 23 (fun p : Value × List UInt16 => [p.1]) (fun p => RdC w 0 w.heap.size 1 p.1 p.2.length (p.2.map u16v)) :=
  (Dec.slice Try.underlying23 (by rw [cells35]; decide) (Dec.u16 Try.underlying35) (fun _ _ => by rw [cells35]; rfl)).map fun p hp => ⟨p, rfl, by have hq := hp.1; rwa [cells35, flat_u16v] at hq⟩
theorem dec22 {H : Type} {enc : TypeId × Value → H} {w : World} {base : Nat} {spare : Nat → Bool} {held : Bool} : Dec enc Try.prog w base spare held 22 (fun p : Value × List UInt16 => [p.1]) (fun p => RdC w 0 w.heap.size 1 p.1 p.2.length (p.2.map u16v)) :=
  (Dec.slice Try.underlying22 (by rw [cells35]; decide) (Dec.u16 Try.underlying35) (fun _ _ => by rw [cells35]; rfl)).map fun p hp => ⟨p, rfl, by have hq := hp.1; rwa [cells35, flat_u16v] at hq⟩
theorem cells5 : Try.prog.cellsOf 5 = 1 := by kernel_rfl
theorem flat_u8v (l : List UInt8) : l.flatMap (fun c => [u8v c]) = l.map u8v := by induction l with | nil => rfl | cons c l ih => simp [ih]
theorem dec39 {H : Type} {enc : TypeId × Value → H} {w : World} {base : Nat} {spare : Nat → Bool} {held : Bool} : Dec enc Try.prog w base spare held 39 (fun p : Value × List UInt8 => [p.1]) (fun p => RdC w 0 w.heap.size 1 p.1 p.2.length (p.2.map u8v)) :=
  (Dec.slice Try.underlying39 (by rw [cells5]; decide) (Dec.u8 Try.underlying5) (fun _ _ => by rw [cells5]; rfl)).map fun p hp => ⟨p, rfl, by have hq := hp.1; rwa [cells5, flat_u8v] at hq⟩
theorem cells23 : Try.prog.cellsOf 23 = 1 := by kernel_rfl
theorem dec49 {H : Type} {enc : TypeId × Value → H} {w : World} {base : Nat} {spare : Nat → Bool} {held : Bool} : Dec enc Try.prog w base spare held 49 (fun p : Value × List (Value × List UInt16) => [p.1]) (fun p => RdC w 0 w.heap.size 1 p.1 p.2.length (p.2.flatMap (fun (x9 : Value × List UInt16) => [x9.1])) ∧ ∀ x ∈ p.2, (RdC w 0 w.heap.size 1 x.1 x.2.length (x.2.map u16v))) :=
  (Dec.slice Try.underlying49 (by rw [cells23]; decide) dec23 (fun _ _ => by rw [cells23]; rfl)).map fun p hp => ⟨p, rfl, by have hq := hp.1; rw [cells23] at hq; exact hq, hp.2⟩
end Go.Proofs.Ytpmnljffdofkeaa
