/- Walks, written by a program: what each function of the translation hands back. -/
import Derived.Test.YtkkongnmcfdioaaI5
namespace Go.Proofs.Ytkkongnmcfdioaa
open Go.Gx Go.RowKit
attribute [local irreducible] wpList Code.wp Calls

theorem From_ret (x : Vl) (w : World) (hs : x.s.length ≤ 1000000000) (hn : -9223372036854775808 ≤ x.n ∧ x.n ≤ 9223372036854775807) : Ret Try.prog 59 #[(Value.agg #[(Value.int .i64 x.k), (Value.int .i64 x.n), (Value.string (bs x.s))])] w (fun v' w' => Below w.heap.size w w' ∧ Own w' w.heap.size 5 1 v' (keyV x).length ((keyV x).map u8v)) := by
  have hb := Below.refl w.heap.size w
  refine enter (N := 5) Try.func59 rfl rfl (by simp) fun a0 hN hd hA => ?_
  have s0 : a0.tmps.getD 0 undef = (Value.agg #[(Value.int .i64 x.k), (Value.int .i64 x.n), (Value.string (bs x.s))]) := hA 0 (by simp)
  clear hA
  refine seq_any fun K1 hK1 => ?_
  refine one_reg ?_
  refine op_box (cs := [(Value.int .i64 x.k), (Value.int .i64 x.n), (Value.string (bs x.s))]) (ev_base hN rfl s0) rfl ?_
  intro w2 b3 lo_b3 hi_b3 hB5 E4
  have z_w2 := E4.size
  have hb := below_step0 hb E4 hb.size
  refine op_assign rfl ?_
  refine reg_nil ?_
  refine hK1 _ _ ?_
  refine seq_any fun K6 hK6 => ?_
  refine one_reg ?_
  refine op_loadA (cs := [(Value.int .i64 x.k), (Value.int .i64 x.n), (Value.string (bs x.s))]) agg50 rfl (ev_hit hN rfl) (fun j u hu => by rw [Nat.zero_add]; exact hB5.cell hu) ?_
  have hq7 : RdC w2 0 w2.heap.size 1 (Value.slice none 0 0) ([] : List UInt8).length (([] : List UInt8).map u8v) := by have hh : RdC w2 0 w2.heap.size 1 _ _ _ := ((RdC.nil _ 0 0 1).mono (L' := 0) (B' := w2.heap.size) (Nat.zero_le _) (by omega)); first | simpa using hh | simpa [Nat.add_comm, Nat.add_left_comm, Nat.add_assoc] using hh | exact hh.cast (by simp; try omega) (by simp)
  refine op_fn (vs := [(Value.slice none 0 0), (Value.agg #[(Value.int .i64 x.k), (Value.int .i64 x.n), (Value.string (bs x.s))]), (Value.func (.func 34) #[] #[])]) ok81 ⟨rfl, ⟨(ev_hit hN rfl), ⟨rfl, trivial⟩⟩⟩ (behV_ret [] x _ _ (by first | assumption | omega | (simp only [List.length_append, List.length_cons, List.length_nil, List.length_drop, List.length_take]; omega) | (dsimp only; omega) | decide | (simp [keyV, be8_len]; done)) (by first | assumption | omega | (simp only [List.length_append, List.length_cons, List.length_nil, List.length_drop, List.length_take]; omega) | (dsimp only; omega) | decide | (simp [keyV, be8_len]; done)) (by first | assumption | omega | (simp only [List.length_append, List.length_cons, List.length_nil, List.length_drop, List.length_take]; omega) | (dsimp only; omega) | decide | (simp [keyV, be8_len]; done)) hq7) ?_
  rintro v8 w10 ⟨E11, hO9⟩
  have E11 := grown_of_below E11
  have z_w10 := E11.size
  have hB5 := hB5.keep0 E11
  have hb := below_step0 hb E11 hb.size
  have hO9 : Own w10 w2.heap.size 5 1 v8 (keyV x).length ((keyV x).map u8v) := by simpa using hO9.mono (base' := w2.heap.size) (by omega)
  refine op_assign (ev_hit hN rfl) ?_
  refine reg_nil ?_
  refine hK6 _ _ ?_
  refine wp_ret ?_
  refine ret1 rfl hd (ev_hit hN rfl) ⟨_, rfl, ?_⟩
  -- path
  exact ⟨hb, hO9.mono (by omega)⟩

theorem IKey_ret (x : Vl) (l : Lb) (n : Nat) (u : Value) (w : World) (hs : x.s.length ≤ 100000) (hn : -9223372036854775808 ≤ x.n ∧ x.n ≤ 9223372036854775807) (hl : l.length ≤ 100000) (hn2 : n < 18446744073709551616) (h : RdC w 0 w.heap.size 1 u l.length (l.map u16v)) : Ret Try.prog 57 #[(Value.agg #[(Value.int .i64 x.k), (Value.int .i64 x.n), (Value.string (bs x.s))]), u, (Value.int .u64 ((n : Nat) : Int))] w (fun v' w' => Below w.heap.size w w' ∧ Own w' w.heap.size 5 1 v' (keyX x l n).length ((keyX x l n).map u8v)) := by
  have hkx := keyV_le x
  have hpl := putL_len l
  have hb := Below.refl w.heap.size w
  refine enter (N := 13) Try.func57 rfl rfl (by simp) fun a0 hN hd hA => ?_
  have s0 : a0.tmps.getD 0 undef = (Value.agg #[(Value.int .i64 x.k), (Value.int .i64 x.n), (Value.string (bs x.s))]) := hA 0 (by simp)
  have s1 : a0.tmps.getD 1 undef = u := hA 1 (by simp)
  have s2 : a0.tmps.getD 2 undef = (Value.int .u64 ((n : Nat) : Int)) := hA 2 (by simp)
  clear hA
  refine seq_any fun K12 hK12 => ?_
  refine one_reg ?_
  refine op_box (cs := [(Value.int .i64 x.k), (Value.int .i64 x.n), (Value.string (bs x.s))]) (ev_base hN rfl s0) rfl ?_
  intro w13 b14 lo_b14 hi_b14 hB16 E15
  have z_w13 := E15.size
  have h := h.keep0 E15
  have hb := below_step0 hb E15 hb.size
  refine op_assign rfl ?_
  refine reg_nil ?_
  refine hK12 _ _ ?_
  refine seq_any fun K17 hK17 => ?_
  refine one_reg ?_
  refine op_loadA (cs := [(Value.int .i64 x.k), (Value.int .i64 x.n), (Value.string (bs x.s))]) agg50 rfl (ev_hit hN rfl) (fun j u hu => by rw [Nat.zero_add]; exact hB16.cell hu) ?_
  refine op_fn (vs := [(Value.agg #[(Value.int .i64 x.k), (Value.int .i64 x.n), (Value.string (bs x.s))])]) ok59 ⟨(ev_hit hN rfl), trivial⟩ (From_ret x _ (by first | assumption | omega | (simp only [List.length_append, List.length_cons, List.length_nil, List.length_drop, List.length_take]; omega) | (dsimp only; omega) | decide | (simp [keyV, be8_len]; done)) (by first | assumption | omega | (simp only [List.length_append, List.length_cons, List.length_nil, List.length_drop, List.length_take]; omega) | (dsimp only; omega) | decide | (simp [keyV, be8_len]; done))) ?_
  rintro v18 w19 ⟨E20, hO18⟩
  have E20 := grown_of_below E20
  have z_w19 := E20.size
  have h := h.keep0 E20
  have hB16 := hB16.keep0 E20
  have hb := below_step0 hb E20 hb.size
  have hO18 := hO18.mono (base' := w13.heap.size) (by omega)
  refine op_move (ev_base hN rfl s1) ?_
  have hq21 : RdC w19 0 w19.heap.size 1 v18 (keyV x).length ((keyV x).map u8v) := by have hh : RdC w19 0 w19.heap.size 1 _ _ _ := (hO18.rdw.mono (L' := 0) (B' := w19.heap.size) (Nat.zero_le _) (by omega)); first | simpa using hh | simpa [Nat.add_comm, Nat.add_left_comm, Nat.add_assoc] using hh | exact hh.cast (by simp; try omega) (by simp)
  refine op_fn (vs := [v18, u, (Value.func (.func 78) #[] #[])]) ok77 ⟨(ev_hit hN rfl), ⟨(ev_hit hN rfl), ⟨rfl, trivial⟩⟩⟩ (behL_ret (keyV x) l _ _ _ (by first | assumption | omega | (simp only [List.length_append, List.length_cons, List.length_nil, List.length_drop, List.length_take]; omega) | (dsimp only; omega) | decide | (simp [keyV, be8_len]; done)) (by first | assumption | omega | (simp only [List.length_append, List.length_cons, List.length_nil, List.length_drop, List.length_take]; omega) | (dsimp only; omega) | decide | (simp [keyV, be8_len]; done)) hq21 (show RdC w19 0 w19.heap.size 1 u l.length (l.map u16v) from by have hh : RdC w19 0 w19.heap.size 1 _ _ _ := (h.mono (L' := 0) (B' := w19.heap.size) (Nat.zero_le _) (by omega)); first | exact hh | exact hh.cast (by first | omega | (simp; try omega)) (by first | rfl | simp [u16v]))) ?_
  rintro v22 w23 ⟨E24, hO22⟩
  have dj25 : DJ v22 v18 := fun k hk hg => by have q1 := (hO22.lt k hk).1; have q2 := (hO18.lt k hg).2; omega
  have E24 := grown_of_below E24
  have z_w23 := E24.size
  have h := h.keep0 E24
  have hB16 := hB16.keep0 E24
  have hO18 := hO18.keep0 E24
  have hb := below_step0 hb E24 hb.size
  have hO22 := hO22.mono (base' := w19.heap.size) (by omega)
  refine op_move (ev_base hN rfl s2) ?_
  have hq26 : RdC w23 0 w23.heap.size 1 v22 ((keyV x) ++ putL l).length (((keyV x) ++ putL l).map u8v) := by have hh : RdC w23 0 w23.heap.size 1 _ _ _ := (hO22.rdw.mono (L' := 0) (B' := w23.heap.size) (Nat.zero_le _) (by omega)); first | simpa using hh | simpa [Nat.add_comm, Nat.add_left_comm, Nat.add_assoc] using hh | exact hh.cast (by simp; try omega) (by simp)
  refine op_fn (vs := [v22, (Value.int .u64 ((n : Nat) : Int)), (Value.func (.func 79) #[] #[])]) ok76 ⟨(ev_hit hN rfl), ⟨(ev_hit hN rfl), ⟨rfl, trivial⟩⟩⟩ (behN_ret ((keyV x) ++ putL l) n _ _ (by first | assumption | omega | (simp only [List.length_append, List.length_cons, List.length_nil, List.length_drop, List.length_take]; omega) | (dsimp only; omega) | decide | (simp [keyV, be8_len]; done)) (by first | assumption | omega | (simp only [List.length_append, List.length_cons, List.length_nil, List.length_drop, List.length_take]; omega) | (dsimp only; omega) | decide | (simp [keyV, be8_len]; done)) hq26) ?_
  rintro v27 w28 ⟨E29, hO27⟩
  have dj30 : DJ v27 v18 := fun k hk hg => by have q1 := (hO27.lt k hk).1; have q2 := (hO18.lt k hg).2; omega
  have dj31 : DJ v27 v22 := fun k hk hg => by have q1 := (hO27.lt k hk).1; have q2 := (hO22.lt k hg).2; omega
  have E29 := grown_of_below E29
  have z_w28 := E29.size
  have h := h.keep0 E29
  have hB16 := hB16.keep0 E29
  have hO18 := hO18.keep0 E29
  have hO22 := hO22.keep0 E29
  have hb := below_step0 hb E29 hb.size
  have hO27 := hO27.mono (base' := w23.heap.size) (by omega)
  refine op_assign (ev_hit hN rfl) ?_
  refine reg_nil ?_
  refine hK17 _ _ ?_
  refine wp_ret ?_
  refine ret1 rfl hd (ev_hit hN rfl) ⟨_, rfl, ?_⟩
  -- path
  exact ⟨hb, (hO27.mono (by omega)).cast (by simp only [keyX, List.length_append, be8_len]) rfl⟩

theorem RIndex_ret (x : Vl) (l : Lb) (n : Nat) (u : Value) (w : World) (hs : x.s.length ≤ 100000) (hn : -9223372036854775808 ≤ x.n ∧ x.n ≤ 9223372036854775807) (hl : l.length ≤ 100000) (hn2 : n < 18446744073709551616) (h : RdC w 0 w.heap.size 1 u l.length (l.map u16v)) : Ret Try.prog 58 #[(Value.agg #[(Value.int .i64 x.k), (Value.int .i64 x.n), (Value.string (bs x.s))]), u, (Value.int .u64 ((n : Nat) : Int))] w (fun v' w' => Below w.heap.size w w' ∧ Own w' w.heap.size 5 1 v' (keyX x l n).length ((keyX x l n).map u8v)) := by
  have hkx := keyV_le x
  have hpl := putL_len l
  have hkr := keyR_eq hn
  have hkl : (keyR x).length = (keyV x).length := by rw [hkr]
  have hb := Below.refl w.heap.size w
  refine enter (N := 27) Try.func58 rfl rfl (by simp) fun a0 hN hd hA => ?_
  have s0 : a0.tmps.getD 0 undef = (Value.agg #[(Value.int .i64 x.k), (Value.int .i64 x.n), (Value.string (bs x.s))]) := hA 0 (by simp)
  have s1 : a0.tmps.getD 1 undef = u := hA 1 (by simp)
  have s2 : a0.tmps.getD 2 undef = (Value.int .u64 ((n : Nat) : Int)) := hA 2 (by simp)
  clear hA
  refine seq_any fun K32 hK32 => ?_
  refine one_reg ?_
  refine op_box (cs := [(Value.int .i64 x.k), (Value.int .i64 x.n), (Value.string (bs x.s))]) (ev_base hN rfl s0) rfl ?_
  intro w33 b34 lo_b34 hi_b34 hB36 E35
  have z_w33 := E35.size
  have h := h.keep0 E35
  have hb := below_step0 hb E35 hb.size
  refine op_assign rfl ?_
  refine reg_nil ?_
  refine hK32 _ _ ?_
  refine seq_any fun K37 hK37 => ?_
  refine one_reg ?_
  refine op_loadA (cs := [(Value.int .i64 x.k), (Value.int .i64 x.n), (Value.string (bs x.s))]) agg50 rfl (ev_hit hN rfl) (fun j u hu => by rw [Nat.zero_add]; exact hB36.cell hu) ?_
  have hq38 : RdC w33 0 w33.heap.size 1 (Value.slice none 0 0) ([] : List UInt8).length (([] : List UInt8).map u8v) := by have hh : RdC w33 0 w33.heap.size 1 _ _ _ := ((RdC.nil _ 0 0 1).mono (L' := 0) (B' := w33.heap.size) (Nat.zero_le _) (by omega)); first | simpa using hh | simpa [Nat.add_comm, Nat.add_left_comm, Nat.add_assoc] using hh | exact hh.cast (by simp; try omega) (by simp)
  refine op_fn (vs := [(Value.slice none 0 0), (Value.agg #[(Value.int .i64 x.k), (Value.int .i64 x.n), (Value.string (bs x.s))])]) ok37 ⟨rfl, ⟨(ev_hit hN rfl), trivial⟩⟩ (RKey_ret [] x _ _ (by first | assumption | omega | (simp only [List.length_append, List.length_cons, List.length_nil, List.length_drop, List.length_take]; omega) | (dsimp only; omega) | decide | (simp [keyV, be8_len]; done)) (by first | assumption | omega | (simp only [List.length_append, List.length_cons, List.length_nil, List.length_drop, List.length_take]; omega) | (dsimp only; omega) | decide | (simp [keyV, be8_len]; done)) (by first | assumption | omega | (simp only [List.length_append, List.length_cons, List.length_nil, List.length_drop, List.length_take]; omega) | (dsimp only; omega) | decide | (simp [keyV, be8_len]; done)) hq38) ?_
  rintro v39 w41 ⟨E42, hO40⟩
  have E42 := grown_of_below E42
  have z_w41 := E42.size
  have h := h.keep0 E42
  have hB36 := hB36.keep0 E42
  have hb := below_step0 hb E42 hb.size
  have hO40 : Own w41 w33.heap.size 5 1 v39 (keyR x).length ((keyR x).map u8v) := by simpa using hO40.mono (base' := w33.heap.size) (by omega)
  refine op_move (ev_base hN rfl s1) ?_
  have hq43 : RdC w41 0 w41.heap.size 1 v39 (keyR x).length ((keyR x).map u8v) := by have hh : RdC w41 0 w41.heap.size 1 _ _ _ := (hO40.rdw.mono (L' := 0) (B' := w41.heap.size) (Nat.zero_le _) (by omega)); first | simpa using hh | simpa [Nat.add_comm, Nat.add_left_comm, Nat.add_assoc] using hh | exact hh.cast (by simp; try omega) (by simp)
  refine op_fn (vs := [v39, u]) ok80 ⟨(ev_hit hN rfl), ⟨(ev_hit hN rfl), trivial⟩⟩ (refPut_ret (keyR x) l _ _ _ (by first | assumption | omega | (simp only [List.length_append, List.length_cons, List.length_nil, List.length_drop, List.length_take]; omega) | (dsimp only; omega) | decide | (simp [keyV, be8_len]; done)) (by first | assumption | omega | (simp only [List.length_append, List.length_cons, List.length_nil, List.length_drop, List.length_take]; omega) | (dsimp only; omega) | decide | (simp [keyV, be8_len]; done)) hq43 (show RdC w41 0 w41.heap.size 1 u l.length (l.map u16v) from by have hh : RdC w41 0 w41.heap.size 1 _ _ _ := (h.mono (L' := 0) (B' := w41.heap.size) (Nat.zero_le _) (by omega)); first | exact hh | exact hh.cast (by first | omega | (simp; try omega)) (by first | rfl | simp [u16v]))) ?_
  rintro v44 w45 ⟨E46, hO44⟩
  have dj47 : DJ v44 v39 := fun k hk hg => by have q1 := (hO44.lt k hk).1; have q2 := (hO40.lt k hg).2; omega
  have E46 := grown_of_below E46
  have z_w45 := E46.size
  have h := h.keep0 E46
  have hB36 := hB36.keep0 E46
  have hO40 := hO40.keep0 E46
  have hb := below_step0 hb E46 hb.size
  have hO44 := hO44.mono (base' := w41.heap.size) (by omega)
  refine op_assign (ev_hit hN rfl) ?_
  refine reg_nil ?_
  refine hK37 _ _ ?_
  refine seq_any fun K48 hK48 => ?_
  refine seq_any fun K49 hK49 => ?_
  refine one_reg ?_
  refine op_assign rfl ?_
  refine reg_nil ?_
  refine hK49 _ _ ?_
  refine wp_block ?_
  refine loop_m (fun mz_ a w' => ∃ (i : Nat) (y : Value), mz_ = 8 - i ∧ (a.tmps.getD 0 undef = (Value.agg #[(Value.int .i64 x.k), (Value.int .i64 x.n), (Value.string (bs x.s))])) ∧ (a.tmps.getD 1 undef = u) ∧ (a.tmps.getD 2 undef = (Value.int .u64 ((n : Nat) : Int))) ∧ (a.tmps.getD 3 undef = (ptr b34 0)) ∧ (a.tmps.getD 6 undef = (Value.slice none 0 0)) ∧ (a.tmps.getD 9 undef = (Value.agg #[(Value.int .i64 x.k), (Value.int .i64 x.n), (Value.string (bs x.s))])) ∧ (a.tmps.getD 10 undef = v39) ∧ (a.tmps.getD 11 undef = u) ∧ (a.tmps.getD 12 undef = v44) ∧ (a.tmps.getD 8 undef = (Value.int .i64 (7 - (i : Int)))) ∧ (a.tmps.getD 7 undef = y) ∧ (i ≤ 8) ∧ (Below w.heap.size w w') ∧ (RdC w' 0 w.heap.size 1 u l.length (l.map u16v)) ∧ (Bx w' b34 50 [(Value.int .i64 x.k), (Value.int .i64 x.n), (Value.string (bs x.s))]) ∧ (Own w' w.heap.size 5 1 y ((keyV x).length + (putL l).length + i) ((keyV x ++ putL l ++ (be8 n).take i).map u8v))) _ hN hd ⟨0, _, rfl, (sl_base hN rfl s0), (sl_base hN rfl s1), (sl_base hN rfl s2), (sl_hit hN rfl), (sl_hit hN rfl), (sl_hit hN rfl), (sl_hit hN rfl), (sl_hit hN rfl), (sl_hit hN rfl), (sl_hit hN rfl).trans (congrArg (Value.int .i64) (by omega)), (sl_hit hN rfl), Nat.zero_le _, hb, h, hB36, ((hO44.mono (by omega)).cast (by simp [keyR_eq hn]; try omega) (by simp [keyR_eq hn]))⟩ ?_
  rintro _ a50 w50 hN50 hd50 ⟨i, y, rfl, s50_0, s50_1, s50_2, s50_3, s50_6, s50_9, s50_10, s50_11, s50_12, s50_8, s50_7, hi, hb, h, hB36, hO51⟩
  have z_w50 := hb.size
  refine seq_any fun K52 hK52 => ?_
  refine seq_any fun K53 hK53 => ?_
  refine one_reg ?_
  refine op_move (ev_base hN50 rfl s50_8) ?_
  refine op_geq (ev_hit hN50 rfl) rfl (fun c14 => ?_) (fun c14 => ?_)
  · -- 14 True
    refine reg_nil ?_
    refine hK53 _ _ ?_
    refine wp_cond_true (ev_hit hN50 rfl) ?_
    refine wp_skip ?_
    refine hK52 _ _ ?_
    refine seq_any fun K54 hK54 => ?_
    refine wp_block ?_
    refine one_reg ?_
    refine op_move (ev_base hN50 rfl s50_7) ?_
    refine op_move (ev_base hN50 rfl s50_2) ?_
    refine op_move (ev_base hN50 rfl s50_8) ?_
    refine op_mul rfl (ev_hit hN50 rfl) (mul64 (by omega)) ?_
    refine op_shr (r := (((n / 2 ^ (56 - 8 * i)) : Nat) : Int)) (ev_hit hN50 rfl) (ev_hit hN50 rfl) (by omega) (shr_nat (j := 56 - 8 * i) (by omega) (by show 56 - 8 * i ≤ 64; omega)) ?_
    refine op_rem (r := (((n / 2 ^ (56 - 8 * i)) % 256 : Nat) : Int)) (ev_hit hN50 rfl) rfl (by decide) rem_256 ?_
    refine op_conv (r := ((UInt8.ofNat ((n / 2 ^ (56 - 8 * i)) % 256)).toNat : Int)) (ev_hit hN50 rfl) us76 Try.underlying5 conv_u8 ?_
    refine op_bslice (e := 5) (pv := [(0, (Value.int .u8 ((UInt8.ofNat ((n / 2 ^ (56 - 8 * i)) % 256)).toNat : Int)))]) (cs := [(Value.int .u8 ((UInt8.ofNat ((n / 2 ^ (56 - 8 * i)) % 256)).toNat : Int))]) ⟨rfl, (ev_hit hN50 rfl), trivial⟩ (by kernel_rfl) ?_
    intro w55 b56 lo_b56 hi_b56 hB58 E57
    have ne_b56_y : y.ownBlock ≠ some b56 := fun hh => by have := (hO51.lt _ hh).2; omega
    have z_w55 := E57.size
    have h := h.keep0 E57
    have hB36 := hB36.keep0 E57
    have hO51 := hO51.keep0 E57
    have hb := below_step0 hb E57 hb.size
    have hP64 := hO51
    refine op_append slt22 (ev_hit hN50 rfl) hP64 (ev_hit hN50 rfl) (Src.ofRd Try.underlying22 (by decide) (RdC.ofBx (sz := 1) (n := 1) hB58 rfl (by decide)) (by simp [Value.oneCell', u8v])) (by unfold maxLen; omega) (by omega) hb.size ?_
    intro v59 w60 hO62 E61 hm63
    have z_w60 := E61.size
    have h := h.keepO hP64 E61 (by omega)
    have hB36 := hB36.keepO hP64 E61 (by decide)
    have hB58 := hB58.keep E61 (fun hh => ne_b56_y hh.symm)
    have hb := below_stepO hb hP64 E61 hb.size (by omega)
    have hO62 : Own w60 w.heap.size 5 1 v59 (((keyV x).length + (putL l).length + i) + 1) ((((keyV x ++ putL l ++ (be8 n).take i) ++ [(UInt8.ofNat ((n / 2 ^ (56 - 8 * i)) % 256))])).map u8v) := by simpa [u8v, u16v, cellsV] using hO62
    have ne_b56_v59 : v59.ownBlock ≠ some b56 := ne_step (w1 := w55) ⟨E61, hm63⟩ (by omega) ne_b56_y
    refine op_assign (ev_hit hN50 rfl) ?_
    refine reg_nil ?_
    refine hK54 _ _ ?_
    refine one_reg ?_
    refine op_move (ev_base hN50 rfl s50_8) ?_
    refine op_sub (ev_hit hN50 rfl) rfl (sub64 (by omega)) ?_
    refine op_assign (ev_hit hN50 rfl) ?_
    refine reg_nil ?_
    -- round 14T
    exact loop_next _ hN50 hd50 ⟨i + 1, _, rfl, (sl_base hN50 rfl s50_0), (sl_base hN50 rfl s50_1), (sl_base hN50 rfl s50_2), (sl_base hN50 rfl s50_3), (sl_base hN50 rfl s50_6), (sl_base hN50 rfl s50_9), (sl_base hN50 rfl s50_10), (sl_base hN50 rfl s50_11), (sl_base hN50 rfl s50_12), (sl_hit hN50 rfl).trans (congrArg (Value.int .i64) (by omega)), (sl_hit hN50 rfl), (by omega), hb, h, hB36, (hO62.cast (by first | omega | (simp; try omega)) (by rw [be8_take (by omega)]; simp [ofNat_mod]))⟩ (by omega)
  · -- 14 False
    refine reg_nil ?_
    refine hK53 _ _ ?_
    refine wp_cond_false (ev_hit hN50 rfl) ?_
    refine wp_exit (then_exit (then_exit (blk_hit ?_)))
    refine hK48 _ _ ?_
    refine seq_any fun K65 hK65 => ?_
    refine one_reg ?_
    refine op_move (ev_base hN50 rfl s50_7) ?_
    refine op_assign (ev_hit hN50 rfl) ?_
    refine reg_nil ?_
    refine hK65 _ _ ?_
    refine wp_ret ?_
    refine ret1 rfl hd50 (ev_hit hN50 rfl) ⟨_, rfl, ?_⟩
    -- path 14F
    have hi8 : i = 8 := by omega
    subst hi8
    have hq := hO51
    rw [List.take_of_length_le (by rw [be8_len]; omega)] at hq
    exact ⟨hb, hq.cast (by simp only [keyX, List.length_append, be8_len]) rfl⟩

end Go.Proofs.Ytkkongnmcfdioaa
