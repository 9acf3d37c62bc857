/- Walks, written by a program: what each function of the translation hands back. -/
import Derived.Test.YtkkongnmcfdioaaR3
namespace Go.Proofs.Ytkkongnmcfdioaa
open Go.Gx Go.RowKit
attribute [local irreducible] wpList Code.wp Calls

theorem next_ret (bl : List UInt8) (r : Nat) (bv : Value) (w : World) (hl : bl.length ≤ 1000000000000) (hr : Bx w r 105 [bv, (Value.func (.func 40) #[] #[])]) (hv : RdC w 0 r 1 bv bl.length (bl.map u8v)) : Ret Try.prog 86 #[(ptr r 0)] w (fun v' w' => w.grownBy w' (some r) ∧ ∃ bv', v' = .tuple #[.agg #[.int .i64 (takeV bl).1.k, .int .i64 (takeV bl).1.n, .string (bs (takeV bl).1.s)], .int .i64 (takeV bl).2.2] ∧ RdC w' 0 r 1 bv' (bl.drop (takeV bl).2.1.toNat).length ((bl.drop (takeV bl).2.1.toNat).map u8v) ∧ Bx w' r 105 [bv', (Value.func (.func 40) #[] #[])]) := by
  have hr_lt := hr.lt
  have htl := takeV_len bl
  have hb := grown_refl w (some r)
  refine enter (N := 31) Try.func86 rfl rfl (by simp) fun a0 hN hd hA => ?_
  have s0 : a0.tmps.getD 0 undef = (ptr r 0) := hA 0 (by simp)
  clear hA
  refine seq_any fun K1 hK1 => ?_
  refine one_reg ?_
  refine op_alloc (cs := [(Value.int .i64 0), (Value.int .i64 0), (Value.string (bs []))]) zero50 rfl ?_
  intro w2 b3 lo_b3 hi_b3 hB5 E4
  have z_w2 := E4.size
  have hr := hr.keep0 E4
  have hv := hv.keep0 E4
  have hb := grow_step0 hb E4
  refine op_assign rfl ?_
  refine reg_nil ?_
  refine hK1 _ _ ?_
  refine seq_any fun K6 hK6 => ?_
  refine reg_store 13 14 4 50 10 17 (Φ := phiL [(fun uz _ => uz = (ptr r 0)), (fun uz _ => uz = (ptr r 0)), (fun uz _ => uz = (ptr r 1)), (fun uz _ => uz = (Value.func (.func 40) #[] #[])), (fun uz _ => uz = (ptr r 0)), (fun uz _ => uz = (ptr r 0)), (fun uz _ => uz = (ptr r 0)), (fun uz _ => uz = bv), (fun uz _ => uz = (Value.tuple #[(Value.agg #[(Value.int .i64 (takeV bl).1.k), (Value.int .i64 (takeV bl).1.n), (Value.string (bs (takeV bl).1.s))]), (Value.int .i64 (takeV bl).2.1), (Value.int .i64 (takeV bl).2.2)])), (fun uz _ => uz = (Value.tuple #[(Value.agg #[(Value.int .i64 (takeV bl).1.k), (Value.int .i64 (takeV bl).1.n), (Value.string (bs (takeV bl).1.s))]), (Value.int .i64 (takeV bl).2.1), (Value.int .i64 (takeV bl).2.2)])), (fun uz _ => uz = (Value.agg #[(Value.int .i64 (takeV bl).1.k), (Value.int .i64 (takeV bl).1.n), (Value.string (bs (takeV bl).1.s))])), (fun uz _ => uz = (Value.int .i64 (takeV bl).2.1)), (fun uz _ => uz = (Value.int .i64 (takeV bl).2.2)), (fun _ _ => True), (fun _ _ => True), (fun uz _ => uz = (Value.int .i64 (takeV bl).2.1)), (fun uz _ => uz = (Value.int .i64 (takeV bl).2.2))]) (cs := [(Value.int .i64 (takeV bl).1.k), (Value.int .i64 (takeV bl).1.n), (Value.string (bs (takeV bl).1.s))]) (val := (Value.agg #[(Value.int .i64 (takeV bl).1.k), (Value.int .i64 (takeV bl).1.n), (Value.string (bs (takeV bl).1.s))])) mixed (by kernel_rfl) (by kernel_rfl) (by kernel_rfl) (by kernel_rfl) hN rfl rfl zero50 rfl size50 rfl rfl rfl (by kernel_rfl) rfl (fun _ _ h => h) (fun _ _ => trivial) (StB.get (StB.eq (StB.eq (StB.eq (StB.eq (StB.eq (StB.eq (StB.eq (StB.eq (StB.eq (StB.eq (StB.eq (StB.eq (StB.eq (StB.any (StB.any (StB.eq (StB.eq (StB.nil))))))))))))))))))) (ObS.get (ObS.cons ?_ (ObS.cons ?_ (ObS.cons ?_ (ObS.cons ?_ (ObS.cons ?_ (ObS.cons ?_ (ObS.cons ?_ (ObS.cons ?_ (ObS.cons ?_ (ObS.cons ?_ (ObS.cons ?_ (ObS.cons ?_ (ObS.cons ?_ (ObS.pass1 (ObS.pass2 (ObS.cons ?_ (ObS.cons ?_ (ObS.nil))))))))))))))))))) ?_
  · -- operation 0, slot 8
    intro a7 w7 hN7 hR7 hbs7 hdp7
    have hR7 : w2.grownBy w7 none := hR7.grown
    have q7_0 : a7.tmps.getD 0 undef = (ptr r 0) := (hbs7 0 rfl).trans (sl_base hN rfl s0)
    clear hbs7 hdp7
    refine op_move (ev_base hN7 rfl q7_0) ?_
    exact obN_end rfl rfl ((grown_refl _ _))
  · -- operation 1, slot 9
    intro a8 w8 hN8 hR8 hbs8 hdp8
    have hR8 : w2.grownBy w8 none := hR8.grown
    have q8_8 : a8.tmps.getD 8 undef = (ptr r 0) := hdp8 0 _ 8 (by kernel_rfl) rfl rfl
    clear hbs8 hdp8
    refine op_nil (ev_base hN8 rfl q8_8) ?_
    exact obN_end rfl rfl ((grown_refl _ _))
  · -- operation 2, slot 10
    intro a9 w9 hN9 hR9 hbs9 hdp9
    have hR9 : w2.grownBy w9 none := hR9.grown
    have q9_9 : a9.tmps.getD 9 undef = (ptr r 0) := hdp9 1 _ 9 (by kernel_rfl) rfl rfl
    clear hbs9 hdp9
    refine op_field fld105_1 (ev_base hN9 rfl q9_9) ?_
    exact obN_end rfl rfl ((grown_refl _ _))
  · -- operation 3, slot 11
    intro a10 w10 hN10 hR10 hbs10 hdp10
    have hR10 : w2.grownBy w10 none := hR10.grown
    have z_w10 := hR10.size
    have hr := hr.keep0 hR10
    have hv := hv.keep0 hR10
    have hB5 := hB5.keep0 hR10
    have hb := grow_step0 hb hR10
    have q10_10 : a10.tmps.getD 10 undef = (ptr r 1) := hdp10 2 _ 10 (by kernel_rfl) rfl rfl
    clear hbs10 hdp10
    refine op_load1 (v := (Value.func (.func 40) #[] #[])) one60 (ev_base hN10 rfl q10_10) (hr.cell rfl) ?_
    exact obN_end rfl rfl ((grown_refl _ _))
  · -- operation 4, slot 12
    intro a11 w11 hN11 hR11 hbs11 hdp11
    have hR11 : w2.grownBy w11 none := hR11.grown
    have q11_0 : a11.tmps.getD 0 undef = (ptr r 0) := (hbs11 0 rfl).trans (sl_base hN rfl s0)
    clear hbs11 hdp11
    refine op_move (ev_base hN11 rfl q11_0) ?_
    exact obN_end rfl rfl ((grown_refl _ _))
  · -- operation 5, slot 13
    intro a12 w12 hN12 hR12 hbs12 hdp12
    have hR12 : w2.grownBy w12 none := hR12.grown
    have q12_12 : a12.tmps.getD 12 undef = (ptr r 0) := hdp12 4 _ 12 (by kernel_rfl) rfl rfl
    clear hbs12 hdp12
    refine op_nil (ev_base hN12 rfl q12_12) ?_
    exact obN_end rfl rfl ((grown_refl _ _))
  · -- operation 6, slot 14
    intro a13 w13 hN13 hR13 hbs13 hdp13
    have hR13 : w2.grownBy w13 none := hR13.grown
    have q13_13 : a13.tmps.getD 13 undef = (ptr r 0) := hdp13 5 _ 13 (by kernel_rfl) rfl rfl
    clear hbs13 hdp13
    refine op_field fld105_0 (ev_base hN13 rfl q13_13) ?_
    exact obN_end rfl rfl ((grown_refl _ _))
  · -- operation 7, slot 15
    intro a14 w14 hN14 hR14 hbs14 hdp14
    have hR14 : w2.grownBy w14 none := hR14.grown
    have z_w14 := hR14.size
    have hr := hr.keep0 hR14
    have hv := hv.keep0 hR14
    have hB5 := hB5.keep0 hR14
    have hb := grow_step0 hb hR14
    have q14_14 : a14.tmps.getD 14 undef = (ptr r 0) := hdp14 6 _ 14 (by kernel_rfl) rfl rfl
    clear hbs14 hdp14
    refine op_load1 (v := bv) one22 (ev_base hN14 rfl q14_14) (hr.cell rfl) ?_
    exact obN_end rfl rfl ((grown_refl _ _))
  · -- operation 8, slot 16
    intro a15 w15 hN15 hR15 hbs15 hdp15
    have hR15 : w2.grownBy w15 none := hR15.grown
    have z_w15 := hR15.size
    have hr := hr.keep0 hR15
    have hv := hv.keep0 hR15
    have hB5 := hB5.keep0 hR15
    have hb := grow_step0 hb hR15
    have q15_11 : a15.tmps.getD 11 undef = (Value.func (.func 40) #[] #[]) := hdp15 3 _ 11 (by kernel_rfl) rfl rfl
    have q15_15 : a15.tmps.getD 15 undef = bv := hdp15 7 _ 15 (by kernel_rfl) rfl rfl
    clear hbs15 hdp15
    have hq16 : RdC w15 0 w15.heap.size 1 bv bl.length (bl.map u8v) := by have hh : RdC w15 0 w15.heap.size 1 _ _ _ := (hv.mono (L' := 0) (B' := w15.heap.size) (Nat.zero_le _) (by omega)); first | simpa using hh | simpa [Nat.add_comm, Nat.add_left_comm, Nat.add_assoc] using hh
    refine op_fnv (fs := []) (vs := [bv]) (cs := []) (ev_base hN15 rfl q15_11) ok40 ⟨(ev_base hN15 rfl q15_15), trivial⟩ (Take_ret bl bv _ (by first | assumption | omega | (simp only [List.length_append, List.length_cons, List.length_nil, List.length_drop, List.length_take]; omega) | (dsimp only; omega) | decide | (simp [keyV, be8_len]; done)) hq16) ?_
    rintro _ w17 ⟨E18, rfl⟩
    have E18 := grown_of_below E18
    have z_w17 := E18.size
    have hr := hr.keep0 E18
    have hv := hv.keep0 E18
    have hB5 := hB5.keep0 E18
    have hb := grow_step0 hb E18
    exact obN_end rfl rfl (E18)
  · -- operation 9, slot 7
    intro a19 w19 hN19 hR19 hbs19 hdp19
    have hR19 : w2.grownBy w19 none := hR19.grown
    have q19_16 : a19.tmps.getD 16 undef = (Value.tuple #[(Value.agg #[(Value.int .i64 (takeV bl).1.k), (Value.int .i64 (takeV bl).1.n), (Value.string (bs (takeV bl).1.s))]), (Value.int .i64 (takeV bl).2.1), (Value.int .i64 (takeV bl).2.2)]) := hdp19 8 _ 16 (by kernel_rfl) rfl rfl
    clear hbs19 hdp19
    refine op_move (ev_base hN19 rfl q19_16) ?_
    exact obN_end rfl rfl ((grown_refl _ _))
  · -- operation 10, slot 17
    intro a20 w20 hN20 hR20 hbs20 hdp20
    have hR20 : w2.grownBy w20 none := hR20.grown
    have q20_7 : a20.tmps.getD 7 undef = (Value.tuple #[(Value.agg #[(Value.int .i64 (takeV bl).1.k), (Value.int .i64 (takeV bl).1.n), (Value.string (bs (takeV bl).1.s))]), (Value.int .i64 (takeV bl).2.1), (Value.int .i64 (takeV bl).2.2)]) := hdp20 9 _ 7 (by kernel_rfl) rfl rfl
    clear hbs20 hdp20
    refine op_extract (ev_base hN20 rfl q20_7) rfl ?_
    exact obN_end rfl rfl ((grown_refl _ _))
  · -- operation 11, slot 18
    intro a21 w21 hN21 hR21 hbs21 hdp21
    have hR21 : w2.grownBy w21 none := hR21.grown
    have q21_7 : a21.tmps.getD 7 undef = (Value.tuple #[(Value.agg #[(Value.int .i64 (takeV bl).1.k), (Value.int .i64 (takeV bl).1.n), (Value.string (bs (takeV bl).1.s))]), (Value.int .i64 (takeV bl).2.1), (Value.int .i64 (takeV bl).2.2)]) := hdp21 9 _ 7 (by kernel_rfl) rfl rfl
    clear hbs21 hdp21
    refine op_extract (ev_base hN21 rfl q21_7) rfl ?_
    exact obN_end rfl rfl ((grown_refl _ _))
  · -- operation 12, slot 19
    intro a22 w22 hN22 hR22 hbs22 hdp22
    have hR22 : w2.grownBy w22 none := hR22.grown
    have q22_7 : a22.tmps.getD 7 undef = (Value.tuple #[(Value.agg #[(Value.int .i64 (takeV bl).1.k), (Value.int .i64 (takeV bl).1.n), (Value.string (bs (takeV bl).1.s))]), (Value.int .i64 (takeV bl).2.1), (Value.int .i64 (takeV bl).2.2)]) := hdp22 9 _ 7 (by kernel_rfl) rfl rfl
    clear hbs22 hdp22
    refine op_extract (ev_base hN22 rfl q22_7) rfl ?_
    exact obN_end rfl rfl ((grown_refl _ _))
  · -- operation 15, slot 5
    intro a23 w23 hN23 hR23 hbs23 hdp23
    have hR23 : w2.grownBy w23 none := hR23.grown
    have q23_18 : a23.tmps.getD 18 undef = (Value.int .i64 (takeV bl).2.1) := hdp23 11 _ 18 (by kernel_rfl) rfl rfl
    clear hbs23 hdp23
    refine op_assign (ev_base hN23 rfl q23_18) ?_
    exact obN_end rfl rfl ((grown_refl _ _))
  · -- operation 16, slot 6
    intro a24 w24 hN24 hR24 hbs24 hdp24
    have hR24 : w2.grownBy w24 none := hR24.grown
    have q24_19 : a24.tmps.getD 19 undef = (Value.int .i64 (takeV bl).2.2) := hdp24 12 _ 19 (by kernel_rfl) rfl rfl
    clear hbs24 hdp24
    refine op_assign (ev_base hN24 rfl q24_19) ?_
    exact obN_end rfl rfl ((grown_refl _ _))
  · -- behind the region
    intro a25 w25 hN25 hd25 hbs25 hph25 hst25 E25
    have hd25 := hd25.trans hd
    obtain ⟨b26, s25_4, lo_b26, hi_b26, hB27⟩ := hst25
    have s25_0 : a25.tmps.getD 0 undef = (ptr r 0) := (hbs25 0 rfl).trans (sl_base hN rfl s0)
    have s25_2 : a25.tmps.getD 2 undef = (ptr b3 0) := (hbs25 2 rfl).trans (sl_hit hN rfl)
    have s25_3 : a25.tmps.getD 3 undef = (Value.int .i64 0) := (hbs25 3 rfl).trans (sl_hit hN rfl)
    have s25_5 : a25.tmps.getD 5 undef = (Value.int .i64 (takeV bl).2.1) := hph25 15 _ 5 rfl rfl
    have s25_6 : a25.tmps.getD 6 undef = (Value.int .i64 (takeV bl).2.2) := hph25 16 _ 6 rfl rfl
    have s25_7 : a25.tmps.getD 7 undef = (Value.tuple #[(Value.agg #[(Value.int .i64 (takeV bl).1.k), (Value.int .i64 (takeV bl).1.n), (Value.string (bs (takeV bl).1.s))]), (Value.int .i64 (takeV bl).2.1), (Value.int .i64 (takeV bl).2.2)]) := hph25 9 _ 7 rfl rfl
    have s25_8 : a25.tmps.getD 8 undef = (ptr r 0) := hph25 0 _ 8 rfl rfl
    have s25_9 : a25.tmps.getD 9 undef = (ptr r 0) := hph25 1 _ 9 rfl rfl
    have s25_10 : a25.tmps.getD 10 undef = (ptr r 1) := hph25 2 _ 10 rfl rfl
    have s25_11 : a25.tmps.getD 11 undef = (Value.func (.func 40) #[] #[]) := hph25 3 _ 11 rfl rfl
    have s25_12 : a25.tmps.getD 12 undef = (ptr r 0) := hph25 4 _ 12 rfl rfl
    have s25_13 : a25.tmps.getD 13 undef = (ptr r 0) := hph25 5 _ 13 rfl rfl
    have s25_14 : a25.tmps.getD 14 undef = (ptr r 0) := hph25 6 _ 14 rfl rfl
    have s25_15 : a25.tmps.getD 15 undef = bv := hph25 7 _ 15 rfl rfl
    have s25_16 : a25.tmps.getD 16 undef = (Value.tuple #[(Value.agg #[(Value.int .i64 (takeV bl).1.k), (Value.int .i64 (takeV bl).1.n), (Value.string (bs (takeV bl).1.s))]), (Value.int .i64 (takeV bl).2.1), (Value.int .i64 (takeV bl).2.2)]) := hph25 8 _ 16 rfl rfl
    have s25_17 : a25.tmps.getD 17 undef = (Value.agg #[(Value.int .i64 (takeV bl).1.k), (Value.int .i64 (takeV bl).1.n), (Value.string (bs (takeV bl).1.s))]) := hph25 10 _ 17 rfl rfl
    have s25_18 : a25.tmps.getD 18 undef = (Value.int .i64 (takeV bl).2.1) := hph25 11 _ 18 rfl rfl
    have s25_19 : a25.tmps.getD 19 undef = (Value.int .i64 (takeV bl).2.2) := hph25 12 _ 19 rfl rfl
    clear hbs25 hph25
    have E25 : w2.grownBy w25 none := E25
    have z_w25 := E25.size
    have hr := hr.keep0 E25
    have hv := hv.keep0 E25
    have hB5 := hB5.keep0 E25
    have hb := grow_step0 hb E25
    refine hK6 _ _ ?_
    refine seq_any fun K28 hK28 => ?_
    refine one_reg ?_
    refine op_move (ev_base hN25 rfl s25_0) ?_
    refine op_move (ev_base hN25 rfl s25_0) ?_
    refine op_nil (ev_hit hN25 rfl) ?_
    refine op_field fld105_0 (ev_hit hN25 rfl) ?_
    refine op_load1 (v := bv) one22 (ev_hit hN25 rfl) (hr.cell rfl) ?_
    refine op_move (ev_base hN25 rfl s25_5) ?_
    refine op_slice_rd (lo := (takeV bl).2.1.toNat) (hi := bl.length) slt22 (ev_hit hN25 rfl) hv (.inr ⟨_, _, rfl, (ev_hit hN25 rfl).trans (congrArg (Value.int _) (by omega))⟩) (.inl ⟨rfl, rfl⟩) (by omega) (by omega) ?_
    intro v29 hR30
    have hR30 : RdC w25 0 r 1 v29 (bl.length - (takeV bl).2.1.toNat) (((bl.drop (takeV bl).2.1.toNat)).map u8v) := by simpa [List.map_drop, List.take_of_length_le] using hR30
    refine op_nil (ev_hit hN25 rfl) ?_
    refine op_field fld105_0 (ev_hit hN25 rfl) ?_
    have hr_old := hr
    refine op_store (vs := [v29]) (cs' := [v29, (Value.func (.func 40) #[] #[])]) size22 (ev_hit hN25 rfl) (ev_hit hN25 rfl) hR30.cl rfl (by simp only [List.all_cons, List.all_nil, Bool.true_and, Bool.and_true, hR30.one]; try rfl) hr (Nat.le_of_ble_eq_true rfl) rfl ?_
    intro w33 hr E34
    have z_w33 := E34.size
    have hv := hv.keep E34 (fun k hk => .inr (by simp at hk; omega))
    have hB5 := hB5.keep E34 (by simp; omega)
    have hB27 := hB27.keep E34 (by simp; omega)
    have hR30 := hR30.keep E34 (fun k hk => .inr (by simp at hk; omega))
    have hb := grown_trans hb E34
    refine reg_nil ?_
    refine hK28 _ _ ?_
    refine seq_any fun K35 hK35 => ?_
    refine one_reg ?_
    refine op_loadA (cs := [(Value.int .i64 (takeV bl).1.k), (Value.int .i64 (takeV bl).1.n), (Value.string (bs (takeV bl).1.s))]) agg50 rfl (ev_base hN25 rfl s25_4) (fun j u hu => by rw [Nat.zero_add]; exact hB27.cell hu) ?_
    refine op_move (ev_base hN25 rfl s25_6) ?_
    have hB5_old := hB5
    refine op_store (vs := [(Value.int .i64 (takeV bl).1.k), (Value.int .i64 (takeV bl).1.n), (Value.string (bs (takeV bl).1.s))]) (cs' := [(Value.int .i64 (takeV bl).1.k), (Value.int .i64 (takeV bl).1.n), (Value.string (bs (takeV bl).1.s))]) size50 (ev_base hN25 rfl s25_2) (ev_hit hN25 rfl) rfl rfl rfl hB5 (Nat.le_of_ble_eq_true rfl) rfl ?_
    intro w38 hB5 E39
    have z_w38 := E39.size
    have hv := hv.keep E39 (fun k hk => .inr (by simp at hk; omega))
    have hB27 := hB27.keep E39 (by simp; omega)
    have hR30 := hR30.keep E39 (fun k hk => .inr (by simp at hk; omega))
    have hr := hr.keep E39 (by simp; omega)
    have hb := grow_step1 hb E39 (by omega)
    refine op_assign (ev_hit hN25 rfl) ?_
    refine reg_nil ?_
    refine hK35 _ _ ?_
    refine wp_ret ?_
    refine retN (rs := [.cell 2 50, .tmp 3]) (vs := [(Value.agg #[(Value.int .i64 (takeV bl).1.k), (Value.int .i64 (takeV bl).1.n), (Value.string (bs (takeV bl).1.s))]), (Value.int .i64 (takeV bl).2.2)]) rfl hd25 ⟨⟨_, (ev_base hN25 rfl s25_2), run_loadA (cs := [(Value.int .i64 (takeV bl).1.k), (Value.int .i64 (takeV bl).1.n), (Value.string (bs (takeV bl).1.s))]) agg50 rfl (fun j u hu => by rw [Nat.zero_add]; exact hB5.cell hu)⟩, ⟨(ev_hit hN25 rfl), trivial⟩⟩ rfl ⟨_, rfl, ?_⟩
    -- path
    exact ⟨hb, _, rfl, hR30.cast (by simp) rfl, hr⟩

end Go.Proofs.Ytkkongnmcfdioaa
