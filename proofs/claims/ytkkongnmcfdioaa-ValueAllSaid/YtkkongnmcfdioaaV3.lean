/- Walks, written by a program: what each function of the translation hands back. -/
import Derived.Test.YtkkongnmcfdioaaV2
namespace Go.Proofs.Ytkkongnmcfdioaa
open Go.Gx Go.RowKit
attribute [local irreducible] wpList Code.wp Calls

theorem Compare_ret (x y : Vl) (w : World) : Ret Try.prog 35 #[(Value.agg #[(Value.int .i64 x.k), (Value.int .i64 x.n), (Value.string (bs x.s))]), (Value.agg #[(Value.int .i64 y.k), (Value.int .i64 y.n), (Value.string (bs y.s))])] w (fun v' w' => Below w.heap.size w w' ∧ v' = .int .i64 (cmpW x y)) := by
  have hb := Below.refl w.heap.size w
  refine enter (N := 32) Try.func35 rfl rfl (by simp) fun a0 hN hd hA => ?_
  have s0 : a0.tmps.getD 0 undef = (Value.agg #[(Value.int .i64 x.k), (Value.int .i64 x.n), (Value.string (bs x.s))]) := hA 0 (by simp)
  have s1 : a0.tmps.getD 1 undef = (Value.agg #[(Value.int .i64 y.k), (Value.int .i64 y.n), (Value.string (bs y.s))]) := hA 1 (by simp)
  clear hA
  refine seq_any fun K1 hK1 => ?_
  refine one_reg ?_
  refine op_box (cs := [(Value.int .i64 x.k), (Value.int .i64 x.n), (Value.string (bs x.s))]) (ev_base hN rfl s0) rfl ?_
  intro w2 b3 lo_b3 hi_b3 hB5 E4
  have z_w2 := E4.size
  have hb := below_step0 hb E4 hb.size
  refine op_box (cs := [(Value.int .i64 y.k), (Value.int .i64 y.n), (Value.string (bs y.s))]) (ev_base hN rfl s1) rfl ?_
  intro w6 b7 lo_b7 hi_b7 hB9 E8
  have z_w6 := E8.size
  have hB5 := hB5.keep0 E8
  have hb := below_step0 hb E8 hb.size
  refine op_assign rfl ?_
  refine reg_nil ?_
  refine hK1 _ _ ?_
  refine seq_any fun K10 hK10 => ?_
  refine seq_any fun K11 hK11 => ?_
  refine reg_quiet (Φ := phiL [(fun u _ => u = (ptr b3 0)), (fun u _ => u = (Value.int .i64 x.k)), (fun u _ => u = (ptr b7 0)), (fun u _ => u = (Value.int .i64 y.k)), (fun u _ => u = (Value.agg #[(Value.int .i64 x.k), (Value.int .i64 y.k)])), (fun u w' => ∃ (b13 : Nat), u = (Value.slice (some ⟨b13, 0, none⟩) 1 1) ∧ w6.heap.size ≤ b13 ∧ Bx w' b13 98 [(Value.int .i64 x.k), (Value.int .i64 y.k)]), (fun u _ => u = (Value.int .i64 (cmpI x.k y.k))), (fun u _ => u = (ptr b3 1)), (fun u _ => u = (Value.int .i64 x.n)), (fun u _ => u = (ptr b7 1)), (fun u _ => u = (Value.int .i64 y.n)), (fun u _ => u = (Value.agg #[(Value.int .i64 x.n), (Value.int .i64 y.n)])), (fun u w' => ∃ (b19 : Nat), u = (Value.slice (some ⟨b19, 0, none⟩) 1 1) ∧ w6.heap.size ≤ b19 ∧ Bx w' b19 100 [(Value.int .i64 x.n), (Value.int .i64 y.n)]), (fun u _ => u = (Value.int .i64 (cmpI x.n y.n))), (fun u w' => ∃ (b25 : Nat), u = (Value.slice (some ⟨b25, 0, none⟩) 2 2) ∧ w6.heap.size ≤ b25 ∧ Bx w' b25 3 [(Value.int .i64 (cmpI x.k y.k)), (Value.int .i64 (cmpI x.n y.n))]), (fun u _ => u = (Value.int .i64 (if (cmpI x.k y.k) = 0 then (cmpI x.n y.n) else (cmpI x.k y.k)))), (fun u _ => u = (Value.int .i64 (if (cmpI x.k y.k) = 0 then (cmpI x.n y.n) else (cmpI x.k y.k))))]) mixed (by kernel_rfl) (by kernel_rfl) (by kernel_rfl) hN (StL.get (StL.eq (StL.eq (StL.eq (StL.eq (StL.eq (StL.cons (fun u w1 w2 E h => by obtain ⟨x0, hv, l0, f0⟩ := h; exact ⟨x0, hv, l0, f0.keep0 E⟩) (StL.eq (StL.eq (StL.eq (StL.eq (StL.eq (StL.eq (StL.cons (fun u w1 w2 E h => by obtain ⟨x0, hv, l0, f0⟩ := h; exact ⟨x0, hv, l0, f0.keep0 E⟩) (StL.eq (StL.cons (fun u w1 w2 E h => by obtain ⟨x0, hv, l0, f0⟩ := h; exact ⟨x0, hv, l0, f0.keep0 E⟩) (StL.eq (StL.eq (StL.nil _))))))))))))))))))) (ObL.get (s := 17) (ObL.cons ?_ (ObL.cons ?_ (ObL.cons ?_ (ObL.cons ?_ (ObL.cons ?_ (ObL.cons ?_ (ObL.cons ?_ (ObL.cons ?_ (ObL.cons ?_ (ObL.cons ?_ (ObL.cons ?_ (ObL.cons ?_ (ObL.cons ?_ (ObL.cons ?_ (ObL.cons ?_ (ObL.cons ?_ (ObL.cons ?_ (ObL.nil)))))))))))))))))) rfl) ?_
  · -- operation 0, slot 6
    intro a12 w12 hN12 hR12 hbs12 hdp12
    have hR12 : w6.grownBy w12 none := hR12
    have q12_2 : a12.tmps.getD 2 undef = (ptr b3 0) := (hbs12 2 rfl).trans (sl_hit hN rfl)
    clear hbs12 hdp12
    refine op_field fld50_0 (ev_base hN12 rfl q12_2) ?_
    exact obN_end rfl rfl ((grown_refl _ _))
  · -- operation 1, slot 7
    intro a13 w13 hN13 hR13 hbs13 hdp13
    have hR13 : w6.grownBy w13 none := hR13
    have z_w13 := hR13.size
    have hB5 := hB5.keep0 hR13
    have hB9 := hB9.keep0 hR13
    have hb := below_step0 hb hR13 hb.size
    have q13_6 : a13.tmps.getD 6 undef = (ptr b3 0) := hdp13 0 _ 6 (by kernel_rfl) rfl rfl
    clear hbs13 hdp13
    refine op_load1 (v := (Value.int .i64 x.k)) one3 (ev_base hN13 rfl q13_6) (hB5.cell rfl) ?_
    exact obN_end rfl rfl ((grown_refl _ _))
  · -- operation 2, slot 8
    intro a14 w14 hN14 hR14 hbs14 hdp14
    have hR14 : w6.grownBy w14 none := hR14
    have q14_3 : a14.tmps.getD 3 undef = (ptr b7 0) := (hbs14 3 rfl).trans (sl_hit hN rfl)
    clear hbs14 hdp14
    refine op_field fld50_0 (ev_base hN14 rfl q14_3) ?_
    exact obN_end rfl rfl ((grown_refl _ _))
  · -- operation 3, slot 9
    intro a15 w15 hN15 hR15 hbs15 hdp15
    have hR15 : w6.grownBy w15 none := hR15
    have z_w15 := hR15.size
    have hB5 := hB5.keep0 hR15
    have hB9 := hB9.keep0 hR15
    have hb := below_step0 hb hR15 hb.size
    have q15_8 : a15.tmps.getD 8 undef = (ptr b7 0) := hdp15 2 _ 8 (by kernel_rfl) rfl rfl
    clear hbs15 hdp15
    refine op_load1 (v := (Value.int .i64 y.k)) one3 (ev_base hN15 rfl q15_8) (hB9.cell rfl) ?_
    exact obN_end rfl rfl ((grown_refl _ _))
  · -- operation 4, slot 10
    intro a16 w16 hN16 hR16 hbs16 hdp16
    have hR16 : w6.grownBy w16 none := hR16
    have q16_7 : a16.tmps.getD 7 undef = (Value.int .i64 x.k) := hdp16 1 _ 7 (by kernel_rfl) rfl rfl
    have q16_9 : a16.tmps.getD 9 undef = (Value.int .i64 y.k) := hdp16 3 _ 9 (by kernel_rfl) rfl rfl
    clear hbs16 hdp16
    refine op_build (pv := [(0, (Value.int .i64 x.k)), (1, (Value.int .i64 y.k))]) (v := (Value.agg #[(Value.int .i64 x.k), (Value.int .i64 y.k)])) ⟨rfl, (ev_base hN16 rfl q16_7), ⟨rfl, (ev_base hN16 rfl q16_9), trivial⟩⟩ (by kernel_rfl) ?_
    exact obN_end rfl rfl ((grown_refl _ _))
  · -- operation 5, slot 11
    intro a17 w17 hN17 hR17 hbs17 hdp17
    have hR17 : w6.grownBy w17 none := hR17
    have z_w17 := hR17.size
    have hB5 := hB5.keep0 hR17
    have hB9 := hB9.keep0 hR17
    have hb := below_step0 hb hR17 hb.size
    have q17_10 : a17.tmps.getD 10 undef = (Value.agg #[(Value.int .i64 x.k), (Value.int .i64 y.k)]) := hdp17 4 _ 10 (by kernel_rfl) rfl rfl
    clear hbs17 hdp17
    refine op_bslice (e := 98) (pv := [(0, (Value.agg #[(Value.int .i64 x.k), (Value.int .i64 y.k)]))]) (cs := [(Value.int .i64 x.k), (Value.int .i64 y.k)]) ⟨rfl, (ev_base hN17 rfl q17_10), trivial⟩ (by kernel_rfl) ?_
    intro w18 b19 lo_b19 hi_b19 hB21 E20
    have z_w18 := E20.size
    have hB5 := hB5.keep0 E20
    have hB9 := hB9.keep0 E20
    have hb := below_step0 hb E20 hb.size
    exact obN_end rfl ⟨b19, rfl, (by omega), hB21⟩ (E20)
  · -- operation 6, slot 12
    intro a22 w22 hN22 hR22 hbs22 hdp22
    have hR22 : w6.grownBy w22 none := hR22
    have z_w22 := hR22.size
    have hB5 := hB5.keep0 hR22
    have hB9 := hB9.keep0 hR22
    have hb := below_step0 hb hR22 hb.size
    obtain ⟨b13, q22_11, _, hB15⟩ := hdp22 5 _ 11 (by kernel_rfl) rfl rfl
    have hB15 : Bx w22 b13 98 [(Value.int .i64 x.k), (Value.int .i64 y.k)] := hB15
    clear hbs22 hdp22
    refine op_fn (vs := [(Value.slice (some ⟨b13, 0, none⟩) 1 1)]) ok69 ⟨(ev_base hN22 rfl q22_11), trivial⟩ (first_int_ret x.k y.k _ _ ((RdC.ofBx (sz := 2) (n := 1) hB15 rfl (by decide)).mono (Nat.zero_le _) (by have := hB15.lt; omega))) ?_
    rintro _ w23 ⟨E24, rfl⟩
    have E24 := grown_of_below E24
    have z_w23 := E24.size
    have hB5 := hB5.keep0 E24
    have hB9 := hB9.keep0 E24
    have hB15 := hB15.keep0 E24
    have hb := below_step0 hb E24 hb.size
    exact obN_end rfl rfl (E24)
  · -- operation 7, slot 13
    intro a25 w25 hN25 hR25 hbs25 hdp25
    have hR25 : w6.grownBy w25 none := hR25
    have q25_2 : a25.tmps.getD 2 undef = (ptr b3 0) := (hbs25 2 rfl).trans (sl_hit hN rfl)
    clear hbs25 hdp25
    refine op_field fld50_1 (ev_base hN25 rfl q25_2) ?_
    exact obN_end rfl rfl ((grown_refl _ _))
  · -- operation 8, slot 14
    intro a26 w26 hN26 hR26 hbs26 hdp26
    have hR26 : w6.grownBy w26 none := hR26
    have z_w26 := hR26.size
    have hB5 := hB5.keep0 hR26
    have hB9 := hB9.keep0 hR26
    have hb := below_step0 hb hR26 hb.size
    have q26_13 : a26.tmps.getD 13 undef = (ptr b3 1) := hdp26 7 _ 13 (by kernel_rfl) rfl rfl
    clear hbs26 hdp26
    refine op_load1 (v := (Value.int .i64 x.n)) one2 (ev_base hN26 rfl q26_13) (hB5.cell rfl) ?_
    exact obN_end rfl rfl ((grown_refl _ _))
  · -- operation 9, slot 15
    intro a27 w27 hN27 hR27 hbs27 hdp27
    have hR27 : w6.grownBy w27 none := hR27
    have q27_3 : a27.tmps.getD 3 undef = (ptr b7 0) := (hbs27 3 rfl).trans (sl_hit hN rfl)
    clear hbs27 hdp27
    refine op_field fld50_1 (ev_base hN27 rfl q27_3) ?_
    exact obN_end rfl rfl ((grown_refl _ _))
  · -- operation 10, slot 16
    intro a28 w28 hN28 hR28 hbs28 hdp28
    have hR28 : w6.grownBy w28 none := hR28
    have z_w28 := hR28.size
    have hB5 := hB5.keep0 hR28
    have hB9 := hB9.keep0 hR28
    have hb := below_step0 hb hR28 hb.size
    have q28_15 : a28.tmps.getD 15 undef = (ptr b7 1) := hdp28 9 _ 15 (by kernel_rfl) rfl rfl
    clear hbs28 hdp28
    refine op_load1 (v := (Value.int .i64 y.n)) one2 (ev_base hN28 rfl q28_15) (hB9.cell rfl) ?_
    exact obN_end rfl rfl ((grown_refl _ _))
  · -- operation 11, slot 17
    intro a29 w29 hN29 hR29 hbs29 hdp29
    have hR29 : w6.grownBy w29 none := hR29
    have q29_14 : a29.tmps.getD 14 undef = (Value.int .i64 x.n) := hdp29 8 _ 14 (by kernel_rfl) rfl rfl
    have q29_16 : a29.tmps.getD 16 undef = (Value.int .i64 y.n) := hdp29 10 _ 16 (by kernel_rfl) rfl rfl
    clear hbs29 hdp29
    refine op_build (pv := [(0, (Value.int .i64 x.n)), (1, (Value.int .i64 y.n))]) (v := (Value.agg #[(Value.int .i64 x.n), (Value.int .i64 y.n)])) ⟨rfl, (ev_base hN29 rfl q29_14), ⟨rfl, (ev_base hN29 rfl q29_16), trivial⟩⟩ (by kernel_rfl) ?_
    exact obN_end rfl rfl ((grown_refl _ _))
  · -- operation 12, slot 18
    intro a30 w30 hN30 hR30 hbs30 hdp30
    have hR30 : w6.grownBy w30 none := hR30
    have z_w30 := hR30.size
    have hB5 := hB5.keep0 hR30
    have hB9 := hB9.keep0 hR30
    have hb := below_step0 hb hR30 hb.size
    have q30_17 : a30.tmps.getD 17 undef = (Value.agg #[(Value.int .i64 x.n), (Value.int .i64 y.n)]) := hdp30 11 _ 17 (by kernel_rfl) rfl rfl
    clear hbs30 hdp30
    refine op_bslice (e := 100) (pv := [(0, (Value.agg #[(Value.int .i64 x.n), (Value.int .i64 y.n)]))]) (cs := [(Value.int .i64 x.n), (Value.int .i64 y.n)]) ⟨rfl, (ev_base hN30 rfl q30_17), trivial⟩ (by kernel_rfl) ?_
    intro w31 b32 lo_b32 hi_b32 hB34 E33
    have z_w31 := E33.size
    have hB5 := hB5.keep0 E33
    have hB9 := hB9.keep0 E33
    have hb := below_step0 hb E33 hb.size
    exact obN_end rfl ⟨b32, rfl, (by omega), hB34⟩ (E33)
  · -- operation 13, slot 19
    intro a35 w35 hN35 hR35 hbs35 hdp35
    have hR35 : w6.grownBy w35 none := hR35
    have z_w35 := hR35.size
    have hB5 := hB5.keep0 hR35
    have hB9 := hB9.keep0 hR35
    have hb := below_step0 hb hR35 hb.size
    obtain ⟨b19, q35_18, _, hB21⟩ := hdp35 12 _ 18 (by kernel_rfl) rfl rfl
    have hB21 : Bx w35 b19 100 [(Value.int .i64 x.n), (Value.int .i64 y.n)] := hB21
    clear hbs35 hdp35
    refine op_fn (vs := [(Value.slice (some ⟨b19, 0, none⟩) 1 1)]) ok70 ⟨(ev_base hN35 rfl q35_18), trivial⟩ (first_int64_ret x.n y.n _ _ ((RdC.ofBx (sz := 2) (n := 1) hB21 rfl (by decide)).mono (Nat.zero_le _) (by have := hB21.lt; omega))) ?_
    rintro _ w36 ⟨E37, rfl⟩
    have E37 := grown_of_below E37
    have z_w36 := E37.size
    have hB5 := hB5.keep0 E37
    have hB9 := hB9.keep0 E37
    have hB21 := hB21.keep0 E37
    have hb := below_step0 hb E37 hb.size
    exact obN_end rfl rfl (E37)
  · -- operation 14, slot 20
    intro a38 w38 hN38 hR38 hbs38 hdp38
    have hR38 : w6.grownBy w38 none := hR38
    have z_w38 := hR38.size
    have hB5 := hB5.keep0 hR38
    have hB9 := hB9.keep0 hR38
    have hb := below_step0 hb hR38 hb.size
    have q38_12 : a38.tmps.getD 12 undef = (Value.int .i64 (cmpI x.k y.k)) := hdp38 6 _ 12 (by kernel_rfl) rfl rfl
    have q38_19 : a38.tmps.getD 19 undef = (Value.int .i64 (cmpI x.n y.n)) := hdp38 13 _ 19 (by kernel_rfl) rfl rfl
    clear hbs38 hdp38
    refine op_bslice (e := 3) (pv := [(0, (Value.int .i64 (cmpI x.k y.k))), (1, (Value.int .i64 (cmpI x.n y.n)))]) (cs := [(Value.int .i64 (cmpI x.k y.k)), (Value.int .i64 (cmpI x.n y.n))]) ⟨rfl, (ev_base hN38 rfl q38_12), ⟨rfl, (ev_base hN38 rfl q38_19), trivial⟩⟩ (by kernel_rfl) ?_
    intro w39 b40 lo_b40 hi_b40 hB42 E41
    have z_w39 := E41.size
    have hB5 := hB5.keep0 E41
    have hB9 := hB9.keep0 E41
    have hb := below_step0 hb E41 hb.size
    exact obN_end rfl ⟨b40, rfl, (by omega), hB42⟩ (E41)
  · -- operation 15, slot 21
    intro a43 w43 hN43 hR43 hbs43 hdp43
    have hR43 : w6.grownBy w43 none := hR43
    have z_w43 := hR43.size
    have hB5 := hB5.keep0 hR43
    have hB9 := hB9.keep0 hR43
    have hb := below_step0 hb hR43 hb.size
    obtain ⟨b25, q43_20, _, hB27⟩ := hdp43 14 _ 20 (by kernel_rfl) rfl rfl
    have hB27 : Bx w43 b25 3 [(Value.int .i64 (cmpI x.k y.k)), (Value.int .i64 (cmpI x.n y.n))] := hB27
    clear hbs43 hdp43
    refine op_fn (vs := [(Value.slice (some ⟨b25, 0, none⟩) 2 2)]) ok68 ⟨(ev_base hN43 rfl q43_20), trivial⟩ (Or_ret (cmpI x.k y.k) (cmpI x.n y.n) _ _ ((RdC.ofBx (sz := 1) (n := 2) hB27 rfl (by decide)).mono (Nat.zero_le _) (by have := hB27.lt; omega))) ?_
    rintro _ w44 ⟨E45, rfl⟩
    have E45 := grown_of_below E45
    have z_w44 := E45.size
    have hB5 := hB5.keep0 E45
    have hB9 := hB9.keep0 E45
    have hB27 := hB27.keep0 E45
    have hb := below_step0 hb E45 hb.size
    exact obN_end rfl rfl (E45)
  · -- operation 16, slot 5
    intro a46 w46 hN46 hR46 hbs46 hdp46
    have hR46 : w6.grownBy w46 none := hR46
    have q46_21 : a46.tmps.getD 21 undef = (Value.int .i64 (if (cmpI x.k y.k) = 0 then (cmpI x.n y.n) else (cmpI x.k y.k))) := hdp46 15 _ 21 (by kernel_rfl) rfl rfl
    clear hbs46 hdp46
    refine op_assign (ev_base hN46 rfl q46_21) ?_
    exact obN_end rfl rfl ((grown_refl _ _))
  · -- behind the region
    intro a47 w47 hN47 hd47 hbs47 hph47 E47
    have hd47 := hd47.trans hd
    have s47_0 : a47.tmps.getD 0 undef = (Value.agg #[(Value.int .i64 x.k), (Value.int .i64 x.n), (Value.string (bs x.s))]) := (hbs47 0 rfl).trans (sl_base hN rfl s0)
    have s47_1 : a47.tmps.getD 1 undef = (Value.agg #[(Value.int .i64 y.k), (Value.int .i64 y.n), (Value.string (bs y.s))]) := (hbs47 1 rfl).trans (sl_base hN rfl s1)
    have s47_2 : a47.tmps.getD 2 undef = (ptr b3 0) := (hbs47 2 rfl).trans (sl_hit hN rfl)
    have s47_3 : a47.tmps.getD 3 undef = (ptr b7 0) := (hbs47 3 rfl).trans (sl_hit hN rfl)
    have s47_4 : a47.tmps.getD 4 undef = (Value.int .i64 0) := (hbs47 4 rfl).trans (sl_hit hN rfl)
    have s47_5 : a47.tmps.getD 5 undef = (Value.int .i64 (if (cmpI x.k y.k) = 0 then (cmpI x.n y.n) else (cmpI x.k y.k))) := hph47 16 _ 5 rfl rfl
    have s47_6 : a47.tmps.getD 6 undef = (ptr b3 0) := hph47 0 _ 6 rfl rfl
    have s47_7 : a47.tmps.getD 7 undef = (Value.int .i64 x.k) := hph47 1 _ 7 rfl rfl
    have s47_8 : a47.tmps.getD 8 undef = (ptr b7 0) := hph47 2 _ 8 rfl rfl
    have s47_9 : a47.tmps.getD 9 undef = (Value.int .i64 y.k) := hph47 3 _ 9 rfl rfl
    have s47_10 : a47.tmps.getD 10 undef = (Value.agg #[(Value.int .i64 x.k), (Value.int .i64 y.k)]) := hph47 4 _ 10 rfl rfl
    obtain ⟨b13, s47_11, l47_0, hB15⟩ := hph47 5 _ 11 rfl rfl
    have hB15 : Bx w47 b13 98 [(Value.int .i64 x.k), (Value.int .i64 y.k)] := hB15
    have s47_12 : a47.tmps.getD 12 undef = (Value.int .i64 (cmpI x.k y.k)) := hph47 6 _ 12 rfl rfl
    have s47_13 : a47.tmps.getD 13 undef = (ptr b3 1) := hph47 7 _ 13 rfl rfl
    have s47_14 : a47.tmps.getD 14 undef = (Value.int .i64 x.n) := hph47 8 _ 14 rfl rfl
    have s47_15 : a47.tmps.getD 15 undef = (ptr b7 1) := hph47 9 _ 15 rfl rfl
    have s47_16 : a47.tmps.getD 16 undef = (Value.int .i64 y.n) := hph47 10 _ 16 rfl rfl
    have s47_17 : a47.tmps.getD 17 undef = (Value.agg #[(Value.int .i64 x.n), (Value.int .i64 y.n)]) := hph47 11 _ 17 rfl rfl
    obtain ⟨b19, s47_18, l47_0, hB21⟩ := hph47 12 _ 18 rfl rfl
    have hB21 : Bx w47 b19 100 [(Value.int .i64 x.n), (Value.int .i64 y.n)] := hB21
    have s47_19 : a47.tmps.getD 19 undef = (Value.int .i64 (cmpI x.n y.n)) := hph47 13 _ 19 rfl rfl
    obtain ⟨b25, s47_20, l47_0, hB27⟩ := hph47 14 _ 20 rfl rfl
    have hB27 : Bx w47 b25 3 [(Value.int .i64 (cmpI x.k y.k)), (Value.int .i64 (cmpI x.n y.n))] := hB27
    have s47_21 : a47.tmps.getD 21 undef = (Value.int .i64 (if (cmpI x.k y.k) = 0 then (cmpI x.n y.n) else (cmpI x.k y.k))) := hph47 15 _ 21 rfl rfl
    clear hbs47 hph47
    have E47 : w6.grownBy w47 none := E47
    have z_w47 := E47.size
    have hB5 := hB5.keep0 E47
    have hB9 := hB9.keep0 E47
    have hb := below_step0 hb E47 hb.size
    refine hK11 _ _ ?_
    refine seq_any fun K48 hK48 => ?_
    refine one_reg ?_
    refine op_move (ev_base hN47 rfl s47_5) ?_
    refine op_neq (ev_hit hN47 rfl) rfl (fun c23 => ?_) (fun c23 => ?_)
    · -- 23 True
      refine reg_nil ?_
      refine hK48 _ _ ?_
      refine wp_cond_true (ev_hit hN47 rfl) ?_
      refine seq_any fun K49 hK49 => ?_
      refine one_reg ?_
      refine op_move (ev_base hN47 rfl s47_5) ?_
      refine op_assign (ev_hit hN47 rfl) ?_
      refine reg_nil ?_
      refine hK49 _ _ ?_
      refine wp_ret (then_ret ( ?_))
      refine ret1 rfl hd47 (ev_hit hN47 rfl) ⟨_, rfl, ?_⟩
      -- path 23T
      exact ⟨hb, congrArg (Value.int .i64) (by simp only [cmpW]; (repeat' split) <;> omega)⟩
    · -- 23 False
      refine reg_nil ?_
      refine hK48 _ _ ?_
      refine wp_cond_false (ev_hit hN47 rfl) ?_
      refine wp_skip ?_
      refine hK10 _ _ ?_
      refine seq_any fun K50 hK50 => ?_
      refine one_reg ?_
      refine op_field fld50_2 (ev_base hN47 rfl s47_2) ?_
      refine op_load1 (v := (Value.string (bs x.s))) one9 (ev_hit hN47 rfl) (hB5.cell rfl) ?_
      refine op_field fld50_2 (ev_base hN47 rfl s47_3) ?_
      refine op_load1 (v := (Value.string (bs y.s))) one9 (ev_hit hN47 rfl) (hB9.cell rfl) ?_
      refine op_build (pv := [(0, (Value.string (bs x.s))), (1, (Value.string (bs y.s)))]) (v := (Value.agg #[(Value.string (bs x.s)), (Value.string (bs y.s))])) ⟨rfl, (ev_hit hN47 rfl), ⟨rfl, (ev_hit hN47 rfl), trivial⟩⟩ (by kernel_rfl) ?_
      refine op_bslice (e := 102) (pv := [(0, (Value.agg #[(Value.string (bs x.s)), (Value.string (bs y.s))]))]) (cs := [(Value.string (bs x.s)), (Value.string (bs y.s))]) ⟨rfl, (ev_hit hN47 rfl), trivial⟩ (by kernel_rfl) ?_
      intro w51 b52 lo_b52 hi_b52 hB54 E53
      have z_w51 := E53.size
      have hB5 := hB5.keep0 E53
      have hB9 := hB9.keep0 E53
      have hB15 := hB15.keep0 E53
      have hB21 := hB21.keep0 E53
      have hB27 := hB27.keep0 E53
      have hb := below_step0 hb E53 hb.size
      refine op_fn (vs := [(Value.slice (some ⟨b52, 0, none⟩) 1 1)]) ok71 ⟨(ev_hit hN47 rfl), trivial⟩ (first_string_ret x.s y.s _ _ ((RdC.ofBx (sz := 2) (n := 1) hB54 rfl (by decide)).mono (Nat.zero_le _) (by have := hB54.lt; omega))) ?_
      rintro _ w55 ⟨E56, rfl⟩
      have E56 := grown_of_below E56
      have z_w55 := E56.size
      have hB5 := hB5.keep0 E56
      have hB9 := hB9.keep0 E56
      have hB15 := hB15.keep0 E56
      have hB21 := hB21.keep0 E56
      have hB27 := hB27.keep0 E56
      have hB54 := hB54.keep0 E56
      have hb := below_step0 hb E56 hb.size
      refine op_assign (ev_hit hN47 rfl) ?_
      refine reg_nil ?_
      refine hK50 _ _ ?_
      refine wp_ret ?_
      refine ret1 rfl hd47 (ev_hit hN47 rfl) ⟨_, rfl, ?_⟩
      -- path 23F
      exact ⟨hb, congrArg (Value.int .i64) (by simp only [cmpW]; (repeat' split) <;> omega)⟩

end Go.Proofs.Ytkkongnmcfdioaa
