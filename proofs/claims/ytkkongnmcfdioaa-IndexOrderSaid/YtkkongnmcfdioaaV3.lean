/- Walks, written by a program: what each function of the translation hands back. -/
import Derived.Test.YtkkongnmcfdioaaV2
namespace Go.Proofs.Ytkkongnmcfdioaa
open Go.Gx Go.RowKit
attribute [local irreducible] wpList Code.wp Calls

theorem Compare_ret (x y : Vl) (w : World) : Ret Try.prog 35 #[(Value.agg #[(Value.int .i64 x.k), (Value.int .i64 x.n), (Value.string (bs x.s))]), (Value.agg #[(Value.int .i64 y.k), (Value.int .i64 y.n), (Value.string (bs y.s))])] w (fun v' w' => Below w.heap.size w w' ∧ v' = .int .i64 (cmpW x y)) := by
  have hb := Below.refl w.heap.size w
  refine enter (N := 32) Try.func35 rfl rfl (by simp) fun a0 hN hd hA => ?_
  have s0 : a0.tmps.getD 0 undef = (Value.agg #[(Value.int .i64 x.k), (Value.int .i64 x.n), (Value.string (bs x.s))]) := hA 0 (by simp)
  have s1 : a0.tmps.getD 1 undef = (Value.agg #[(Value.int .i64 y.k), (Value.int .i64 y.n), (Value.string (bs y.s))]) := hA 1 (by simp)
  clear hA
  refine seq_any fun K266 hK266 => ?_
  refine one_reg ?_
  refine op_box (cs := [(Value.int .i64 x.k), (Value.int .i64 x.n), (Value.string (bs x.s))]) (ev_base hN rfl s0) rfl ?_
  intro w267 b268 lo_b268 hi_b268 hB270 E269
  have z_w267 := E269.size
  have hb := below_step0 hb E269 hb.size
  refine op_box (cs := [(Value.int .i64 y.k), (Value.int .i64 y.n), (Value.string (bs y.s))]) (ev_base hN rfl s1) rfl ?_
  intro w271 b272 lo_b272 hi_b272 hB274 E273
  have z_w271 := E273.size
  have hB270 := hB270.keep0 E273
  have hb := below_step0 hb E273 hb.size
  refine op_assign rfl ?_
  refine reg_nil ?_
  refine hK266 _ _ ?_
  refine seq_any fun K275 hK275 => ?_
  refine seq_any fun K276 hK276 => ?_
  refine reg_quiet (Φ := phiL [(fun u _ => u = (ptr b268 0)), (fun u _ => u = (Value.int .i64 x.k)), (fun u _ => u = (ptr b272 0)), (fun u _ => u = (Value.int .i64 y.k)), (fun u _ => u = (Value.agg #[(Value.int .i64 x.k), (Value.int .i64 y.k)])), (fun u w' => ∃ (b278 : Nat), u = (Value.slice (some ⟨b278, 0, none⟩) 1 1) ∧ w271.heap.size ≤ b278 ∧ Bx w' b278 98 [(Value.int .i64 x.k), (Value.int .i64 y.k)]), (fun u _ => u = (Value.int .i64 (cmpI x.k y.k))), (fun u _ => u = (ptr b268 1)), (fun u _ => u = (Value.int .i64 x.n)), (fun u _ => u = (ptr b272 1)), (fun u _ => u = (Value.int .i64 y.n)), (fun u _ => u = (Value.agg #[(Value.int .i64 x.n), (Value.int .i64 y.n)])), (fun u w' => ∃ (b284 : Nat), u = (Value.slice (some ⟨b284, 0, none⟩) 1 1) ∧ w271.heap.size ≤ b284 ∧ Bx w' b284 100 [(Value.int .i64 x.n), (Value.int .i64 y.n)]), (fun u _ => u = (Value.int .i64 (cmpI x.n y.n))), (fun u w' => ∃ (b290 : Nat), u = (Value.slice (some ⟨b290, 0, none⟩) 2 2) ∧ w271.heap.size ≤ b290 ∧ Bx w' b290 3 [(Value.int .i64 (cmpI x.k y.k)), (Value.int .i64 (cmpI x.n y.n))]), (fun u _ => u = (Value.int .i64 (if (cmpI x.k y.k) = 0 then (cmpI x.n y.n) else (cmpI x.k y.k)))), (fun u _ => u = (Value.int .i64 (if (cmpI x.k y.k) = 0 then (cmpI x.n y.n) else (cmpI x.k y.k))))]) mixed (by kernel_rfl) (by kernel_rfl) (by kernel_rfl) hN (StL.get (StL.eq (StL.eq (StL.eq (StL.eq (StL.eq (StL.cons (fun u w1 w2 E h => by obtain ⟨x0, hv, l0, f0⟩ := h; exact ⟨x0, hv, l0, f0.keep0 E⟩) (StL.eq (StL.eq (StL.eq (StL.eq (StL.eq (StL.eq (StL.cons (fun u w1 w2 E h => by obtain ⟨x0, hv, l0, f0⟩ := h; exact ⟨x0, hv, l0, f0.keep0 E⟩) (StL.eq (StL.cons (fun u w1 w2 E h => by obtain ⟨x0, hv, l0, f0⟩ := h; exact ⟨x0, hv, l0, f0.keep0 E⟩) (StL.eq (StL.eq (StL.nil _))))))))))))))))))) (ObL.get (s := 17) (ObL.cons ?_ (ObL.cons ?_ (ObL.cons ?_ (ObL.cons ?_ (ObL.cons ?_ (ObL.cons ?_ (ObL.cons ?_ (ObL.cons ?_ (ObL.cons ?_ (ObL.cons ?_ (ObL.cons ?_ (ObL.cons ?_ (ObL.cons ?_ (ObL.cons ?_ (ObL.cons ?_ (ObL.cons ?_ (ObL.cons ?_ (ObL.nil)))))))))))))))))) rfl) ?_
  · -- operation 0, slot 6
    intro a277 w277 hN277 hR277 hbs277 hdp277
    have hR277 : w271.grownBy w277 none := hR277
    have q277_2 : a277.tmps.getD 2 undef = (ptr b268 0) := (hbs277 2 rfl).trans (sl_hit hN rfl)
    clear hbs277 hdp277
    refine op_field fld50_0 (ev_base hN277 rfl q277_2) ?_
    exact obN_end rfl rfl ((grown_refl _ _))
  · -- operation 1, slot 7
    intro a278 w278 hN278 hR278 hbs278 hdp278
    have hR278 : w271.grownBy w278 none := hR278
    have z_w278 := hR278.size
    have hB270 := hB270.keep0 hR278
    have hB274 := hB274.keep0 hR278
    have hb := below_step0 hb hR278 hb.size
    have q278_6 : a278.tmps.getD 6 undef = (ptr b268 0) := hdp278 0 _ 6 (by kernel_rfl) rfl rfl
    clear hbs278 hdp278
    refine op_load1 (v := (Value.int .i64 x.k)) one3 (ev_base hN278 rfl q278_6) (hB270.cell rfl) ?_
    exact obN_end rfl rfl ((grown_refl _ _))
  · -- operation 2, slot 8
    intro a279 w279 hN279 hR279 hbs279 hdp279
    have hR279 : w271.grownBy w279 none := hR279
    have q279_3 : a279.tmps.getD 3 undef = (ptr b272 0) := (hbs279 3 rfl).trans (sl_hit hN rfl)
    clear hbs279 hdp279
    refine op_field fld50_0 (ev_base hN279 rfl q279_3) ?_
    exact obN_end rfl rfl ((grown_refl _ _))
  · -- operation 3, slot 9
    intro a280 w280 hN280 hR280 hbs280 hdp280
    have hR280 : w271.grownBy w280 none := hR280
    have z_w280 := hR280.size
    have hB270 := hB270.keep0 hR280
    have hB274 := hB274.keep0 hR280
    have hb := below_step0 hb hR280 hb.size
    have q280_8 : a280.tmps.getD 8 undef = (ptr b272 0) := hdp280 2 _ 8 (by kernel_rfl) rfl rfl
    clear hbs280 hdp280
    refine op_load1 (v := (Value.int .i64 y.k)) one3 (ev_base hN280 rfl q280_8) (hB274.cell rfl) ?_
    exact obN_end rfl rfl ((grown_refl _ _))
  · -- operation 4, slot 10
    intro a281 w281 hN281 hR281 hbs281 hdp281
    have hR281 : w271.grownBy w281 none := hR281
    have q281_7 : a281.tmps.getD 7 undef = (Value.int .i64 x.k) := hdp281 1 _ 7 (by kernel_rfl) rfl rfl
    have q281_9 : a281.tmps.getD 9 undef = (Value.int .i64 y.k) := hdp281 3 _ 9 (by kernel_rfl) rfl rfl
    clear hbs281 hdp281
    refine op_build (pv := [(0, (Value.int .i64 x.k)), (1, (Value.int .i64 y.k))]) (v := (Value.agg #[(Value.int .i64 x.k), (Value.int .i64 y.k)])) ⟨rfl, (ev_base hN281 rfl q281_7), ⟨rfl, (ev_base hN281 rfl q281_9), trivial⟩⟩ (by kernel_rfl) ?_
    exact obN_end rfl rfl ((grown_refl _ _))
  · -- operation 5, slot 11
    intro a282 w282 hN282 hR282 hbs282 hdp282
    have hR282 : w271.grownBy w282 none := hR282
    have z_w282 := hR282.size
    have hB270 := hB270.keep0 hR282
    have hB274 := hB274.keep0 hR282
    have hb := below_step0 hb hR282 hb.size
    have q282_10 : a282.tmps.getD 10 undef = (Value.agg #[(Value.int .i64 x.k), (Value.int .i64 y.k)]) := hdp282 4 _ 10 (by kernel_rfl) rfl rfl
    clear hbs282 hdp282
    refine op_bslice (e := 98) (pv := [(0, (Value.agg #[(Value.int .i64 x.k), (Value.int .i64 y.k)]))]) (cs := [(Value.int .i64 x.k), (Value.int .i64 y.k)]) ⟨rfl, (ev_base hN282 rfl q282_10), trivial⟩ (by kernel_rfl) ?_
    intro w283 b284 lo_b284 hi_b284 hB286 E285
    have z_w283 := E285.size
    have hB270 := hB270.keep0 E285
    have hB274 := hB274.keep0 E285
    have hb := below_step0 hb E285 hb.size
    exact obN_end rfl ⟨b284, rfl, (by omega), hB286⟩ (E285)
  · -- operation 6, slot 12
    intro a287 w287 hN287 hR287 hbs287 hdp287
    have hR287 : w271.grownBy w287 none := hR287
    have z_w287 := hR287.size
    have hB270 := hB270.keep0 hR287
    have hB274 := hB274.keep0 hR287
    have hb := below_step0 hb hR287 hb.size
    obtain ⟨b278, q287_11, _, hB280⟩ := hdp287 5 _ 11 (by kernel_rfl) rfl rfl
    have hB280 : Bx w287 b278 98 [(Value.int .i64 x.k), (Value.int .i64 y.k)] := hB280
    clear hbs287 hdp287
    refine op_fn (vs := [(Value.slice (some ⟨b278, 0, none⟩) 1 1)]) ok69 ⟨(ev_base hN287 rfl q287_11), trivial⟩ (first_int_ret x.k y.k _ _ ((RdC.ofBx (sz := 2) (n := 1) hB280 rfl (by decide)).mono (Nat.zero_le _) (by have := hB280.lt; omega))) ?_
    rintro _ w288 ⟨E289, rfl⟩
    have E289 := grown_of_below E289
    have z_w288 := E289.size
    have hB270 := hB270.keep0 E289
    have hB274 := hB274.keep0 E289
    have hB280 := hB280.keep0 E289
    have hb := below_step0 hb E289 hb.size
    exact obN_end rfl rfl (E289)
  · -- operation 7, slot 13
    intro a290 w290 hN290 hR290 hbs290 hdp290
    have hR290 : w271.grownBy w290 none := hR290
    have q290_2 : a290.tmps.getD 2 undef = (ptr b268 0) := (hbs290 2 rfl).trans (sl_hit hN rfl)
    clear hbs290 hdp290
    refine op_field fld50_1 (ev_base hN290 rfl q290_2) ?_
    exact obN_end rfl rfl ((grown_refl _ _))
  · -- operation 8, slot 14
    intro a291 w291 hN291 hR291 hbs291 hdp291
    have hR291 : w271.grownBy w291 none := hR291
    have z_w291 := hR291.size
    have hB270 := hB270.keep0 hR291
    have hB274 := hB274.keep0 hR291
    have hb := below_step0 hb hR291 hb.size
    have q291_13 : a291.tmps.getD 13 undef = (ptr b268 1) := hdp291 7 _ 13 (by kernel_rfl) rfl rfl
    clear hbs291 hdp291
    refine op_load1 (v := (Value.int .i64 x.n)) one2 (ev_base hN291 rfl q291_13) (hB270.cell rfl) ?_
    exact obN_end rfl rfl ((grown_refl _ _))
  · -- operation 9, slot 15
    intro a292 w292 hN292 hR292 hbs292 hdp292
    have hR292 : w271.grownBy w292 none := hR292
    have q292_3 : a292.tmps.getD 3 undef = (ptr b272 0) := (hbs292 3 rfl).trans (sl_hit hN rfl)
    clear hbs292 hdp292
    refine op_field fld50_1 (ev_base hN292 rfl q292_3) ?_
    exact obN_end rfl rfl ((grown_refl _ _))
  · -- operation 10, slot 16
    intro a293 w293 hN293 hR293 hbs293 hdp293
    have hR293 : w271.grownBy w293 none := hR293
    have z_w293 := hR293.size
    have hB270 := hB270.keep0 hR293
    have hB274 := hB274.keep0 hR293
    have hb := below_step0 hb hR293 hb.size
    have q293_15 : a293.tmps.getD 15 undef = (ptr b272 1) := hdp293 9 _ 15 (by kernel_rfl) rfl rfl
    clear hbs293 hdp293
    refine op_load1 (v := (Value.int .i64 y.n)) one2 (ev_base hN293 rfl q293_15) (hB274.cell rfl) ?_
    exact obN_end rfl rfl ((grown_refl _ _))
  · -- operation 11, slot 17
    intro a294 w294 hN294 hR294 hbs294 hdp294
    have hR294 : w271.grownBy w294 none := hR294
    have q294_14 : a294.tmps.getD 14 undef = (Value.int .i64 x.n) := hdp294 8 _ 14 (by kernel_rfl) rfl rfl
    have q294_16 : a294.tmps.getD 16 undef = (Value.int .i64 y.n) := hdp294 10 _ 16 (by kernel_rfl) rfl rfl
    clear hbs294 hdp294
    refine op_build (pv := [(0, (Value.int .i64 x.n)), (1, (Value.int .i64 y.n))]) (v := (Value.agg #[(Value.int .i64 x.n), (Value.int .i64 y.n)])) ⟨rfl, (ev_base hN294 rfl q294_14), ⟨rfl, (ev_base hN294 rfl q294_16), trivial⟩⟩ (by kernel_rfl) ?_
    exact obN_end rfl rfl ((grown_refl _ _))
  · -- operation 12, slot 18
    intro a295 w295 hN295 hR295 hbs295 hdp295
    have hR295 : w271.grownBy w295 none := hR295
    have z_w295 := hR295.size
    have hB270 := hB270.keep0 hR295
    have hB274 := hB274.keep0 hR295
    have hb := below_step0 hb hR295 hb.size
    have q295_17 : a295.tmps.getD 17 undef = (Value.agg #[(Value.int .i64 x.n), (Value.int .i64 y.n)]) := hdp295 11 _ 17 (by kernel_rfl) rfl rfl
    clear hbs295 hdp295
    refine op_bslice (e := 100) (pv := [(0, (Value.agg #[(Value.int .i64 x.n), (Value.int .i64 y.n)]))]) (cs := [(Value.int .i64 x.n), (Value.int .i64 y.n)]) ⟨rfl, (ev_base hN295 rfl q295_17), trivial⟩ (by kernel_rfl) ?_
    intro w296 b297 lo_b297 hi_b297 hB299 E298
    have z_w296 := E298.size
    have hB270 := hB270.keep0 E298
    have hB274 := hB274.keep0 E298
    have hb := below_step0 hb E298 hb.size
    exact obN_end rfl ⟨b297, rfl, (by omega), hB299⟩ (E298)
  · -- operation 13, slot 19
    intro a300 w300 hN300 hR300 hbs300 hdp300
    have hR300 : w271.grownBy w300 none := hR300
    have z_w300 := hR300.size
    have hB270 := hB270.keep0 hR300
    have hB274 := hB274.keep0 hR300
    have hb := below_step0 hb hR300 hb.size
    obtain ⟨b284, q300_18, _, hB286⟩ := hdp300 12 _ 18 (by kernel_rfl) rfl rfl
    have hB286 : Bx w300 b284 100 [(Value.int .i64 x.n), (Value.int .i64 y.n)] := hB286
    clear hbs300 hdp300
    refine op_fn (vs := [(Value.slice (some ⟨b284, 0, none⟩) 1 1)]) ok70 ⟨(ev_base hN300 rfl q300_18), trivial⟩ (first_int64_ret x.n y.n _ _ ((RdC.ofBx (sz := 2) (n := 1) hB286 rfl (by decide)).mono (Nat.zero_le _) (by have := hB286.lt; omega))) ?_
    rintro _ w301 ⟨E302, rfl⟩
    have E302 := grown_of_below E302
    have z_w301 := E302.size
    have hB270 := hB270.keep0 E302
    have hB274 := hB274.keep0 E302
    have hB286 := hB286.keep0 E302
    have hb := below_step0 hb E302 hb.size
    exact obN_end rfl rfl (E302)
  · -- operation 14, slot 20
    intro a303 w303 hN303 hR303 hbs303 hdp303
    have hR303 : w271.grownBy w303 none := hR303
    have z_w303 := hR303.size
    have hB270 := hB270.keep0 hR303
    have hB274 := hB274.keep0 hR303
    have hb := below_step0 hb hR303 hb.size
    have q303_12 : a303.tmps.getD 12 undef = (Value.int .i64 (cmpI x.k y.k)) := hdp303 6 _ 12 (by kernel_rfl) rfl rfl
    have q303_19 : a303.tmps.getD 19 undef = (Value.int .i64 (cmpI x.n y.n)) := hdp303 13 _ 19 (by kernel_rfl) rfl rfl
    clear hbs303 hdp303
    refine op_bslice (e := 3) (pv := [(0, (Value.int .i64 (cmpI x.k y.k))), (1, (Value.int .i64 (cmpI x.n y.n)))]) (cs := [(Value.int .i64 (cmpI x.k y.k)), (Value.int .i64 (cmpI x.n y.n))]) ⟨rfl, (ev_base hN303 rfl q303_12), ⟨rfl, (ev_base hN303 rfl q303_19), trivial⟩⟩ (by kernel_rfl) ?_
    intro w304 b305 lo_b305 hi_b305 hB307 E306
    have z_w304 := E306.size
    have hB270 := hB270.keep0 E306
    have hB274 := hB274.keep0 E306
    have hb := below_step0 hb E306 hb.size
    exact obN_end rfl ⟨b305, rfl, (by omega), hB307⟩ (E306)
  · -- operation 15, slot 21
    intro a308 w308 hN308 hR308 hbs308 hdp308
    have hR308 : w271.grownBy w308 none := hR308
    have z_w308 := hR308.size
    have hB270 := hB270.keep0 hR308
    have hB274 := hB274.keep0 hR308
    have hb := below_step0 hb hR308 hb.size
    obtain ⟨b290, q308_20, _, hB292⟩ := hdp308 14 _ 20 (by kernel_rfl) rfl rfl
    have hB292 : Bx w308 b290 3 [(Value.int .i64 (cmpI x.k y.k)), (Value.int .i64 (cmpI x.n y.n))] := hB292
    clear hbs308 hdp308
    refine op_fn (vs := [(Value.slice (some ⟨b290, 0, none⟩) 2 2)]) ok68 ⟨(ev_base hN308 rfl q308_20), trivial⟩ (Or_ret (cmpI x.k y.k) (cmpI x.n y.n) _ _ ((RdC.ofBx (sz := 1) (n := 2) hB292 rfl (by decide)).mono (Nat.zero_le _) (by have := hB292.lt; omega))) ?_
    rintro _ w309 ⟨E310, rfl⟩
    have E310 := grown_of_below E310
    have z_w309 := E310.size
    have hB270 := hB270.keep0 E310
    have hB274 := hB274.keep0 E310
    have hB292 := hB292.keep0 E310
    have hb := below_step0 hb E310 hb.size
    exact obN_end rfl rfl (E310)
  · -- operation 16, slot 5
    intro a311 w311 hN311 hR311 hbs311 hdp311
    have hR311 : w271.grownBy w311 none := hR311
    have q311_21 : a311.tmps.getD 21 undef = (Value.int .i64 (if (cmpI x.k y.k) = 0 then (cmpI x.n y.n) else (cmpI x.k y.k))) := hdp311 15 _ 21 (by kernel_rfl) rfl rfl
    clear hbs311 hdp311
    refine op_assign (ev_base hN311 rfl q311_21) ?_
    exact obN_end rfl rfl ((grown_refl _ _))
  · -- behind the region
    intro a312 w312 hN312 hd312 hbs312 hph312 E312
    have hd312 := hd312.trans hd
    have s312_0 : a312.tmps.getD 0 undef = (Value.agg #[(Value.int .i64 x.k), (Value.int .i64 x.n), (Value.string (bs x.s))]) := (hbs312 0 rfl).trans (sl_base hN rfl s0)
    have s312_1 : a312.tmps.getD 1 undef = (Value.agg #[(Value.int .i64 y.k), (Value.int .i64 y.n), (Value.string (bs y.s))]) := (hbs312 1 rfl).trans (sl_base hN rfl s1)
    have s312_2 : a312.tmps.getD 2 undef = (ptr b268 0) := (hbs312 2 rfl).trans (sl_hit hN rfl)
    have s312_3 : a312.tmps.getD 3 undef = (ptr b272 0) := (hbs312 3 rfl).trans (sl_hit hN rfl)
    have s312_4 : a312.tmps.getD 4 undef = (Value.int .i64 0) := (hbs312 4 rfl).trans (sl_hit hN rfl)
    have s312_5 : a312.tmps.getD 5 undef = (Value.int .i64 (if (cmpI x.k y.k) = 0 then (cmpI x.n y.n) else (cmpI x.k y.k))) := hph312 16 _ 5 rfl rfl
    have s312_6 : a312.tmps.getD 6 undef = (ptr b268 0) := hph312 0 _ 6 rfl rfl
    have s312_7 : a312.tmps.getD 7 undef = (Value.int .i64 x.k) := hph312 1 _ 7 rfl rfl
    have s312_8 : a312.tmps.getD 8 undef = (ptr b272 0) := hph312 2 _ 8 rfl rfl
    have s312_9 : a312.tmps.getD 9 undef = (Value.int .i64 y.k) := hph312 3 _ 9 rfl rfl
    have s312_10 : a312.tmps.getD 10 undef = (Value.agg #[(Value.int .i64 x.k), (Value.int .i64 y.k)]) := hph312 4 _ 10 rfl rfl
    obtain ⟨b278, s312_11, l312_0, hB280⟩ := hph312 5 _ 11 rfl rfl
    have hB280 : Bx w312 b278 98 [(Value.int .i64 x.k), (Value.int .i64 y.k)] := hB280
    have s312_12 : a312.tmps.getD 12 undef = (Value.int .i64 (cmpI x.k y.k)) := hph312 6 _ 12 rfl rfl
    have s312_13 : a312.tmps.getD 13 undef = (ptr b268 1) := hph312 7 _ 13 rfl rfl
    have s312_14 : a312.tmps.getD 14 undef = (Value.int .i64 x.n) := hph312 8 _ 14 rfl rfl
    have s312_15 : a312.tmps.getD 15 undef = (ptr b272 1) := hph312 9 _ 15 rfl rfl
    have s312_16 : a312.tmps.getD 16 undef = (Value.int .i64 y.n) := hph312 10 _ 16 rfl rfl
    have s312_17 : a312.tmps.getD 17 undef = (Value.agg #[(Value.int .i64 x.n), (Value.int .i64 y.n)]) := hph312 11 _ 17 rfl rfl
    obtain ⟨b284, s312_18, l312_0, hB286⟩ := hph312 12 _ 18 rfl rfl
    have hB286 : Bx w312 b284 100 [(Value.int .i64 x.n), (Value.int .i64 y.n)] := hB286
    have s312_19 : a312.tmps.getD 19 undef = (Value.int .i64 (cmpI x.n y.n)) := hph312 13 _ 19 rfl rfl
    obtain ⟨b290, s312_20, l312_0, hB292⟩ := hph312 14 _ 20 rfl rfl
    have hB292 : Bx w312 b290 3 [(Value.int .i64 (cmpI x.k y.k)), (Value.int .i64 (cmpI x.n y.n))] := hB292
    have s312_21 : a312.tmps.getD 21 undef = (Value.int .i64 (if (cmpI x.k y.k) = 0 then (cmpI x.n y.n) else (cmpI x.k y.k))) := hph312 15 _ 21 rfl rfl
    clear hbs312 hph312
    have E312 : w271.grownBy w312 none := E312
    have z_w312 := E312.size
    have hB270 := hB270.keep0 E312
    have hB274 := hB274.keep0 E312
    have hb := below_step0 hb E312 hb.size
    refine hK276 _ _ ?_
    refine seq_any fun K313 hK313 => ?_
    refine one_reg ?_
    refine op_move (ev_base hN312 rfl s312_5) ?_
    refine op_neq (ev_hit hN312 rfl) rfl (fun c23 => ?_) (fun c23 => ?_)
    · -- 23 True
      refine reg_nil ?_
      refine hK313 _ _ ?_
      refine wp_cond_true (ev_hit hN312 rfl) ?_
      refine seq_any fun K314 hK314 => ?_
      refine one_reg ?_
      refine op_move (ev_base hN312 rfl s312_5) ?_
      refine op_assign (ev_hit hN312 rfl) ?_
      refine reg_nil ?_
      refine hK314 _ _ ?_
      refine wp_ret (then_ret ( ?_))
      refine ret1 rfl hd312 (ev_hit hN312 rfl) ⟨_, rfl, ?_⟩
      -- path 23T
      exact ⟨hb, congrArg (Value.int .i64) (by simp only [cmpW]; (repeat' split) <;> omega)⟩
    · -- 23 False
      refine reg_nil ?_
      refine hK313 _ _ ?_
      refine wp_cond_false (ev_hit hN312 rfl) ?_
      refine wp_skip ?_
      refine hK275 _ _ ?_
      refine seq_any fun K315 hK315 => ?_
      refine one_reg ?_
      refine op_field fld50_2 (ev_base hN312 rfl s312_2) ?_
      refine op_load1 (v := (Value.string (bs x.s))) one9 (ev_hit hN312 rfl) (hB270.cell rfl) ?_
      refine op_field fld50_2 (ev_base hN312 rfl s312_3) ?_
      refine op_load1 (v := (Value.string (bs y.s))) one9 (ev_hit hN312 rfl) (hB274.cell rfl) ?_
      refine op_build (pv := [(0, (Value.string (bs x.s))), (1, (Value.string (bs y.s)))]) (v := (Value.agg #[(Value.string (bs x.s)), (Value.string (bs y.s))])) ⟨rfl, (ev_hit hN312 rfl), ⟨rfl, (ev_hit hN312 rfl), trivial⟩⟩ (by kernel_rfl) ?_
      refine op_bslice (e := 102) (pv := [(0, (Value.agg #[(Value.string (bs x.s)), (Value.string (bs y.s))]))]) (cs := [(Value.string (bs x.s)), (Value.string (bs y.s))]) ⟨rfl, (ev_hit hN312 rfl), trivial⟩ (by kernel_rfl) ?_
      intro w316 b317 lo_b317 hi_b317 hB319 E318
      have z_w316 := E318.size
      have hB270 := hB270.keep0 E318
      have hB274 := hB274.keep0 E318
      have hB280 := hB280.keep0 E318
      have hB286 := hB286.keep0 E318
      have hB292 := hB292.keep0 E318
      have hb := below_step0 hb E318 hb.size
      refine op_fn (vs := [(Value.slice (some ⟨b317, 0, none⟩) 1 1)]) ok71 ⟨(ev_hit hN312 rfl), trivial⟩ (first_string_ret x.s y.s _ _ ((RdC.ofBx (sz := 2) (n := 1) hB319 rfl (by decide)).mono (Nat.zero_le _) (by have := hB319.lt; omega))) ?_
      rintro _ w320 ⟨E321, rfl⟩
      have E321 := grown_of_below E321
      have z_w320 := E321.size
      have hB270 := hB270.keep0 E321
      have hB274 := hB274.keep0 E321
      have hB280 := hB280.keep0 E321
      have hB286 := hB286.keep0 E321
      have hB292 := hB292.keep0 E321
      have hB319 := hB319.keep0 E321
      have hb := below_step0 hb E321 hb.size
      refine op_assign (ev_hit hN312 rfl) ?_
      refine reg_nil ?_
      refine hK315 _ _ ?_
      refine wp_ret ?_
      refine ret1 rfl hd312 (ev_hit hN312 rfl) ⟨_, rfl, ?_⟩
      -- path 23F
      exact ⟨hb, congrArg (Value.int .i64) (by simp only [cmpW]; (repeat' split) <;> omega)⟩

end Go.Proofs.Ytkkongnmcfdioaa
