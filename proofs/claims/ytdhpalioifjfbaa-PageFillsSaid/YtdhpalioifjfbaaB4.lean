/- Walks, written by a program: what each function of the translation hands back. -/
import Derived.Test.YtdhpalioifjfbaaB3
namespace Go.Proofs.Ytdhpalioifjfbaa
open Go.Gx Go.RowKit
attribute [local irreducible] wpList wpStill Code.wp Calls

set_option maxHeartbeats 2000000 in
theorem PageFills_ret (sizes : By) (vs : Value) (w : World) (hls : sizes.length ≤ 9223372036854775807) (hrs : RdC w 0 w.heap.size 1 vs sizes.length (sizes.map u8v)) : Ret Try.prog 5 #[vs] w (fun v' w' => Below w.heap.size w w' ∧ v' = .bool true) := by
 have hb := Below.refl w.heap.size w
 refine enter (N := 147) Try.func5 rfl rfl (by simp) fun a0 hN hd hA => ?_
 have s0 : a0.tmps.getD 0 undef = vs := hA 0 (by simp)
 clear hA
 refine seq_any fun K1 hK1 => ?_
 refine one_reg ?_
 refine op_assign rfl ?_
 refine reg_nil ?_
 refine hK1 _ _ ?_
 refine seq_any fun K2 hK2 => ?_
 refine seq_any fun K3 hK3 => ?_
 refine one_reg ?_
 refine op_fn (vs := []) ok9 trivial (begun13_ret _) ?_
 rintro _ w4 ⟨E5, rfl⟩
 have E5 := grown_of_below E5
 have z_w4 := E5.size
 have hrs := hrs.keep0 E5
 have hb := below_step0 hb E5 hb.size
 refine op_not (ev_hit hN rfl) ?_
 refine reg_nil ?_
 refine hK3 _ _ ?_
 refine wp_cond_false (ev_hit hN rfl) ?_
 refine wp_skip ?_
 refine hK2 _ _ ?_
 refine seq_any fun K6 hK6 => ?_
 refine seq_any fun K7 hK7 => ?_
 refine one_reg ?_
 refine op_move (ev_base hN rfl s0) ?_
 refine op_len_rd Try.underlying22 (ev_hit hN rfl) hrs ?_
 refine op_gtr (ev_hit hN rfl) rfl (fun c24 => ?_) (fun c24 => ?_)
 · -- 24T
  refine reg_nil ?_
  refine hK7 _ _ ?_
  refine wp_cond_true (ev_hit hN rfl) ?_
  refine seq_any fun K8 hK8 => ?_
  refine one_reg ?_
  refine op_assign rfl ?_
  refine reg_nil ?_
  refine hK8 _ _ ?_
  refine wp_ret (then_ret ( ?_))
  refine ret1 rfl hd (ev_hit hN rfl) ⟨_, rfl, ?_⟩
  -- path 24T
  exact ⟨hb, rfl⟩
 · -- 24F
  refine reg_nil ?_
  refine hK7 _ _ ?_
  refine wp_cond_false (ev_hit hN rfl) ?_
  refine wp_skip ?_
  refine hK6 _ _ ?_
  refine seq_any fun K9 hK9 => ?_
  refine one_reg ?_
  refine op_fn (vs := []) ok10 trivial (new_ret _) ?_
  rintro _ w11 ⟨E12, p10, rfl, lo_p10, hx10⟩
  have E12 := grown_of_below E12
  have z_w11 := E12.size
  have hrs := hrs.keep0 E12
  have hb := below_step0 hb E12 hb.size
  have hi_p10 := hx10.lt
  refine op_assign (ev_hit hN rfl) ?_
  refine reg_nil ?_
  refine hK9 _ _ ?_
  refine seq_any fun K13 hK13 => ?_
  refine seq_any fun K14 hK14 => ?_
  refine one_reg ?_
  refine op_assign rfl ?_
  refine reg_nil ?_
  refine hK14 _ _ ?_
  refine wp_block ?_
  refine loop_m (fun mz_ az_ w' => ∃ (turn : Nat) (ua : Value) (na : Nat) (bsa : By) (La : List By), mz_ = 2 - turn ∧ (az_.tmps.getD 0 undef = vs) ∧ (az_.tmps.getD 3 undef = (ptr p10 0)) ∧ (az_.tmps.getD 4 undef = (Value.int .i64 ((turn : Nat) : Int))) ∧ (turn ≤ 2) ∧ (Pg na bsa La ua) ∧ (La = []) ∧ (Below w.heap.size w w') ∧ (w11.heap.size ≤ w'.heap.size) ∧ (RdC w' 0 w.heap.size 1 vs sizes.length (sizes.map u8v)) ∧ (Bx w' p10 50 [ua]) ∧ (Own w' w.heap.size 5 1 ua na (bsa.map u8v))) _ hN hd ⟨0, (Value.slice none 0 0), 0, [], [], rfl, (sl_base hN rfl s0), (sl_hit hN rfl), (sl_hit hN rfl), (by omega), Pg.zero, rfl, hb, (Nat.le_refl _), hrs, hx10, (Own.nil w11 w.heap.size 5 1)⟩ ?_
  rintro _ a15 w15 hN15 hd15 ⟨turn, ua, na, bsa, La, rfl, s15_0, s15_3, s15_4, hturn, hPa, hLa, hb, zl_w15, hrs, hxa, hO16⟩
  have z_w15 := hb.size
  refine seq_any fun K17 hK17 => ?_
  refine seq_any fun K18 hK18 => ?_
  refine one_reg ?_
  refine op_move (ev_base hN15 rfl s15_4) ?_
  refine op_lss (ev_hit hN15 rfl) rfl (fun c27 => ?_) (fun c27 => ?_)
  · -- 27T
   refine reg_nil ?_
   refine hK18 _ _ ?_
   refine wp_cond_true (ev_hit hN15 rfl) ?_
   refine wp_skip ?_
   refine hK17 _ _ ?_
   refine seq_any fun K19 hK19 => ?_
   refine wp_block ?_
   refine seq_any fun K20 hK20 => ?_
   refine one_reg ?_
   refine op_assign rfl ?_
   refine reg_nil ?_
   refine hK20 _ _ ?_
   refine seq_any fun K21 hK21 => ?_
   refine one_reg ?_
   refine op_assign rfl ?_
   refine reg_nil ?_
   refine hK21 _ _ ?_
   refine seq_any fun K22 hK22 => ?_
   refine seq_any fun K23 hK23 => ?_
   refine one_reg ?_
   refine op_assign rfl ?_
   refine reg_nil ?_
   refine hK23 _ _ ?_
   refine wp_block ?_
   refine loop_m (fun mz_ az_ w' => ∃ (i : Nat) (ub : Value) (nb : Nat) (bsb : By) (Lb : List By), mz_ = sizes.length - i ∧ (az_.tmps.getD 0 undef = vs) ∧ (az_.tmps.getD 3 undef = (ptr p10 0)) ∧ (az_.tmps.getD 4 undef = (Value.int .i64 ((turn : Nat) : Int))) ∧ (az_.tmps.getD 7 undef = (Value.int .i64 ((i : Nat) : Int))) ∧ (az_.tmps.getD 5 undef = (Value.int .i64 (leftL Lb Lb.length))) ∧ (az_.tmps.getD 6 undef = (Value.int .i64 ((Lb.length : Nat) : Int))) ∧ (i ≤ sizes.length) ∧ (Pg nb bsb Lb ub) ∧ (freeL Lb = Lb.length) ∧ (Below w.heap.size w w') ∧ (w15.heap.size ≤ w'.heap.size) ∧ (RdC w' 0 w.heap.size 1 vs sizes.length (sizes.map u8v)) ∧ (Bx w' p10 50 [ub]) ∧ (Own w' w.heap.size 5 1 ub nb (bsb.map u8v))) _ hN15 hd15 ⟨0, ua, na, bsa, La, rfl, (sl_base hN15 rfl s15_0), (sl_base hN15 rfl s15_3), (sl_base hN15 rfl s15_4), (sl_hit hN15 rfl), (sl_hit hN15 rfl).trans (congrArg (Value.int .i64) (by rw [hLa]; rfl)), (sl_hit hN15 rfl).trans (congrArg (Value.int .i64) (by rw [hLa]; rfl)), Nat.zero_le _, hPa, (by rw [hLa]; rfl), hb, (Nat.le_refl _), hrs, hxa, hO16⟩ ?_
   rintro _ a24 w24 hN24 hd24 ⟨i, ub, nb, bsb, Lb, rfl, s24_0, s24_3, s24_4, s24_7, s24_5, s24_6, hi, hPb, hfb, hb, zl_w24, hrs, hxb, hO25⟩
   have z_w24 := hb.size
   refine seq_any fun K26 hK26 => ?_
   refine seq_any fun K27 hK27 => ?_
   refine one_reg ?_
   refine op_move (ev_base hN24 rfl s24_7) ?_
   refine op_move (ev_base hN24 rfl s24_0) ?_
   refine op_len_rd Try.underlying22 (ev_hit hN24 rfl) hrs ?_
   refine op_lss (ev_hit hN24 rfl) (ev_hit hN24 rfl) (fun c33 => ?_) (fun c33 => ?_)
   · -- 33T
    refine reg_nil ?_
    refine hK27 _ _ ?_
    refine wp_cond_true (ev_hit hN24 rfl) ?_
    refine wp_skip ?_
    refine hK26 _ _ ?_
    refine seq_any fun K28 hK28 => ?_
    refine wp_block ?_
    refine seq_any fun K29 hK29 => ?_
    refine one_reg ?_
    have hfx := hPb.fits
    have hlx := hPb.left
    refine op_move (ev_base hN24 rfl s24_0) ?_
    refine op_move (ev_base hN24 rfl s24_7) ?_
    refine op_index_rd slt22 (ev_hit hN24 rfl) hrs (ev_hit hN24 rfl) (by omega) (by omega) ?_
    intro b30 o31 h0b30 h1b30 hc32
    refine op_load1 (v := (Value.int .u8 ((sizes.getD i 0).toNat : Int))) one5 (ev_hit hN24 rfl) (by have := hc32 0 (Value.int .u8 ((sizes.getD i 0).toNat : Int)) (by decide) (el_u8 (i := i) (by omega) (by omega)); simpa using this) ?_
    refine op_conv (r := ((sizes.getD i 0).toNat : Int)) (ev_hit hN24 rfl) us5 Try.underlying3 (wrap_i64 (by have := ((sizes.getD i 0)).toNat_lt; omega)) ?_
    refine op_rem (r := (((sizes.getD i 0).toNat % 60 : Nat) : Int)) (ev_hit hN24 rfl) rfl (by decide) (tmod_nat (b := 60)) ?_
    refine op_add rfl (ev_hit hN24 rfl) (add64 (by omega)) ?_
    refine op_assign (ev_hit hN24 rfl) ?_
    refine reg_nil ?_
    refine hK29 _ _ ?_
    refine seq_any fun K33 hK33 => ?_
    refine one_reg ?_
    refine op_move (ev_base hN24 rfl s24_3) ?_
    refine op_move (ev_hit hN24 rfl) ?_
    refine op_make (n := (1 + ((sizes.getD i 0).toNat % 60))) (y' := .const undef) slt22 (ev_hit hN24 rfl) (ev_hit hN24 rfl) rfl (by omega) (by omega) hb.size ?_
    intro v36 w34 hO37 E35 lo38
    have dj39 : DJ v36 ub := fun k hk hg => by have q1 := lo38 k hk; have q2 := (hO25.lt k hg).2; omega
    have z_w34 := E35.size
    have hrs := hrs.keep0 E35
    have hxb := hxb.keep0 E35
    have hO25 := hO25.keep0 E35
    have hb := below_step0 hb E35 hb.size
    have hO37 : Own w34 w.heap.size 5 1 v36 (1 + ((sizes.getD i 0).toNat % 60)) (((List.replicate (1 + ((sizes.getD i 0).toNat % 60)) 0 : By)).map u8v) := by exact hO37.cast rfl (zeros_u8 _)
    obtain ⟨L40, B40, hrx40, hbx40, hax40⟩ := hO37.rdx
    have hln40 : (List.replicate (1 + ((sizes.getD i 0).toNat % 60)) 0 : By).length = (1 + ((sizes.getD i 0).toNat % 60)) := by first | rfl | assumption | omega | simp
    have hrx40 := hrx40.cast hln40.symm rfl
    refine op_fn (vs := [(ptr p10 0), v36]) ok11 ⟨(ev_hit hN24 rfl), ⟨(ev_hit hN24 rfl), trivial⟩⟩ (put_ret Lb bsb nb _ _ _ _ (by omega) hxb hO25 hPb ((List.replicate (1 + ((sizes.getD i 0).toNat % 60)) 0 : By) : By) _ _ _ hrx40 (pg_apart hax40 (hO37.neB hxb (by decide)) dj39) hbx40) ?_
    rintro _ w43 ⟨E44, rfl, u42, n42, bs42, hx42, hO42, hP42, ro42⟩
    have dj45 : DJ v36 u42 := DJ.stepP ro42 dj39 (hO37.neB hxb (by decide)) (fun k hk => (hO37.lt k hk).2)
    have hrs := hrs.keepP hxb hO25 E44 (by omega) (by omega)
    have hO37 := hO37.keepP hxb hO25 E44 (by decide) (.inr dj39)
    have z_w43 := E44.size
    have hb := below_stepR hb E44 hb.size (by omega) hO25 (by omega)
    have hfi_42 := hP42.fits
    have hpk_41 := putK_rng Lb ((List.replicate (1 + ((sizes.getD i 0).toNat % 60)) 0 : By) : By)
    refine op_move (ev_hit hN24 rfl) ?_
    refine op_extract (ev_hit hN24 rfl) rfl ?_
    refine op_extract (ev_hit hN24 rfl) rfl ?_
    refine op_assign (ev_hit hN24 rfl) ?_
    refine op_assign (ev_hit hN24 rfl) ?_
    refine reg_nil ?_
    refine hK33 _ _ ?_
    refine seq_any fun K46 hK46 => ?_
    refine seq_any fun K47 hK47 => ?_
    refine one_reg ?_
    refine op_move (ev_hit hN24 rfl) ?_
    refine op_add (ev_hit hN24 rfl) rfl (add64 (by omega)) ?_
    refine op_move (ev_base hN24 rfl s24_5) ?_
    refine op_gtr (ev_hit hN24 rfl) (ev_hit hN24 rfl) (fun c53 => ?_) (fun c53 => ?_)
    · -- 53T
     refine reg_nil ?_
     refine hK47 _ _ ?_
     refine wp_cond_true (ev_hit hN24 rfl) ?_
     refine seq_any fun K48 hK48 => ?_
     refine seq_any fun K49 hK49 => ?_
     refine one_reg ?_
     refine op_move (ev_hit hN24 rfl) ?_
     refine op_neq (ev_hit hN24 rfl) rfl (fun c55 => ?_) (fun c55 => ?_)
     · -- 55T
      exact absurd (fill_full (r := (List.replicate (1 + (sizes.getD i 0).toNat % 60) 0 : By)) (k := (1 + (sizes.getD i 0).toNat % 60)) hfb List.length_replicate (by omega) (by omega)).1 c55
     · -- 55F
      refine reg_nil ?_
      refine hK49 _ _ ?_
      refine wp_cond_false (ev_hit hN24 rfl) ?_
      refine wp_skip ?_
      refine hK48 _ _ ?_
      refine wp_exit (then_exit (blk_hit ?_))
      refine hK28 _ _ ?_
      refine one_reg ?_
      refine op_move (ev_base hN24 rfl s24_7) ?_
      refine op_add (ev_hit hN24 rfl) rfl (add64 (by omega)) ?_
      refine op_assign (ev_hit hN24 rfl) ?_
      refine reg_nil ?_
      -- round 24F 27T 33T 53T 55F
      exact loop_next _ hN24 hd24 ⟨i + 1, u42, n42, bs42, (putN Lb (List.replicate (1 + ((sizes.getD i 0).toNat % 60)) 0 : By)), rfl, (sl_base hN24 rfl s24_0), (sl_base hN24 rfl s24_3), (sl_base hN24 rfl s24_4), (sl_hit hN24 rfl).trans (congrArg (Value.int .i64) (by omega)), (sl_base hN24 rfl s24_5).trans (congrArg (Value.int .i64) (by rw [(fill_full (r := (List.replicate (1 + (sizes.getD i 0).toNat % 60) 0 : By)) (k := (1 + (sizes.getD i 0).toNat % 60)) hfb List.length_replicate (by omega) (by omega)).2])), (sl_base hN24 rfl s24_6).trans (congrArg (Value.int .i64) (by rw [(fill_full (r := (List.replicate (1 + (sizes.getD i 0).toNat % 60) 0 : By)) (k := (1 + (sizes.getD i 0).toNat % 60)) hfb List.length_replicate (by omega) (by omega)).2])), (by omega), hP42, (by rw [(fill_full (r := (List.replicate (1 + (sizes.getD i 0).toNat % 60) 0 : By)) (k := (1 + (sizes.getD i 0).toNat % 60)) hfb List.length_replicate (by omega) (by omega)).2]; exact hfb), hb, (by omega), hrs, hx42, hO42⟩ (by omega)
    · -- 53F
     refine reg_nil ?_
     refine hK47 _ _ ?_
     refine wp_cond_false (ev_hit hN24 rfl) ?_
     refine wp_skip ?_
     refine hK46 _ _ ?_
     refine seq_any fun K50 hK50 => ?_
     refine seq_any fun K51 hK51 => ?_
     refine one_reg ?_
     refine op_move (ev_hit hN24 rfl) ?_
     refine op_neq (ev_hit hN24 rfl) rfl (fun c57 => ?_) (fun c57 => ?_)
     · -- 57T
      exact absurd (fill_ok (r := (List.replicate (1 + (sizes.getD i 0).toNat % 60) 0 : By)) (k := (1 + (sizes.getD i 0).toNat % 60)) hfb List.length_replicate (by omega) (by omega)).1 c57
     · -- 57F
      refine op_move (ev_hit hN24 rfl) ?_
      refine g_true (j := 2) (dj := 58) (b := false) rfl rfl rfl (ev_hit hN24 rfl) ?_
      refine op_move (ev_hit hN24 rfl) ?_
      refine g_true (j := 2) (dj := 58) (b := false) rfl rfl rfl (ev_hit hN24 rfl) ?_
      refine op_move (ev_base hN24 rfl s24_6) ?_
      refine g_true (j := 2) (dj := 58) (b := false) rfl rfl rfl (ev_hit hN24 rfl) ?_
      refine op_neq (ev_hit hN24 rfl) (ev_hit hN24 rfl) (fun c61 => ?_) (fun c61 => ?_)
      · -- 61T
       exact absurd (fill_ok (r := (List.replicate (1 + (sizes.getD i 0).toNat % 60) 0 : By)) (k := (1 + (sizes.getD i 0).toNat % 60)) hfb List.length_replicate (by omega) (by omega)).2.1 c61
      · -- 61F
       refine op_pick_f (ev_hit hN24 rfl) (ev_hit hN24 rfl) ?_
       refine reg_nil ?_
       refine hK51 _ _ ?_
       refine wp_cond_false (ev_hit hN24 rfl) ?_
       refine wp_skip ?_
       refine hK50 _ _ ?_
       refine seq_any fun K52 hK52 => ?_
       refine one_reg ?_
       refine op_move (ev_base hN24 rfl s24_5) ?_
       refine op_move (ev_hit hN24 rfl) ?_
       refine op_sub (ev_hit hN24 rfl) (ev_hit hN24 rfl) (sub64 (by omega)) ?_
       refine op_sub (ev_hit hN24 rfl) rfl (sub64 (by omega)) ?_
       refine op_move (ev_base hN24 rfl s24_6) ?_
       refine op_add (ev_hit hN24 rfl) rfl (add64 (by omega)) ?_
       refine op_assign (ev_hit hN24 rfl) ?_
       refine op_assign (ev_hit hN24 rfl) ?_
       refine reg_nil ?_
       refine hK52 _ _ ?_
       refine seq_any fun K53 hK53 => ?_
       refine one_reg ?_
       refine op_move (ev_base hN24 rfl s24_3) ?_
       refine op_fn (vs := [(ptr p10 0)]) ok14 ⟨(ev_hit hN24 rfl), trivial⟩ (free_ret (putN Lb (List.replicate (1 + ((sizes.getD i 0).toNat % 60)) 0 : By)) bs42 n42 _ _ _ _ (by omega) hx42 hO42 hP42 ) ?_
       rintro _ w56 ⟨E57, rfl, u55, n55, bs55, hx55, hO55, hP55, ro55⟩
       have dj58 : DJ v36 u55 := DJ.stepP ro55 dj45 (hO37.neB hx42 (by decide)) (fun k hk => (hO37.lt k hk).2)
       have hrs := hrs.keepP hx42 hO42 E57 (by omega) (by omega)
       have hO37 := hO37.keepP hx42 hO42 E57 (by decide) (.inr dj45)
       have z_w56 := E57.size
       have hb := below_stepR hb E57 hb.size (by omega) hO42 (by omega)
       have hfi_55 := hP55.fits
       have hlr_54 := hP42.left
       refine op_move (ev_hit hN24 rfl) ?_
       refine op_neq (ev_hit hN24 rfl) (ev_hit hN24 rfl) (fun c72 => ?_) (fun c72 => ?_)
       · -- 72T
        exact absurd (by have := (fill_ok (r := (List.replicate (1 + (sizes.getD i 0).toNat % 60) 0 : By)) (k := (1 + (sizes.getD i 0).toNat % 60)) hfb List.length_replicate (by omega) (by omega)).2.2.2.2; omega) c72
       · -- 72F
        refine reg_nil ?_
        refine hK53 _ _ ?_
        refine wp_cond_false (ev_hit hN24 rfl) ?_
        refine wp_skip ?_
        refine hK28 _ _ ?_
        refine one_reg ?_
        refine op_move (ev_base hN24 rfl s24_7) ?_
        refine op_add (ev_hit hN24 rfl) rfl (add64 (by omega)) ?_
        refine op_assign (ev_hit hN24 rfl) ?_
        refine reg_nil ?_
        -- round 24F 27T 33T 53F 57F 61F 72F
        exact loop_next _ hN24 hd24 ⟨i + 1, u55, n55, bs55, (putN Lb (List.replicate (1 + ((sizes.getD i 0).toNat % 60)) 0 : By)), rfl, (sl_base hN24 rfl s24_0), (sl_base hN24 rfl s24_3), (sl_base hN24 rfl s24_4), (sl_hit hN24 rfl).trans (congrArg (Value.int .i64) (by omega)), (sl_hit hN24 rfl).trans (congrArg (Value.int .i64) (by have := (fill_ok (r := (List.replicate (1 + (sizes.getD i 0).toNat % 60) 0 : By)) (k := (1 + (sizes.getD i 0).toNat % 60)) hfb List.length_replicate (by omega) (by omega)).2.2.2.2; omega)), (sl_hit hN24 rfl).trans (congrArg (Value.int .i64) (by have := (fill_ok (r := (List.replicate (1 + (sizes.getD i 0).toNat % 60) 0 : By)) (k := (1 + (sizes.getD i 0).toNat % 60)) hfb List.length_replicate (by omega) (by omega)).2.2.1; omega)), (by omega), hP55, (fill_ok (r := (List.replicate (1 + (sizes.getD i 0).toNat % 60) 0 : By)) (k := (1 + (sizes.getD i 0).toNat % 60)) hfb List.length_replicate (by omega) (by omega)).2.2.2.1, hb, (by omega), hrs, hx55, hO55⟩ (by omega)
   · -- 33F
    refine reg_nil ?_
    refine hK27 _ _ ?_
    refine wp_cond_false (ev_hit hN24 rfl) ?_
    refine wp_exit (then_exit (then_exit (blk_hit ?_)))
    refine hK22 _ _ ?_
    refine seq_any fun K59 hK59 => ?_
    refine one_reg ?_
    have hfx3 := hPb.fits
    refine op_move (ev_base hN24 rfl s24_6) ?_
    refine op_sub (ev_hit hN24 rfl) rfl (sub64 (by omega)) ?_
    refine op_assign (ev_hit hN24 rfl) ?_
    refine reg_nil ?_
    refine hK59 _ _ ?_
    refine wp_block ?_
    refine loop_m (fun mz_ az_ w' => ∃  (uc : Value) (nc : Nat) (bsc : By) (Lc : List By), mz_ = (Lc.length + 1) ∧ (az_.tmps.getD 0 undef = vs) ∧ (az_.tmps.getD 3 undef = (ptr p10 0)) ∧ (az_.tmps.getD 4 undef = (Value.int .i64 ((turn : Nat) : Int))) ∧ (az_.tmps.getD 11 undef = (Value.int .i64 (((Lc.length : Nat) : Int) - 1))) ∧ (Pg nc bsc Lc uc) ∧ (freeL Lc = Lc.length) ∧ (Below w.heap.size w w') ∧ (w24.heap.size ≤ w'.heap.size) ∧ (RdC w' 0 w.heap.size 1 vs sizes.length (sizes.map u8v)) ∧ (Bx w' p10 50 [uc]) ∧ (Own w' w.heap.size 5 1 uc nc (bsc.map u8v))) _ hN24 hd24 ⟨ub, nb, bsb, Lb, rfl, (sl_base hN24 rfl s24_0), (sl_base hN24 rfl s24_3), (sl_base hN24 rfl s24_4), (sl_hit hN24 rfl), hPb, hfb, hb, (Nat.le_refl _), hrs, hxb, hO25⟩ ?_
    rintro _ a60 w60 hN60 hd60 ⟨uc, nc, bsc, Lc, rfl, s60_0, s60_3, s60_4, s60_11, hPc, hfc, hb, zl_w60, hrs, hxc, hO61⟩
    have z_w60 := hb.size
    refine seq_any fun K62 hK62 => ?_
    refine seq_any fun K63 hK63 => ?_
    refine one_reg ?_
    refine op_move (ev_base hN60 rfl s60_11) ?_
    refine op_geq (ev_hit hN60 rfl) rfl (fun c76 => ?_) (fun c76 => ?_)
    · -- 76T
     refine reg_nil ?_
     refine hK63 _ _ ?_
     refine wp_cond_true (ev_hit hN60 rfl) ?_
     refine wp_skip ?_
     refine hK62 _ _ ?_
     refine seq_any fun K64 hK64 => ?_
     refine wp_block ?_
     refine seq_any fun K65 hK65 => ?_
     refine one_reg ?_
     have hfx4 := hPc.fits
     refine op_move (ev_base hN60 rfl s60_3) ?_
     refine op_move (ev_base hN60 rfl s60_11) ?_
     refine op_fn (vs := [(ptr p10 0), (Value.int .i64 (((Lc.length : Nat) : Int) - 1))]) ok13 ⟨(ev_hit hN60 rfl), ⟨(ev_hit hN60 rfl), trivial⟩⟩ (drop_ret Lc bsc nc _ _ _ _ (by omega) hxc hO61 hPc (((Lc.length : Nat) : Int) - 1) (by omega)) ?_
     rintro _ w67 ⟨E68, rfl, u66, n66, bs66, hx66, hO66, hP66, ro66⟩
     have hrs := hrs.keepP hxc hO61 E68 (by omega) (by omega)
     have z_w67 := E68.size
     have hb := below_stepR hb E68 hb.size (by omega) hO61 (by omega)
     have hfi_66 := hP66.fits
     refine op_neq (ev_hit hN60 rfl) rfl (fun c82 => ?_) (fun c82 => ?_)
     · -- 82T
      exact absurd (drop_last hfc (by omega)).1 c82
     · -- 82F
      refine reg_nil ?_
      refine hK65 _ _ ?_
      refine wp_cond_false (ev_hit hN60 rfl) ?_
      refine wp_skip ?_
      refine hK64 _ _ ?_
      refine one_reg ?_
      refine op_move (ev_base hN60 rfl s60_11) ?_
      refine op_sub (ev_hit hN60 rfl) rfl (sub64 (by omega)) ?_
      refine op_assign (ev_hit hN60 rfl) ?_
      refine reg_nil ?_
      -- round 24F 27T 33F 76T 82F
      exact loop_next _ hN60 hd60 ⟨u66, n66, bs66, (dropN Lc (((Lc.length : Nat) : Int) - 1)), rfl, (sl_base hN60 rfl s60_0), (sl_base hN60 rfl s60_3), (sl_base hN60 rfl s60_4), (sl_hit hN60 rfl).trans (congrArg (Value.int .i64) (by have := (drop_last hfc (by omega)).2.1; omega)), hP66, (drop_last hfc (by omega)).2.2, hb, (by omega), hrs, hx66, hO66⟩ (by have := (drop_last hfc (by omega)).2.1; omega)
    · -- 76F
     refine reg_nil ?_
     refine hK63 _ _ ?_
     refine wp_cond_false (ev_hit hN60 rfl) ?_
     refine wp_exit (then_exit (then_exit (blk_hit ?_)))
     refine hK19 _ _ ?_
     refine one_reg ?_
     refine op_move (ev_base hN60 rfl s60_4) ?_
     refine op_add (ev_hit hN60 rfl) rfl (add64 (by omega)) ?_
     refine op_assign (ev_hit hN60 rfl) ?_
     refine reg_nil ?_
     -- round 24F 27T 33F 76F
     exact loop_next _ hN60 hd60 ⟨turn + 1, uc, nc, bsc, Lc, rfl, (sl_base hN60 rfl s60_0), (sl_base hN60 rfl s60_3), (sl_hit hN60 rfl).trans (congrArg (Value.int .i64) (by omega)), (by omega), hPc, (List.eq_nil_of_length_eq_zero (by omega)), hb, (by omega), hrs, hxc, hO61⟩ (by omega)
  · -- 27F
   refine reg_nil ?_
   refine hK18 _ _ ?_
   refine wp_cond_false (ev_hit hN15 rfl) ?_
   refine wp_exit (then_exit (then_exit (blk_hit ?_)))
   refine hK13 _ _ ?_
   refine seq_any fun K69 hK69 => ?_
   refine one_reg ?_
   refine op_assign rfl ?_
   refine reg_nil ?_
   refine hK69 _ _ ?_
   refine seq_any fun K70 hK70 => ?_
   refine one_reg ?_
   refine op_move (ev_hit hN15 rfl) ?_
   refine op_bslice (e := 5) (pv := [(0, (Value.int .u8 1))]) (cs := [(Value.int .u8 1)]) ⟨rfl, rfl, trivial⟩ (by kernel_rfl) ?_
   intro w71 b72 lo_b72 hi_b72 hB74 E73
   have ne_b72_ua : ua.ownBlock ≠ some b72 := fun hh => by have := (hO16.lt _ hh).2; omega
   have z_w71 := E73.size
   have hrs := hrs.keep0 E73
   have hxa := hxa.keep0 E73
   have hO16 := hO16.keep0 E73
   have hb := below_step0 hb E73 hb.size
   refine op_fn (vs := [(Value.pointer none), (Value.slice (some ⟨b72, 0, none⟩) 1 1)]) ok11 ⟨(ev_hit hN15 rfl), ⟨(ev_hit hN15 rfl), trivial⟩⟩ (put_nil (Value.slice (some ⟨b72, 0, none⟩) 1 1) _) ?_
   rintro _ w75 ⟨E76, rfl⟩
   have E76 := grown_of_below E76
   have z_w75 := E76.size
   have hrs := hrs.keep0 E76
   have hxa := hxa.keep0 E76
   have hO16 := hO16.keep0 E76
   have hB74 := hB74.keep0 E76
   have hb := below_step0 hb E76 hb.size
   refine op_move (ev_hit hN15 rfl) ?_
   refine op_extract (ev_hit hN15 rfl) rfl ?_
   refine op_extract (ev_hit hN15 rfl) rfl ?_
   refine op_assign (ev_hit hN15 rfl) ?_
   refine op_assign (ev_hit hN15 rfl) ?_
   refine reg_nil ?_
   refine hK70 _ _ ?_
   refine seq_any fun K77 hK77 => ?_
   refine one_reg ?_
   refine op_move (ev_hit hN15 rfl) ?_
   refine op_fn (vs := [(Value.pointer none), (Value.int .i64 0)]) ok15 ⟨(ev_hit hN15 rfl), ⟨rfl, trivial⟩⟩ (get_nil 0 _) ?_
   rintro _ w78 ⟨E79, rfl⟩
   have E79 := grown_of_below E79
   have z_w78 := E79.size
   have hrs := hrs.keep0 E79
   have hxa := hxa.keep0 E79
   have hO16 := hO16.keep0 E79
   have hB74 := hB74.keep0 E79
   have hb := below_step0 hb E79 hb.size
   refine op_move (ev_hit hN15 rfl) ?_
   refine op_extract (ev_hit hN15 rfl) rfl ?_
   refine op_extract (ev_hit hN15 rfl) rfl ?_
   refine op_assign (ev_hit hN15 rfl) ?_
   refine op_assign (ev_hit hN15 rfl) ?_
   refine reg_nil ?_
   refine hK77 _ _ ?_
   refine seq_any fun K80 hK80 => ?_
   refine one_reg ?_
   refine op_build (pv := []) (v := (Value.agg #[(Value.slice none 0 0)])) trivial (by kernel_rfl) ?_
   refine op_box (cs := [(Value.slice none 0 0)]) (ev_hit hN15 rfl) rfl ?_
   intro w81 b82 lo_b82 hi_b82 hB84 E83
   have z_w81 := E83.size
   have hrs := hrs.keep0 E83
   have hxa := hxa.keep0 E83
   have hO16 := hO16.keep0 E83
   have hB74 := hB74.keep0 E83
   have hb := below_step0 hb E83 hb.size
   refine op_assign (ev_hit hN15 rfl) ?_
   refine reg_nil ?_
   refine hK80 _ _ ?_
   refine seq_any fun K85 hK85 => ?_
   refine one_reg ?_
   refine op_move (ev_hit hN15 rfl) ?_
   refine op_bslice (e := 5) (pv := [(0, (Value.int .u8 1))]) (cs := [(Value.int .u8 1)]) ⟨rfl, rfl, trivial⟩ (by kernel_rfl) ?_
   intro w86 b87 lo_b87 hi_b87 hB89 E88
   have ne_b87_ua : ua.ownBlock ≠ some b87 := fun hh => by have := (hO16.lt _ hh).2; omega
   have z_w86 := E88.size
   have hrs := hrs.keep0 E88
   have hxa := hxa.keep0 E88
   have hO16 := hO16.keep0 E88
   have hB74 := hB74.keep0 E88
   have hB84 := hB84.keep0 E88
   have hb := below_step0 hb E88 hb.size
   have hrx90 : RdC w86 b87 (b87 + 1) 1 (Value.slice (some ⟨b87, 0, none⟩) 1 1) ([1] : By).length (([1] : By).map u8v) := (RdC.ofBx (sz := 1) (n := 1) hB89 rfl (by decide))
   refine op_fn (vs := [(ptr b82 0), (Value.slice (some ⟨b87, 0, none⟩) 1 1)]) ok11 ⟨(ev_hit hN15 rfl), ⟨(ev_hit hN15 rfl), trivial⟩⟩ (put_ret [] [] 0 _ _ _ _ (by omega) hB84 (Own.nil w86 w.heap.size 5 1) Pg.zero ([1] : By) _ _ _ hrx90 (lit_apart (hB89.ne hB84 (by decide)) (ne_nil b87)) hB89.lt) ?_
   rintro _ w93 ⟨E94, rfl, u92, n92, bs92, hx92, hO92, hP92, ro92⟩
   have dj95 : DJ ua u92 := DJ.stepP ro92 (dj_nil ua) (hO16.neB hB84 (by decide)) (fun k hk => (hO16.lt k hk).2)
   have ne_b72_u92 : u92.ownBlock ≠ some b72 := ro92.ne (ne_nil b72) (hB74.ne hB84 (by decide)) hB74.lt
   have ne_b87_u92 : u92.ownBlock ≠ some b87 := ro92.ne (ne_nil b87) (hB89.ne hB84 (by decide)) hB89.lt
   have hrs := hrs.keepP hB84 (Own.nil w86 w.heap.size 5 1) E94 (by omega) (by omega)
   have hxa := hxa.keepP2 (Own.nil w86 w.heap.size 5 1) E94 (by omega) (by decide)
   have hO16 := hO16.keepP hB84 (Own.nil w86 w.heap.size 5 1) E94 (by decide) (.inr (dj_nil ua))
   have hB74 := hB74.keepPn hB84 E94 (by decide) (ne_nil b72)
   have hB89 := hB89.keepPn hB84 E94 (by decide) (ne_nil b87)
   have z_w93 := E94.size
   have hb := below_stepR hb E94 hb.size (by omega) (Own.nil w86 w.heap.size 5 1) (by omega)
   have hfi_92 := hP92.fits
   have hpk_91 := putK_rng [] ([1] : By)
   refine op_move (ev_hit hN15 rfl) ?_
   refine op_extract (ev_hit hN15 rfl) rfl ?_
   refine op_extract (ev_hit hN15 rfl) rfl ?_
   refine op_assign (ev_hit hN15 rfl) ?_
   refine op_assign (ev_hit hN15 rfl) ?_
   refine reg_nil ?_
   refine hK85 _ _ ?_
   refine seq_any fun K96 hK96 => ?_
   refine one_reg ?_
   refine op_move (ev_base hN15 rfl s15_3) ?_
   refine op_fn (vs := [(ptr p10 0)]) ok14 ⟨(ev_hit hN15 rfl), trivial⟩ (free_ret La bsa na _ _ _ _ (by omega) hxa hO16 hPa ) ?_
   rintro _ w99 ⟨E100, rfl, u98, n98, bs98, hx98, hO98, hP98, ro98⟩
   have ne_b72_u98 : u98.ownBlock ≠ some b72 := ro98.ne ne_b72_ua (hB74.ne hxa (by decide)) hB74.lt
   have ne_b87_u98 : u98.ownBlock ≠ some b87 := ro98.ne ne_b87_ua (hB89.ne hxa (by decide)) hB89.lt
   have dj101 : DJ u92 u98 := DJ.stepP ro98 dj95.symm (hO92.neB hxa (by decide)) (fun k hk => (hO92.lt k hk).2)
   have hrs := hrs.keepP hxa hO16 E100 (by omega) (by omega)
   have hB74 := hB74.keepPn hxa E100 (by decide) ne_b72_ua
   have hB89 := hB89.keepPn hxa E100 (by decide) ne_b87_ua
   have hx92 := hx92.keepP2 hO16 E100 (by omega) (by decide)
   have hO92 := hO92.keepP hxa hO16 E100 (by decide) (.inr dj95.symm)
   have z_w99 := E100.size
   have hb := below_stepR hb E100 hb.size (by omega) hO16 (by omega)
   have hfi_98 := hP98.fits
   have hlr_97 := hPa.left
   refine op_eql (ev_hit hN15 rfl) rfl (fun c104 => ?_) (fun c104 => ?_)
   · -- 104T
    refine op_move (ev_hit hN15 rfl) ?_
    refine g_true (j := 3) (dj := 105) (b := true) rfl rfl rfl (ev_hit hN15 rfl) ?_
    refine op_move (ev_hit hN15 rfl) ?_
    refine g_true (j := 3) (dj := 105) (b := true) rfl rfl rfl (ev_hit hN15 rfl) ?_
    refine op_bin (v := .bool true) (ev_hit hN15 rfl) rfl (by rw [binOp_eql]; rfl) ?_
    refine op_pick_t (ev_hit hN15 rfl) (ev_hit hN15 rfl) ?_
    refine op_move (ev_hit hN15 rfl) ?_
    refine g_true (j := 7) (dj := 109) (b := true) rfl rfl rfl (ev_hit hN15 rfl) ?_
    refine op_move (ev_hit hN15 rfl) ?_
    refine g_true (j := 7) (dj := 109) (b := true) rfl rfl rfl (ev_hit hN15 rfl) ?_
    refine op_bin (v := .bool true) (ev_hit hN15 rfl) rfl (by rw [binOp_eql]; rfl) ?_
    refine op_pick_t (ev_hit hN15 rfl) (ev_hit hN15 rfl) ?_
    refine op_move (ev_hit hN15 rfl) ?_
    refine g_true (j := 11) (dj := 113) (b := true) rfl rfl rfl (ev_hit hN15 rfl) ?_
    refine op_move (ev_hit hN15 rfl) ?_
    refine g_true (j := 11) (dj := 113) (b := true) rfl rfl rfl (ev_hit hN15 rfl) ?_
    refine op_fn (vs := [(Value.pointer none), (Value.int .i64 0), (Value.slice none 0 0)]) ok20 ⟨(ev_hit hN15 rfl), ⟨rfl, ⟨rfl, trivial⟩⟩⟩ (set_nil 0 (Value.slice none 0 0) _) ?_
    rintro _ w102 ⟨E103, rfl⟩
    have E103 := grown_of_below E103
    have z_w102 := E103.size
    have hrs := hrs.keep0 E103
    have hB74 := hB74.keep0 E103
    have hB89 := hB89.keep0 E103
    have hx92 := hx92.keep0 E103
    have hO92 := hO92.keep0 E103
    have hx98 := hx98.keep0 E103
    have hO98 := hO98.keep0 E103
    have hb := below_step0 hb E103 hb.size
    refine g_true (j := 11) (dj := 113) (b := true) rfl rfl rfl (ev_hit hN15 rfl) ?_
    refine op_bin (v := .bool true) (ev_hit hN15 rfl) rfl (by rw [binOp_eql]; rfl) ?_
    refine op_pick_t (ev_hit hN15 rfl) (ev_hit hN15 rfl) ?_
    refine op_move (ev_hit hN15 rfl) ?_
    refine g_true (j := 16) (dj := 118) (b := true) rfl rfl rfl (ev_hit hN15 rfl) ?_
    refine op_move (ev_hit hN15 rfl) ?_
    refine g_true (j := 16) (dj := 118) (b := true) rfl rfl rfl (ev_hit hN15 rfl) ?_
    refine op_fn (vs := [(Value.pointer none), (Value.int .i64 0)]) ok13 ⟨(ev_hit hN15 rfl), ⟨rfl, trivial⟩⟩ (drop_nil 0 _) ?_
    rintro _ w104 ⟨E105, rfl⟩
    have E105 := grown_of_below E105
    have z_w104 := E105.size
    have hrs := hrs.keep0 E105
    have hB74 := hB74.keep0 E105
    have hB89 := hB89.keep0 E105
    have hx92 := hx92.keep0 E105
    have hO92 := hO92.keep0 E105
    have hx98 := hx98.keep0 E105
    have hO98 := hO98.keep0 E105
    have hb := below_step0 hb E105 hb.size
    refine g_true (j := 16) (dj := 118) (b := true) rfl rfl rfl (ev_hit hN15 rfl) ?_
    refine op_bin (v := .bool true) (ev_hit hN15 rfl) rfl (by rw [binOp_eql]; rfl) ?_
    refine op_pick_t (ev_hit hN15 rfl) (ev_hit hN15 rfl) ?_
    refine op_move (ev_hit hN15 rfl) ?_
    refine g_true (j := 21) (dj := 123) (b := true) rfl rfl rfl (ev_hit hN15 rfl) ?_
    refine op_move (ev_hit hN15 rfl) ?_
    refine g_true (j := 21) (dj := 123) (b := true) rfl rfl rfl (ev_hit hN15 rfl) ?_
    refine op_fn (vs := [(Value.pointer none)]) ok12 ⟨(ev_hit hN15 rfl), trivial⟩ (slots_nil _) ?_
    rintro _ w106 ⟨E107, rfl⟩
    have E107 := grown_of_below E107
    have z_w106 := E107.size
    have hrs := hrs.keep0 E107
    have hB74 := hB74.keep0 E107
    have hB89 := hB89.keep0 E107
    have hx92 := hx92.keep0 E107
    have hO92 := hO92.keep0 E107
    have hx98 := hx98.keep0 E107
    have hO98 := hO98.keep0 E107
    have hb := below_step0 hb E107 hb.size
    refine g_true (j := 21) (dj := 123) (b := true) rfl rfl rfl (ev_hit hN15 rfl) ?_
    refine op_len_rd Try.underlying29 (ev_hit hN15 rfl) (RdC.nil _ 0 0 1) ?_
    refine g_true (j := 21) (dj := 123) (b := true) rfl rfl rfl (ev_hit hN15 rfl) ?_
    refine op_move (ev_hit hN15 rfl) ?_
    refine g_true (j := 21) (dj := 123) (b := true) rfl rfl rfl (ev_hit hN15 rfl) ?_
    refine op_fn (vs := [(Value.pointer none)]) ok25 ⟨(ev_hit hN15 rfl), trivial⟩ (bytes_nil _) ?_
    rintro _ w108 ⟨E109, rfl⟩
    have E109 := grown_of_below E109
    have z_w108 := E109.size
    have hrs := hrs.keep0 E109
    have hB74 := hB74.keep0 E109
    have hB89 := hB89.keep0 E109
    have hx92 := hx92.keep0 E109
    have hO92 := hO92.keep0 E109
    have hx98 := hx98.keep0 E109
    have hO98 := hO98.keep0 E109
    have hb := below_step0 hb E109 hb.size
    refine g_true (j := 21) (dj := 123) (b := true) rfl rfl rfl (ev_hit hN15 rfl) ?_
    refine op_len_rd Try.underlying22 (ev_hit hN15 rfl) (RdC.nil _ 0 0 1) ?_
    refine g_true (j := 21) (dj := 123) (b := true) rfl rfl rfl (ev_hit hN15 rfl) ?_
    refine op_add (r := 0) (ev_hit hN15 rfl) (ev_hit hN15 rfl) (by decide) ?_
    refine g_true (j := 21) (dj := 123) (b := true) rfl rfl rfl (ev_hit hN15 rfl) ?_
    refine op_bin (v := .bool true) (ev_hit hN15 rfl) rfl (by rw [binOp_eql]; rfl) ?_
    refine op_pick_t (ev_hit hN15 rfl) (ev_hit hN15 rfl) ?_
    refine op_move (ev_hit hN15 rfl) ?_
    refine g_true (j := 31) (dj := 133) (b := true) rfl rfl rfl (ev_hit hN15 rfl) ?_
    refine op_move (ev_hit hN15 rfl) ?_
    refine g_true (j := 31) (dj := 133) (b := true) rfl rfl rfl (ev_hit hN15 rfl) ?_
    refine op_fn (vs := [(Value.pointer none)]) ok14 ⟨(ev_hit hN15 rfl), trivial⟩ (free_nil _) ?_
    rintro _ w110 ⟨E111, rfl⟩
    have E111 := grown_of_below E111
    have z_w110 := E111.size
    have hrs := hrs.keep0 E111
    have hB74 := hB74.keep0 E111
    have hB89 := hB89.keep0 E111
    have hx92 := hx92.keep0 E111
    have hO92 := hO92.keep0 E111
    have hx98 := hx98.keep0 E111
    have hO98 := hO98.keep0 E111
    have hb := below_step0 hb E111 hb.size
    refine g_true (j := 31) (dj := 133) (b := true) rfl rfl rfl (ev_hit hN15 rfl) ?_
    refine op_bin (v := .bool true) (ev_hit hN15 rfl) rfl (by rw [binOp_eql]; rfl) ?_
    refine op_pick_t (ev_hit hN15 rfl) (ev_hit hN15 rfl) ?_
    refine op_move (ev_hit hN15 rfl) ?_
    refine g_true (j := 36) (dj := 138) (b := true) rfl rfl rfl (ev_hit hN15 rfl) ?_
    refine op_move (ev_hit hN15 rfl) ?_
    refine g_true (j := 36) (dj := 138) (b := true) rfl rfl rfl (ev_hit hN15 rfl) ?_
    refine op_eql (ev_hit hN15 rfl) rfl (fun c140 => ?_) (fun c140 => ?_)
    · -- 140T
     refine op_pick_t (ev_hit hN15 rfl) (ev_hit hN15 rfl) ?_
     refine op_move (ev_hit hN15 rfl) ?_
     refine g_true (j := 40) (dj := 142) (b := true) rfl rfl rfl (ev_hit hN15 rfl) ?_
     refine op_move (ev_hit hN15 rfl) ?_
     refine g_true (j := 40) (dj := 142) (b := true) rfl rfl rfl (ev_hit hN15 rfl) ?_
     refine op_fn (vs := [(ptr b82 0)]) ok14 ⟨(ev_hit hN15 rfl), trivial⟩ (free_ret (putN [] [1]) bs92 n92 _ _ _ _ (by omega) hx92 hO92 hP92 ) ?_
     rintro _ w114 ⟨E115, rfl, u113, n113, bs113, hx113, hO113, hP113, ro113⟩
     have ne_b72_u113 : u113.ownBlock ≠ some b72 := ro113.ne ne_b72_u92 (hB74.ne hx92 (by decide)) hB74.lt
     have ne_b87_u113 : u113.ownBlock ≠ some b87 := ro113.ne ne_b87_u92 (hB89.ne hx92 (by decide)) hB89.lt
     have dj116 : DJ u98 u113 := DJ.stepP ro113 dj101.symm (hO98.neB hx92 (by decide)) (fun k hk => (hO98.lt k hk).2)
     have hrs := hrs.keepP hx92 hO92 E115 (by omega) (by omega)
     have hB74 := hB74.keepPn hx92 E115 (by decide) ne_b72_u92
     have hB89 := hB89.keepPn hx92 E115 (by decide) ne_b87_u92
     have hx98 := hx98.keepP2 hO92 E115 (by omega) (by decide)
     have hO98 := hO98.keepP hx92 hO92 E115 (by decide) (.inr dj101.symm)
     have z_w114 := E115.size
     have hb := below_stepR hb E115 hb.size (by omega) hO92 (by omega)
     have hfi_113 := hP113.fits
     have hlr_112 := hP92.left
     refine g_true (j := 40) (dj := 142) (b := true) rfl rfl rfl (ev_hit hN15 rfl) ?_
     refine op_eql (ev_hit hN15 rfl) rfl (fun c145 => ?_) (fun c145 => ?_)
     · -- 145T
      refine op_pick_t (ev_hit hN15 rfl) (ev_hit hN15 rfl) ?_
      refine op_assign (ev_hit hN15 rfl) ?_
      refine reg_nil ?_
      refine hK96 _ _ ?_
      refine wp_ret ?_
      refine ret1 rfl hd15 (ev_hit hN15 rfl) ⟨_, rfl, ?_⟩
      -- path 24F 27F 104T 140T 145T
      exact ⟨hb, rfl⟩
     · -- 145F
      exact absurd c145 (by decide +kernel)
    · -- 140F
     exact absurd c140 (by decide +kernel)
   · -- 104F
    exact absurd (by rw [hLa]; rfl) c104

end Go.Proofs.Ytdhpalioifjfbaa
