/- Walks, written by a program: what each function of the translation hands back. -/
import Derived.Test.YtcpfdfejojghbaaProg
import Derived.KernelRfl
import Derived.Test.YtcpfdfejojghbaaB4
namespace Go.Proofs.Ytcpfdfejojghbaa
open Go.Gx Go.RowKit
attribute [local irreducible] wpList wpStill Code.wp Calls
open Go.Bt
theorem TreePieces_ret (l : List UInt16) (step : UInt8) (vl : Value) (w : World) (hll : l.length ≤ 9223372036854775807) (hr : RdC w 0 w.heap.size 1 vl l.length (l.map u16v)) : Ret Try.prog 6 #[vl, (Value.int .u8 (step.toNat : Int))] w (fun v' w' => Below w.heap.size w w' ∧ v' = .bool true) := by
 have hs9 := step.toNat_lt
 have hb := Below.refl w.heap.size w
 refine enter (N := 117) Try.func6 rfl rfl (by simp) fun a0 hN hd hA => ?_
 have s0 : a0.tmps.getD 0 undef = vl := hA 0 (by simp)
 have s1 : a0.tmps.getD 1 undef = (Value.int .u8 (step.toNat : Int)) := hA 1 (by simp)
 clear hA
 refine seq_any fun K1 hK1 => ?_
 refine one_reg ?_
 refine op_assign rfl ?_
 refine reg_nil ?_
 refine hK1 _ _ ?_
 refine seq_any fun K2 hK2 => ?_
 refine seq_any fun K3 hK3 => ?_
 refine one_reg ?_
 refine op_fn (vs := []) ok11 trivial (begun15) ?_
 rintro _ w4 ⟨E5, rfl⟩
 have E5 := grown_of_below E5
 have z_w4 := E5.size
 have hr := hr.keep0 E5
 have hb := below_step0 hb E5 hb.size
 refine op_not (ev_hit hN rfl) ?_
 refine reg_nil ?_
 refine hK3 _ _ ?_
 refine wp_cond_false (ev_hit hN rfl) ?_
 refine wp_skip ?_
 refine hK2 _ _ ?_
 refine seq_any fun K6 hK6 => ?_
 refine seq_any fun K7 hK7 => ?_
 refine one_reg ?_
 refine op_move (ev_base hN rfl s0) ?_
 refine op_len_rd Try.underlying33 (ev_hit hN rfl) hr ?_
 refine op_gtr (ev_hit hN rfl) rfl (fun c17 => ?_) (fun c17 => ?_)
 · -- 17T
  refine reg_nil ?_
  refine hK7 _ _ ?_
  refine wp_cond_true (ev_hit hN rfl) ?_
  refine seq_any fun K8 hK8 => ?_
  refine one_reg ?_
  refine op_assign rfl ?_
  refine reg_nil ?_
  refine hK8 _ _ ?_
  refine wp_ret (then_ret ( ?_))
  refine ret1 rfl hd (ev_hit hN rfl) ⟨_, rfl, ?_⟩
  -- path 17T
  exact ⟨hb, rfl⟩
 · -- 17F
  refine reg_nil ?_
  refine hK7 _ _ ?_
  refine wp_cond_false (ev_hit hN rfl) ?_
  refine wp_skip ?_
  refine hK6 _ _ ?_
  refine seq_any fun K9 hK9 => ?_
  refine one_reg ?_
  refine op_fn (vs := []) ok22 trivial (newLI) ?_
  rintro _ w11 ⟨E12, p10, F10, rfl, hT10⟩
  have E12 := grown_of_below E12
  have hlo13 : ∀ k, F10 k → w4.heap.size ≤ k := fun k hk => (hT10.lt k hk).1
  have z_w11 := E12.size
  have hr := hr.keep0 E12
  have hb := below_step0 hb E12 hb.size
  have hT10 : TopL kI 71 w.heap.size w11 p10 [] F10 := hT10.rebase (by omega)
  refine op_assign (ev_hit hN rfl) ?_
  refine reg_nil ?_
  refine hK9 _ _ ?_
  refine seq_any fun K14 hK14 => ?_
  refine seq_any fun K15 hK15 => ?_
  refine one_reg ?_
  refine op_assign rfl ?_
  refine reg_nil ?_
  refine hK15 _ _ ?_
  refine wp_block ?_
  refine loop_m (fun mz_ az_ w' => ∃ (i : Nat) (M : List (Ky × Int)) (F9 : Nat → Prop), mz_ = l.length - i ∧ (az_.tmps.getD 0 undef = vl) ∧ (az_.tmps.getD 1 undef = (Value.int .u8 (step.toNat : Int))) ∧ (az_.tmps.getD 4 undef = (Value.bool false)) ∧ (az_.tmps.getD 5 undef = (ptr p10 0)) ∧ (az_.tmps.getD 6 undef = (Value.int .i64 ((i : Nat) : Int))) ∧ (i ≤ l.length) ∧ (M.length ≤ i) ∧ (∀ q ∈ M, q.1.length = 2) ∧ (Below w.heap.size w w') ∧ (w11.heap.size ≤ w'.heap.size) ∧ (RdC w' 0 w.heap.size 1 vl l.length (l.map u16v)) ∧ (TopL kI 71 w.heap.size w' p10 M F9)) _ hN hd ⟨0, [], F10, rfl, (sl_base hN rfl s0), (sl_base hN rfl s1), (sl_hit hN rfl), (sl_hit hN rfl), (sl_hit hN rfl), (Nat.zero_le _), (Nat.le_refl _), (fun _ h => (nomatch h)), hb, (Nat.le_refl _), hr, hT10⟩ ?_
  rintro _ a16 w16 hN16 hd16 ⟨i, M, F9, rfl, s16_0, s16_1, s16_4, s16_5, s16_6, hi, hlM, hsh, hb, zl_w16, hr, hTM⟩
  have z_w16 := hb.size
  refine seq_any fun K17 hK17 => ?_
  refine seq_any fun K18 hK18 => ?_
  refine one_reg ?_
  refine op_move (ev_base hN16 rfl s16_6) ?_
  refine op_move (ev_base hN16 rfl s16_0) ?_
  refine op_len_rd Try.underlying33 (ev_hit hN16 rfl) hr ?_
  refine op_lss (ev_hit hN16 rfl) (ev_hit hN16 rfl) (fun c22 => ?_) (fun c22 => ?_)
  · -- 22T
   refine reg_nil ?_
   refine hK18 _ _ ?_
   refine wp_cond_true (ev_hit hN16 rfl) ?_
   refine wp_skip ?_
   refine hK17 _ _ ?_
   refine seq_any fun K19 hK19 => ?_
   refine wp_block ?_
   obtain ⟨b20, o21, hAt22⟩ := hr.atV (i := i) (by decide) (by omega)
   have hsM := hTM.sorted
   refine reg_env (φ := phiV [(fun uz => uz = (ptr p10 0)), (fun uz => uz = vl), (fun uz => uz = (Value.int .i64 ((i : Nat) : Int))), (fun uz => uz = (ptr b20 o21)), (fun uz => uz = (Value.int .u16 ((l.getD i 0).toNat : Int))), (fun uz => uz = (Value.int .u16 (((l.getD i 0).toNat / 256 : Nat) : Int))), (fun uz => uz = (Value.int .u8 ((UInt8.ofNat ((l.getD i 0).toNat / 256)).toNat : Int))), (fun uz => uz = vl), (fun uz => uz = (Value.int .i64 ((i : Nat) : Int))), (fun uz => uz = (ptr b20 o21)), (fun uz => uz = (Value.int .u16 ((l.getD i 0).toNat : Int))), (fun uz => uz = (Value.int .u8 ((UInt8.ofNat (l.getD i 0).toNat).toNat : Int))), (fun _ => True), (fun uz => uz = (Value.int .i64 ((i : Nat) : Int))), (fun _ => True)]) (G := fun w' => RdC w' 0 w.heap.size 1 vl l.length (l.map u16v)) [12, 14] mixed (by kernel_rfl) (by kernel_rfl) (by kernel_rfl) (by kernel_rfl) hN16 (fun w1 w2 E h => h.keep0 E) hr (ObEs.cons ?_ (ObEs.cons ?_ (ObEs.cons ?_ (ObEs.cons ?_ (ObEs.cons ?_ (ObEs.cons ?_ (ObEs.cons ?_ (ObEs.cons ?_ (ObEs.cons ?_ (ObEs.cons ?_ (ObEs.cons ?_ (ObEs.cons ?_ (ObEs.pass rfl (ObEs.cons ?_ (ObEs.pass rfl (ObEs.nil)))))))))))))))) (by simp only [putsL_defers]) ?_
   ·
    intro eA aA wA hNA hGA hbsA hdpA
    have qA_5 := (hbsA 5 rfl).trans (sl_base hN16 rfl s16_5)
    refine op_move (ev_base hNA rfl qA_5) ?_
    exact obE_end rfl rfl rfl
   ·
    intro eA aA wA hNA hGA hbsA hdpA
    have qA_0 := (hbsA 0 rfl).trans (sl_base hN16 rfl s16_0)
    refine op_move (ev_base hNA rfl qA_0) ?_
    exact obE_end rfl rfl rfl
   ·
    intro eA aA wA hNA hGA hbsA hdpA
    have qA_6 := (hbsA 6 rfl).trans (sl_base hN16 rfl s16_6)
    refine op_move (ev_base hNA rfl qA_6) ?_
    exact obE_end rfl rfl rfl
   ·
    intro eA aA wA hNA hGA hbsA hdpA
    have qA_26 : Sl aA 26 vl := (hdpA 1 _ 26 (by kernel_rfl) rfl rfl).2 rfl
    have qA_27 : Sl aA 27 (Value.int .i64 ((i : Nat) : Int)) := (hdpA 2 _ 27 (by kernel_rfl) rfl rfl).2 rfl
    refine op_index_atR (i := i) slt33 (ev_base hNA rfl qA_26) hr (by decide) (ev_base hNA rfl qA_27) (by omega) (by omega) hAt22 ?_
    exact obE_end rfl rfl rfl
   ·
    intro eA aA wA hNA hGA hbsA hdpA
    have qA_28 : Sl aA 28 (ptr b20 o21) := (hdpA 3 _ 28 (by kernel_rfl) rfl rfl).2 rfl
    refine op_load1 (v := (Value.int .u16 ((l.getD i 0).toNat : Int))) one37 (ev_base hNA rfl qA_28) (hGA.cellAt hAt22 0 _ (el_u16 (e := ((i : Nat) : Int)) (i := i) rfl (by omega))) ?_
    exact obE_end rfl rfl rfl
   ·
    intro eA aA wA hNA hGA hbsA hdpA
    have qA_29 : Sl aA 29 (Value.int .u16 ((l.getD i 0).toNat : Int)) := (hdpA 4 _ 29 (by kernel_rfl) rfl rfl).2 rfl
    refine op_shr (r := (((l.getD i 0).toNat / 256 : Nat) : Int)) (ev_base hNA rfl qA_29) rfl (by decide) (shr_nat (j := 8) (by omega) (by decide)) ?_
    exact obE_end rfl rfl rfl
   ·
    intro eA aA wA hNA hGA hbsA hdpA
    have qA_30 : Sl aA 30 (Value.int .u16 (((l.getD i 0).toNat / 256 : Nat) : Int)) := (hdpA 5 _ 30 (by kernel_rfl) rfl rfl).2 rfl
    refine op_conv (r := ((UInt8.ofNat ((l.getD i 0).toNat / 256)).toNat : Int)) (ev_base hNA rfl qA_30) us37 Try.underlying5 conv_u8 ?_
    exact obE_end rfl rfl rfl
   ·
    intro eA aA wA hNA hGA hbsA hdpA
    have qA_0 := (hbsA 0 rfl).trans (sl_base hN16 rfl s16_0)
    refine op_move (ev_base hNA rfl qA_0) ?_
    exact obE_end rfl rfl rfl
   ·
    intro eA aA wA hNA hGA hbsA hdpA
    have qA_6 := (hbsA 6 rfl).trans (sl_base hN16 rfl s16_6)
    refine op_move (ev_base hNA rfl qA_6) ?_
    exact obE_end rfl rfl rfl
   ·
    intro eA aA wA hNA hGA hbsA hdpA
    have qA_32 : Sl aA 32 vl := (hdpA 7 _ 32 (by kernel_rfl) rfl rfl).2 rfl
    have qA_33 : Sl aA 33 (Value.int .i64 ((i : Nat) : Int)) := (hdpA 8 _ 33 (by kernel_rfl) rfl rfl).2 rfl
    refine op_index_atR (i := i) slt33 (ev_base hNA rfl qA_32) hr (by decide) (ev_base hNA rfl qA_33) (by omega) (by omega) hAt22 ?_
    exact obE_end rfl rfl rfl
   ·
    intro eA aA wA hNA hGA hbsA hdpA
    have qA_34 : Sl aA 34 (ptr b20 o21) := (hdpA 9 _ 34 (by kernel_rfl) rfl rfl).2 rfl
    refine op_load1 (v := (Value.int .u16 ((l.getD i 0).toNat : Int))) one37 (ev_base hNA rfl qA_34) (hGA.cellAt hAt22 0 _ (el_u16 (e := ((i : Nat) : Int)) (i := i) rfl (by omega))) ?_
    exact obE_end rfl rfl rfl
   ·
    intro eA aA wA hNA hGA hbsA hdpA
    have qA_35 : Sl aA 35 (Value.int .u16 ((l.getD i 0).toNat : Int)) := (hdpA 10 _ 35 (by kernel_rfl) rfl rfl).2 rfl
    refine op_conv (r := ((UInt8.ofNat (l.getD i 0).toNat).toNat : Int)) (ev_base hNA rfl qA_35) us37 Try.underlying5 conv_u8 ?_
    exact obE_end rfl rfl rfl
   ·
    intro eA aA wA hNA hGA hbsA hdpA
    have qA_6 := (hbsA 6 rfl).trans (sl_base hN16 rfl s16_6)
    refine op_move (ev_base hNA rfl qA_6) ?_
    exact obE_end rfl rfl rfl
   ·
    intro w23 E23 _ a23 hN23 hbs23 hdp23 o_ ho_; obtain rfl := Option.some.inj ho_
    have z_w23 := E23.size
    have hr := hr.keep0 E23
    have hTM := hTM.keepG (Gr.of0 E23 NoB) (fun _ _ h => h)
    have hb := below_step0 hb E23 hb.size
    have q23_31 : Sl a23 31 (Value.int .u8 ((UInt8.ofNat ((l.getD i 0).toNat / 256)).toNat : Int)) := (hdp23 6 _ 31 (by kernel_rfl) rfl rfl).2 rfl
    have q23_36 : Sl a23 36 (Value.int .u8 ((UInt8.ofNat (l.getD i 0).toNat).toNat : Int)) := (hdp23 11 _ 36 (by kernel_rfl) rfl rfl).2 rfl
    refine op_bslice (e := 5) (pv := [(0, (Value.int .u8 ((UInt8.ofNat ((l.getD i 0).toNat / 256)).toNat : Int))), (1, (Value.int .u8 ((UInt8.ofNat (l.getD i 0).toNat).toNat : Int)))]) (cs := [(Value.int .u8 ((UInt8.ofNat ((l.getD i 0).toNat / 256)).toNat : Int)), (Value.int .u8 ((UInt8.ofNat (l.getD i 0).toNat).toNat : Int))]) ⟨rfl, (ev_base hN23 rfl q23_31), ⟨rfl, (ev_base hN23 rfl q23_36), trivial⟩⟩ (by kernel_rfl) ?_
    intro w24 b25 lo_b25 hi_b25 hB27 E26
    have dj28 : ¬ F9 b25 := fun hf => by have := (hTM.lt _ hf).2; omega
    have z_w24 := E26.size
    have hr := hr.keep0 E26
    have hTM := hTM.keepG (Gr.of0 E26 NoB) (fun _ _ h => h)
    have hb := below_step0 hb E26 hb.size
    refine ke_end rfl (by decide) rfl hr ?_
    intro w29 E29 _ a29 hN29 hbs29 hdp29 o_ ho_; obtain rfl := Option.some.inj ho_
    have z_w29 := E29.size
    have hr := hr.keep0 E29
    have hTM := hTM.keepG (Gr.of0 E29 NoB) (fun _ _ h => h)
    have hB27 := hB27.keep0 E29
    have hb := below_step0 hb E29 hb.size
    have q29_25 : Sl a29 25 (ptr p10 0) := (hdp29 0 _ 25 (by kernel_rfl) rfl rfl).2 rfl
    have q29_37 : Sl a29 37 (Value.slice (some ⟨b25, 0, none⟩) 2 2) := (Option.some.inj ((hdp29 12 _ 37 (by kernel_rfl) rfl rfl).1 0 rfl)).symm
    have q29_38 : Sl a29 38 (Value.int .i64 ((i : Nat) : Int)) := (hdp29 13 _ 38 (by kernel_rfl) rfl rfl).2 rfl
    refine op_fn (vs := [(ptr p10 0), (Value.slice (some ⟨b25, 0, none⟩) 2 2), (Value.int .i64 ((i : Nat) : Int))]) ok23 ⟨(ev_base hN29 rfl q29_25), ⟨(ev_base hN29 rfl q29_37), ⟨(ev_base hN29 rfl q29_38), trivial⟩⟩⟩ (putLsI (k := [(UInt8.ofNat ((l.getD i 0).toNat / 256)), (UInt8.ofNat (l.getD i 0).toNat)]) (x := ((i : Nat) : Int)) hTM hb.size (RdC.ofBx (sz := 1) (n := 2) hB27 rfl (by decide)) (by have := hB27.lt; omega) (hapB dj28) (by simp; done)) ?_
    rintro _ w31 ⟨E32, rfl, F30, hT30, hN30⟩
    have bd33 := hB27.lt
    have hTM_old := hTM
    have z_w31 := E32.size
    have hr := hr.keepG E32 (fun k hk => .inr (by have := hTM_old.lt k hk; omega))
    have hB27 := hB27.keepG E32 dj28
    have hb := below_stepG hb E32 hb.size (fun k hk => (hTM_old.lt k hk).1)
    have dj34 : ¬ F30 b25 := ne_stepF hN30 bd33 dj28
    refine ke_end rfl (by decide) rfl hr ?_
    intro w35 E35 a35 hN35 hd35 hbs35 hph35
    have hd35 := hd35.trans ((by simp only [putsL_defers] : _ = _).trans hd16)
    have z_w35 := E35.size
    have hr := hr.keep0 E35
    have hB27 := hB27.keep0 E35
    have hT30 := hT30.keepG (Gr.of0 E35 NoB) (fun _ _ h => h)
    have hb := below_step0 hb E35 hb.size
    have s35_0 := (hbs35 0 rfl).trans (sl_base hN16 rfl s16_0)
    have s35_1 := (hbs35 1 rfl).trans (sl_base hN16 rfl s16_1)
    have s35_4 := (hbs35 4 rfl).trans (sl_base hN16 rfl s16_4)
    have s35_5 := (hbs35 5 rfl).trans (sl_base hN16 rfl s16_5)
    have s35_6 := (hbs35 6 rfl).trans (sl_base hN16 rfl s16_6)
    refine hK19 _ _ ?_
    refine one_reg ?_
    refine op_move (ev_base hN35 rfl s35_6) ?_
    refine op_add (ev_hit hN35 rfl) rfl (add64 (by omega)) ?_
    refine op_assign (ev_hit hN35 rfl) ?_
    refine reg_nil ?_
    -- round 17F 22T
    exact loop_next _ hN35 hd35 ⟨(i + 1), (putL ([(UInt8.ofNat ((l.getD i 0).toNat / 256)), (UInt8.ofNat (l.getD i 0).toNat)]) ((i : Nat) : Int) M), F30, rfl, (sl_base hN35 rfl s35_0), (sl_base hN35 rfl s35_1), (sl_base hN35 rfl s35_4), (sl_base hN35 rfl s35_5), (sl_hit hN35 rfl).trans (congrArg (Value.int .i64) (by omega)), (by omega), (put_len hsM hlM), (put_short hsh), hb, (by omega), hr, hT30⟩ (by omega)
  · -- 22F
   refine reg_nil ?_
   refine hK18 _ _ ?_
   refine wp_cond_false (ev_hit hN16 rfl) ?_
   refine wp_exit (then_exit (then_exit (blk_hit ?_)))
   refine hK14 _ _ ?_
   refine seq_any fun K36 hK36 => ?_
   refine one_reg ?_
   refine op_assign rfl ?_
   refine reg_nil ?_
   refine hK36 _ _ ?_
   refine seq_any fun K37 hK37 => ?_
   refine one_reg ?_
   refine op_assign rfl ?_
   refine reg_nil ?_
   refine hK37 _ _ ?_
   refine seq_any fun K38 hK38 => ?_
   refine one_reg ?_
   refine op_move (ev_base hN16 rfl s16_5) ?_
   refine op_fn (vs := [(ptr p10 0), (Value.slice none 0 0), (Value.int .i64 1000)]) ok24 ⟨(ev_hit hN16 rfl), ⟨rfl, ⟨rfl, trivial⟩⟩⟩ (scanLsI (m := 1000) (x := ([] : List UInt8)) hTM (fun q hq => by rw [hsh q hq]; decide) (RdC.nil _ _ _ _) (by omega) (by omega)) ?_
   rintro v39 w40 ⟨E41, D39, hO39, hks39, hE39, hpw39⟩
   have dj42 : Dj F9 (Bl v39) := Dj.fresh (fun k hk => (hTM.lt k hk).2) (fun k hk => (hO39.lt k hk).1)
   have E41 := grown_of_below E41
   have z_w40 := E41.size
   have hr := hr.keep0 E41
   have hTM := hTM.keepG (Gr.of0 E41 NoB) (fun _ _ h => h)
   have hb := below_step0 hb E41 hb.size
   have hO39 := hO39.mono (base' := w.heap.size) (by omega)
   have hks39 : ∀ x9 ∈ (D39.map pk), Own w40 w.heap.size 5 1 x9.1 x9.2.length (x9.2.map u8v) := fun x9 h9 => (hks39 x9 h9).mono (by omega)
   refine op_assign (ev_hit hN16 rfl) ?_
   refine reg_nil ?_
   refine hK38 _ _ ?_
   refine seq_any fun K43 hK43 => ?_
   refine seq_any fun K44 hK44 => ?_
   refine one_reg ?_
   have e0 : D39.map Prod.snd = M := by have q := hE39; rw [geL_nil, List.take_of_length_le (show M.length ≤ _ from Nat.le_trans hlM (by simp; omega))] at q; exact q
   have hlen_D39 : D39.length = M.length := by have := congrArg List.length e0; simpa using this
   refine op_assign rfl ?_
   refine reg_nil ?_
   refine hK44 _ _ ?_
   refine wp_block ?_
   refine loop_m (fun mz_ az_ w' => ∃ (turn n : Nat) (fv : Value) (fr : List UInt8), mz_ = 100 - turn ∧ (az_.tmps.getD 1 undef = (Value.int .u8 (step.toNat : Int))) ∧ (az_.tmps.getD 5 undef = (ptr p10 0)) ∧ (az_.tmps.getD 9 undef = v39) ∧ (az_.tmps.getD 10 undef = (Value.int .i64 ((turn : Nat) : Int))) ∧ (az_.tmps.getD 8 undef = (Value.int .i64 ((n : Nat) : Int))) ∧ (az_.tmps.getD 7 undef = fv) ∧ (turn ≤ 100) ∧ (n ≤ M.length) ∧ (geL fr M = M.drop n) ∧ (turn ≤ n ∨ n = M.length) ∧ (Below w.heap.size w w') ∧ (w40.heap.size ≤ w'.heap.size) ∧ (RdC w' 0 w.heap.size 1 vl l.length (l.map u16v)) ∧ (TopL kI 71 w.heap.size w' p10 M F9) ∧ (Own w' w.heap.size 51 2 v39 D39.length (D39.flatMap cI)) ∧ (∀ x9 ∈ (D39.map pk), Own w' w.heap.size 5 1 x9.1 x9.2.length (x9.2.map u8v)) ∧ (Own w' w.heap.size 5 1 fv fr.length (fr.map u8v))) _ hN16 hd16 ⟨0, 0, _, [], rfl, (sl_base hN16 rfl s16_1), (sl_base hN16 rfl s16_5), (sl_hit hN16 rfl), (sl_hit hN16 rfl), (sl_hit hN16 rfl), (sl_hit hN16 rfl), (Nat.zero_le _), (Nat.zero_le _), geL_nil, (.inl (Nat.le_refl _)), hb, (Nat.le_refl _), hr, hTM, hO39, hks39, (Own.nil _ _ _ _)⟩ ?_
   rintro _ a45 w45 hN45 hd45 ⟨turn, n, fv, fr, rfl, s45_1, s45_5, s45_9, s45_10, s45_8, s45_7, ht, hn, hfr, htn, hb, zl_w45, hr, hTM, hO39, hks39, hO46⟩
   have z_w45 := hb.size
   refine seq_any fun K47 hK47 => ?_
   refine seq_any fun K48 hK48 => ?_
   refine one_reg ?_
   refine op_move (ev_base hN45 rfl s45_10) ?_
   refine op_lss (ev_hit hN45 rfl) rfl (fun c43 => ?_) (fun c43 => ?_)
   · -- 43T
    refine reg_nil ?_
    refine hK48 _ _ ?_
    refine wp_cond_true (ev_hit hN45 rfl) ?_
    refine wp_skip ?_
    refine hK47 _ _ ?_
    refine seq_any fun K49 hK49 => ?_
    refine wp_block ?_
    refine seq_any fun K50 hK50 => ?_
    refine one_reg ?_
    refine op_move (ev_base hN45 rfl s45_5) ?_
    refine op_move (ev_base hN45 rfl s45_7) ?_
    refine op_move (ev_base hN45 rfl s45_1) ?_
    refine op_rem (r := ((step.toNat % 9 : Nat) : Int)) (ev_hit hN45 rfl) rfl (by decide) (by rw [Int.tmod_eq_emod_of_nonneg (by omega)]; omega) ?_
    refine op_conv (r := ((step.toNat % 9 : Nat) : Int)) (ev_hit hN45 rfl) us5 Try.underlying3 (wrap_i64 (by omega)) ?_
    refine op_add (r := (((1 + step.toNat % 9) : Nat) : Int)) rfl (ev_hit hN45 rfl) ((add64 (by omega)).trans (by omega)) ?_
    refine op_fn (vs := [(ptr p10 0), fv, (Value.int .i64 (((1 + step.toNat % 9) : Nat) : Int))]) ok24 ⟨(ev_hit hN45 rfl), ⟨(ev_hit hN45 rfl), ⟨(ev_hit hN45 rfl), trivial⟩⟩⟩ (scanLsI (m := (((1 + step.toNat % 9) : Nat) : Int)) (x := fr) hTM (fun q hq => by rw [hsh q hq]; decide) (hO46.rdw.mono (Nat.zero_le _) (by omega)) (by omega) (by omega)) ?_
    rintro v51 w52 ⟨E53, D51, hO51, hks51, hE51, hpw51⟩
    have dj54 : Dj F9 (Bl v51) := Dj.fresh (fun k hk => (hTM.lt k hk).2) (fun k hk => (hO51.lt k hk).1)
    have dj55 : DJ v51 v39 := fun k hk hg => by have q1 := (hO51.lt k hk).1; have q2 := (hO39.lt k hg).2; omega
    have E53 := grown_of_below E53
    have z_w52 := E53.size
    have hr := hr.keep0 E53
    have hTM := hTM.keepG (Gr.of0 E53 NoB) (fun _ _ h => h)
    have hO39 := hO39.keep0 E53
    have hks39 : ∀ x9 ∈ (D39.map pk), Own w52 w.heap.size 5 1 x9.1 x9.2.length (x9.2.map u8v) := fun x9 hx9 => (hks39 x9 hx9).keep0 E53
    have hO46 := hO46.keep0 E53
    have hb := below_step0 hb E53 hb.size
    have hO51 := hO51.mono (base' := w.heap.size) (by omega)
    have hks51 : ∀ x9 ∈ (D51.map pk), Own w52 w.heap.size 5 1 x9.1 x9.2.length (x9.2.map u8v) := fun x9 h9 => (hks51 x9 h9).mono (by omega)
    refine op_assign (ev_hit hN45 rfl) ?_
    refine reg_nil ?_
    refine hK50 _ _ ?_
    refine seq_any fun K56 hK56 => ?_
    refine seq_any fun K57 hK57 => ?_
    refine one_reg ?_
    have hE2 : D51.map Prod.snd = (M.drop n).take (1 + step.toNat % 9) := by rw [← hfr]; exact hE51
    have hDl : D51.length = min (1 + step.toNat % 9) (M.length - n) := by have := congrArg List.length hE2; simpa using this
    refine op_move (ev_hit hN45 rfl) ?_
    refine op_len_rd Try.underlying48 (ev_hit hN45 rfl) hO51.rdw ?_
    refine op_eql (ev_hit hN45 rfl) rfl (fun c55 => ?_) (fun c55 => ?_)
    · -- 55T
     refine reg_nil ?_
     refine hK57 _ _ ?_
     refine wp_cond_true (ev_hit hN45 rfl) ?_
     refine wp_exit (then_exit (blk_miss (by decide) (then_exit (then_exit (blk_hit ?_)))))
     refine hK43 _ _ ?_
     refine seq_any fun K58 hK58 => ?_
     refine one_reg ?_
     refine op_move (ev_base hN45 rfl s45_8) ?_
     refine op_move (ev_base hN45 rfl s45_9) ?_
     refine op_len_rd Try.underlying48 (ev_hit hN45 rfl) hO39.rdw ?_
     refine op_eql (ev_hit hN45 rfl) (ev_hit hN45 rfl) (fun c110 => ?_) (fun c110 => ?_)
     · -- 110T
      refine op_move (ev_hit hN45 rfl) ?_
      refine g_true (j := 4) (dj := 111) (b := true) rfl rfl rfl (ev_hit hN45 rfl) ?_
      refine op_move (ev_base hN45 rfl s45_8) ?_
      refine g_true (j := 4) (dj := 111) (b := true) rfl rfl rfl (ev_hit hN45 rfl) ?_
      refine op_move (ev_base hN45 rfl s45_5) ?_
      refine g_true (j := 4) (dj := 111) (b := true) rfl rfl rfl (ev_hit hN45 rfl) ?_
      refine op_fn (vs := [(ptr p10 0)]) ok25 ⟨(ev_hit hN45 rfl), trivial⟩ (lenLsI hTM (by omega)) ?_
      rintro _ w59 ⟨E60, rfl⟩
      have E60 := grown_of_below E60
      have z_w59 := E60.size
      have hr := hr.keep0 E60
      have hTM := hTM.keepG (Gr.of0 E60 NoB) (fun _ _ h => h)
      have hO39 := hO39.keep0 E60
      have hks39 : ∀ x9 ∈ (D39.map pk), Own w59 w.heap.size 5 1 x9.1 x9.2.length (x9.2.map u8v) := fun x9 hx9 => (hks39 x9 hx9).keep0 E60
      have hO46 := hO46.keep0 E60
      have hO51 := hO51.keep0 E60
      have hks51 : ∀ x9 ∈ (D51.map pk), Own w59 w.heap.size 5 1 x9.1 x9.2.length (x9.2.map u8v) := fun x9 hx9 => (hks51 x9 hx9).keep0 E60
      have hb := below_step0 hb E60 hb.size
      refine g_true (j := 4) (dj := 111) (b := true) rfl rfl rfl (ev_hit hN45 rfl) ?_
      refine op_eql (ev_hit hN45 rfl) (ev_hit hN45 rfl) (fun c115 => ?_) (fun c115 => ?_)
      · -- 115T
       refine op_pick_t (ev_hit hN45 rfl) (ev_hit hN45 rfl) ?_
       refine op_assign (ev_hit hN45 rfl) ?_
       refine reg_nil ?_
       refine hK58 _ _ ?_
       refine wp_ret ?_
       refine ret1 rfl hd45 (ev_hit hN45 rfl) ⟨_, rfl, ?_⟩
       -- path 17F 22F 43T 55T 110T 115T
       exact ⟨hb, rfl⟩
      · -- 115F
       exfalso; omega
     · -- 110F
      exfalso; omega
    · -- 55F
     refine reg_nil ?_
     refine hK57 _ _ ?_
     refine wp_cond_false (ev_hit hN45 rfl) ?_
     refine wp_skip ?_
     refine hK56 _ _ ?_
     refine seq_any fun K61 hK61 => ?_
     refine seq_any fun K62 hK62 => ?_
     refine one_reg ?_
     refine op_assign rfl ?_
     refine reg_nil ?_
     refine hK62 _ _ ?_
     refine wp_block ?_
     refine loop_m (fun mz_ az_ w' => ∃ (i : Nat), mz_ = D51.length - i ∧ (az_.tmps.getD 1 undef = (Value.int .u8 (step.toNat : Int))) ∧ (az_.tmps.getD 5 undef = (ptr p10 0)) ∧ (az_.tmps.getD 7 undef = fv) ∧ (az_.tmps.getD 9 undef = v39) ∧ (az_.tmps.getD 10 undef = (Value.int .i64 ((turn : Nat) : Int))) ∧ (az_.tmps.getD 11 undef = v51) ∧ (az_.tmps.getD 12 undef = (Value.int .i64 ((i : Nat) : Int))) ∧ (az_.tmps.getD 8 undef = (Value.int .i64 (((n + i) : Nat) : Int))) ∧ (i ≤ D51.length) ∧ (Below w.heap.size w w') ∧ (w52.heap.size ≤ w'.heap.size) ∧ (RdC w' 0 w.heap.size 1 vl l.length (l.map u16v)) ∧ (TopL kI 71 w.heap.size w' p10 M F9) ∧ (Own w' w.heap.size 51 2 v39 D39.length (D39.flatMap cI)) ∧ (∀ x9 ∈ (D39.map pk), Own w' w.heap.size 5 1 x9.1 x9.2.length (x9.2.map u8v)) ∧ (Own w' w.heap.size 5 1 fv fr.length (fr.map u8v)) ∧ (Own w' w.heap.size 51 2 v51 D51.length (D51.flatMap cI)) ∧ (∀ x9 ∈ (D51.map pk), Own w' w.heap.size 5 1 x9.1 x9.2.length (x9.2.map u8v))) _ hN45 hd45 ⟨0, rfl, (sl_base hN45 rfl s45_1), (sl_base hN45 rfl s45_5), (sl_base hN45 rfl s45_7), (sl_base hN45 rfl s45_9), (sl_base hN45 rfl s45_10), (sl_hit hN45 rfl), (sl_hit hN45 rfl), (sl_base hN45 rfl s45_8), (Nat.zero_le _), hb, (Nat.le_refl _), hr, hTM, hO39, hks39, hO46, hO51, hks51⟩ ?_
     rintro _ a63 w63 hN63 hd63 ⟨i, rfl, s63_1, s63_5, s63_7, s63_9, s63_10, s63_11, s63_12, s63_8, hi, hb, zl_w63, hr, hTM, hO39, hks39, hO46, hO51, hks51⟩
     have z_w63 := hb.size
     refine seq_any fun K64 hK64 => ?_
     refine seq_any fun K65 hK65 => ?_
     refine one_reg ?_
     refine op_move (ev_base hN63 rfl s63_12) ?_
     refine op_move (ev_base hN63 rfl s63_11) ?_
     refine op_len_rd Try.underlying48 (ev_hit hN63 rfl) hO51.rdw ?_
     refine op_lss (ev_hit hN63 rfl) (ev_hit hN63 rfl) (fun c59 => ?_) (fun c59 => ?_)
     · -- 59T
      refine reg_nil ?_
      refine hK65 _ _ ?_
      refine wp_cond_true (ev_hit hN63 rfl) ?_
      refine wp_skip ?_
      refine hK64 _ _ ?_
      refine seq_any fun K66 hK66 => ?_
      refine wp_block ?_
      refine seq_any fun K67 hK67 => ?_
      refine seq_any fun K68 hK68 => ?_
      obtain ⟨hat, hil⟩ := scan_at (k := i) hE2 (by omega)
      have hat0 := d0_at e0 hil
      have heq : (D51.getD i default).2.1 = (D39.getD (n + i) default).2.1 := by rw [hat, hat0]
      have hev : (D51.getD i default).2.2 = (D39.getD (n + i) default).2.2 := by rw [hat, hat0]
      by_cases g65 : ((D39.length : Nat) : Int) ≤ (((n + i) : Nat) : Int)
      · -- 65T
       exfalso; omega
      · -- 65F
       refine reg_split (hd := [_, _, _, _, _, _, _, _, _, _, _, _, _, _, _, _, _]) (tl := _) 17 mixed (by kernel_rfl) rfl rfl ?_
       refine any_quiet (Φ := phiL [(fun uz _ => uz = (Value.int .i64 (((n + i) : Nat) : Int))), (fun uz _ => uz = v39), (fun uz _ => uz = (Value.int .i64 ((D39.length : Nat) : Int))), (fun uz _ => uz = (Value.bool false)), (fun uz _ => uz = (Value.bool false)), (fun uz _ => uz = v51), (fun uz _ => uz = (Value.int .i64 ((i : Nat) : Int))), (fun uz w' => ∃ (b69 : (Nat)) (o70 : (Nat)), uz = (ptr b69 o70) ∧ PtC w' b69 (b69 + 1) b69 o70 [(D51.getD i default).1, (Value.int .i64 (D51.getD i default).2.2)]), (fun uz w' => ∃ (y69 : (Nat)) (y70 : (Nat)), uz = (ptr y69 (y70 + 0)) ∧ PtC w' y69 (y69 + 1) y69 y70 [(D51.getD i default).1, (Value.int .i64 (D51.getD i default).2.2)]), (fun uz _ => uz = (D51.getD i default).1), (fun uz _ => uz = (Value.string (bs (D51.getD i default).2.1))), (fun uz _ => uz = v39), (fun uz _ => uz = (Value.int .i64 (((n + i) : Nat) : Int))), (fun uz w' => ∃ (b73 : (Nat)) (o74 : (Nat)), uz = (ptr b73 o74) ∧ PtC w' b73 (b73 + 1) b73 o74 [(D39.getD ((n + i)) default).1, (Value.int .i64 (D39.getD ((n + i)) default).2.2)]), (fun uz w' => ∃ (y72 : (Nat)) (y73 : (Nat)), uz = (ptr y72 (y73 + 0)) ∧ PtC w' y72 (y72 + 1) y72 y73 [(D39.getD ((n + i)) default).1, (Value.int .i64 (D39.getD ((n + i)) default).2.2)]), (fun uz _ => uz = (D39.getD ((n + i)) default).1), (fun uz _ => uz = (Value.string (bs (D39.getD ((n + i)) default).2.1)))]) (by kernel_rfl) (by kernel_rfl) (by kernel_rfl) hN63 (StL.get (StL.eq (StL.eq (StL.eq (StL.eq (StL.eq (StL.eq (StL.eq (StL.cons (fun u w1 w2 E h => by obtain ⟨x0, x1, hv, f0⟩ := h; exact ⟨x0, x1, hv, f0.keep0 E⟩) (StL.cons (fun u w1 w2 E h => by obtain ⟨x0, x1, hv, f0⟩ := h; exact ⟨x0, x1, hv, f0.keep0 E⟩) (StL.eq (StL.eq (StL.eq (StL.eq (StL.cons (fun u w1 w2 E h => by obtain ⟨x0, x1, hv, f0⟩ := h; exact ⟨x0, x1, hv, f0.keep0 E⟩) (StL.cons (fun u w1 w2 E h => by obtain ⟨x0, x1, hv, f0⟩ := h; exact ⟨x0, x1, hv, f0.keep0 E⟩) (StL.eq (StL.eq (StL.nil _))))))))))))))))))) (ObL.get (s := 17) (ObL.cons ?_ (ObL.cons ?_ (ObL.cons ?_ (ObL.cons ?_ (ObL.cons ?_ (ObL.cons ?_ (ObL.cons ?_ (ObL.cons ?_ (ObL.cons ?_ (ObL.cons ?_ (ObL.cons ?_ (ObL.cons ?_ (ObL.cons ?_ (ObL.cons ?_ (ObL.cons ?_ (ObL.cons ?_ (ObL.cons ?_ (ObL.nil)))))))))))))))))) rfl) ?_
       ·
        intro aA wA hNA hRA hbsA hdpA
        have qA_8 := (hbsA 8 rfl).trans (sl_base hN63 rfl s63_8)
        refine op_move (ev_base hNA rfl qA_8) ?_
        exact obN_end rfl rfl (grown_refl _ _)
       ·
        intro aA wA hNA hRA hbsA hdpA
        have qA_9 := (hbsA 9 rfl).trans (sl_base hN63 rfl s63_9)
        refine op_move (ev_base hNA rfl qA_9) ?_
        exact obN_end rfl rfl (grown_refl _ _)
       ·
        intro aA wA hNA hRA hbsA hdpA
        have hRA : w63.grownBy wA none := hRA
        have z_wA := hRA.size
        have hr := hr.keep0 hRA
        have hTM := hTM.keepG (Gr.of0 hRA NoB) (fun _ _ h => h)
        have hO39 := hO39.keep0 hRA
        have hks39 : ∀ x9 ∈ (D39.map pk), Own wA w.heap.size 5 1 x9.1 x9.2.length (x9.2.map u8v) := fun x9 hx9 => (hks39 x9 hx9).keep0 hRA
        have hO46 := hO46.keep0 hRA
        have hO51 := hO51.keep0 hRA
        have hks51 : ∀ x9 ∈ (D51.map pk), Own wA w.heap.size 5 1 x9.1 x9.2.length (x9.2.map u8v) := fun x9 hx9 => (hks51 x9 hx9).keep0 hRA
        have hb := below_step0 hb hRA hb.size
        have qA_63 : Sl aA 63 v39 := hdpA 1 _ 63 (by kernel_rfl) rfl rfl
        clear hbsA hdpA
        refine op_len_rd Try.underlying48 (ev_base hNA rfl qA_63) hO39.rdw ?_
        exact obN_end rfl rfl (grown_refl _ _)
       ·
        intro aA wA hNA hRA hbsA hdpA
        have qA_62 : Sl aA 62 (Value.int .i64 (((n + i) : Nat) : Int)) := hdpA 0 _ 62 (by kernel_rfl) rfl rfl
        have qA_64 : Sl aA 64 (Value.int .i64 ((D39.length : Nat) : Int)) := hdpA 2 _ 64 (by kernel_rfl) rfl rfl
        refine op_cmp (b := false) (ev_base hNA rfl qA_62) (ev_base hNA rfl qA_64) (b_geq (decide_eq_false g65)) ?_
        exact obN_end rfl rfl (grown_refl _ _)
       ·
        intro aA wA hNA hRA hbsA hdpA
        have qA_65 : Sl aA 65 (Value.bool false) := hdpA 3 _ 65 (by kernel_rfl) rfl rfl
        refine op_move (ev_base hNA rfl qA_65) ?_
        exact obN_end rfl rfl (grown_refl _ _)
       ·
        intro aA wA hNA hRA hbsA hdpA
        have qA_11 := (hbsA 11 rfl).trans (sl_base hN63 rfl s63_11)
        have qA_66 : Sl aA 66 (Value.bool false) := hdpA 4 _ 66 (by kernel_rfl) rfl rfl
        refine g_true (j := 4) (dj := 66) (b := false) rfl rfl rfl (ev_base hNA rfl qA_66) ?_
        refine op_move (ev_base hNA rfl qA_11) ?_
        exact obN_end rfl rfl (grown_refl _ _)
       ·
        intro aA wA hNA hRA hbsA hdpA
        have qA_12 := (hbsA 12 rfl).trans (sl_base hN63 rfl s63_12)
        have qA_66 : Sl aA 66 (Value.bool false) := hdpA 4 _ 66 (by kernel_rfl) rfl rfl
        refine g_true (j := 4) (dj := 66) (b := false) rfl rfl rfl (ev_base hNA rfl qA_66) ?_
        refine op_move (ev_base hNA rfl qA_12) ?_
        exact obN_end rfl rfl (grown_refl _ _)
       ·
        intro aA wA hNA hRA hbsA hdpA
        have hRA : w63.grownBy wA none := hRA
        have z_wA := hRA.size
        have hr := hr.keep0 hRA
        have hTM := hTM.keepG (Gr.of0 hRA NoB) (fun _ _ h => h)
        have hO39 := hO39.keep0 hRA
        have hks39 : ∀ x9 ∈ (D39.map pk), Own wA w.heap.size 5 1 x9.1 x9.2.length (x9.2.map u8v) := fun x9 hx9 => (hks39 x9 hx9).keep0 hRA
        have hO46 := hO46.keep0 hRA
        have hO51 := hO51.keep0 hRA
        have hks51 : ∀ x9 ∈ (D51.map pk), Own wA w.heap.size 5 1 x9.1 x9.2.length (x9.2.map u8v) := fun x9 hx9 => (hks51 x9 hx9).keep0 hRA
        have hb := below_step0 hb hRA hb.size
        have qA_67 : Sl aA 67 v51 := hdpA 5 _ 67 (by kernel_rfl) rfl rfl
        have qA_68 : Sl aA 68 (Value.int .i64 ((i : Nat) : Int)) := hdpA 6 _ 68 (by kernel_rfl) rfl rfl
        have qA_66 : Sl aA 66 (Value.bool false) := hdpA 4 _ 66 (by kernel_rfl) rfl rfl
        clear hbsA hdpA
        refine g_true (j := 4) (dj := 66) (b := false) rfl rfl rfl (ev_base hNA rfl qA_66) ?_
        refine op_index_rd slt48 (ev_base hNA rfl qA_67) hO51.rdw (ev_base hNA rfl qA_68) (by omega) (by omega) ?_
        intro b75 o76 h0b75 h1b75 hc77
        have hp78 : PtC wA b75 (b75 + 1) b75 o76 [(D51.getD i default).1, (Value.int .i64 (D51.getD i default).2.2)] := ⟨by omega, by omega, fun j u hu => hc77 j u (by have := (List.getElem?_eq_some_iff.1 hu).1; simpa using this) ((el_pI (i := i) (by omega) (by first | omega | (simp only [List.length_drop, List.length_take]; omega))) j u hu)⟩
        exact obN_end rfl ⟨b75, o76, rfl, hp78⟩ (grown_refl _ _)
       ·
        intro aA wA hNA hRA hbsA hdpA
        obtain ⟨b69, o70, qA_69, hp72⟩ := hdpA 7 _ 69 (by kernel_rfl) rfl rfl
        have hp72 : PtC wA b69 (b69 + 1) b69 o70 [(D51.getD i default).1, (Value.int .i64 (D51.getD i default).2.2)] := hp72
        have qA_66 : Sl aA 66 (Value.bool false) := hdpA 4 _ 66 (by kernel_rfl) rfl rfl
        refine g_true (j := 4) (dj := 66) (b := false) rfl rfl rfl (ev_base hNA rfl qA_66) ?_
        refine op_field fld51_0 (ev_base hNA rfl qA_69) ?_
        exact obN_end rfl ⟨b69, o70, rfl, hp72⟩ (grown_refl _ _)
       ·
        intro aA wA hNA hRA hbsA hdpA
        have hRA : w63.grownBy wA none := hRA
        have z_wA := hRA.size
        have hr := hr.keep0 hRA
        have hTM := hTM.keepG (Gr.of0 hRA NoB) (fun _ _ h => h)
        have hO39 := hO39.keep0 hRA
        have hks39 : ∀ x9 ∈ (D39.map pk), Own wA w.heap.size 5 1 x9.1 x9.2.length (x9.2.map u8v) := fun x9 hx9 => (hks39 x9 hx9).keep0 hRA
        have hO46 := hO46.keep0 hRA
        have hO51 := hO51.keep0 hRA
        have hks51 : ∀ x9 ∈ (D51.map pk), Own wA w.heap.size 5 1 x9.1 x9.2.length (x9.2.map u8v) := fun x9 hx9 => (hks51 x9 hx9).keep0 hRA
        have hb := below_step0 hb hRA hb.size
        obtain ⟨y69, y70, qA_70, hy71⟩ := hdpA 8 _ 70 (by kernel_rfl) rfl rfl
        have hy71 : PtC wA y69 (y69 + 1) y69 y70 [(D51.getD i default).1, (Value.int .i64 (D51.getD i default).2.2)] := hy71
        have qA_66 : Sl aA 66 (Value.bool false) := hdpA 4 _ 66 (by kernel_rfl) rfl rfl
        clear hbsA hdpA
        refine g_true (j := 4) (dj := 66) (b := false) rfl rfl rfl (ev_base hNA rfl qA_66) ?_
        refine op_load1 (v := (D51.getD i default).1) one27 (ev_base hNA rfl qA_70) (hy71.2.2 0 _ rfl) ?_
        exact obN_end rfl rfl (grown_refl _ _)
       ·
        intro aA wA hNA hRA hbsA hdpA
        have hRA : w63.grownBy wA none := hRA
        have z_wA := hRA.size
        have hr := hr.keep0 hRA
        have hTM := hTM.keepG (Gr.of0 hRA NoB) (fun _ _ h => h)
        have hO39 := hO39.keep0 hRA
        have hks39 : ∀ x9 ∈ (D39.map pk), Own wA w.heap.size 5 1 x9.1 x9.2.length (x9.2.map u8v) := fun x9 hx9 => (hks39 x9 hx9).keep0 hRA
        have hO46 := hO46.keep0 hRA
        have hO51 := hO51.keep0 hRA
        have hks51 : ∀ x9 ∈ (D51.map pk), Own wA w.heap.size 5 1 x9.1 x9.2.length (x9.2.map u8v) := fun x9 hx9 => (hks51 x9 hx9).keep0 hRA
        have hb := below_step0 hb hRA hb.size
        have qA_71 : Sl aA 71 (D51.getD i default).1 := hdpA 9 _ 71 (by kernel_rfl) rfl rfl
        have qA_66 : Sl aA 66 (Value.bool false) := hdpA 4 _ 66 (by kernel_rfl) rfl rfl
        clear hbsA hdpA
        refine g_true (j := 4) (dj := 66) (b := false) rfl rfl rfl (ev_base hNA rfl qA_66) ?_
        refine op_str_of (bl := (D51.getD i default).2.1) Try.underlying27 Try.underlying5 Try.underlying9 (ev_base hNA rfl qA_71) (show Own _ _ _ _ (D51.getD i default).1 (D51.getD i default).2.1.length ((D51.getD i default).2.1.map u8v) from hks51 (pk (D51.getD i default)) (List.mem_map.2 ⟨(D51.getD i default), (getD_mem (by first | omega | (simp only [List.length_drop, List.length_take]; omega))), rfl⟩)).rdw ?_
        exact obN_end rfl rfl (grown_refl _ _)
       ·
        intro aA wA hNA hRA hbsA hdpA
        have qA_9 := (hbsA 9 rfl).trans (sl_base hN63 rfl s63_9)
        have qA_66 : Sl aA 66 (Value.bool false) := hdpA 4 _ 66 (by kernel_rfl) rfl rfl
        refine g_true (j := 4) (dj := 66) (b := false) rfl rfl rfl (ev_base hNA rfl qA_66) ?_
        refine op_move (ev_base hNA rfl qA_9) ?_
        exact obN_end rfl rfl (grown_refl _ _)
       ·
        intro aA wA hNA hRA hbsA hdpA
        have qA_8 := (hbsA 8 rfl).trans (sl_base hN63 rfl s63_8)
        have qA_66 : Sl aA 66 (Value.bool false) := hdpA 4 _ 66 (by kernel_rfl) rfl rfl
        refine g_true (j := 4) (dj := 66) (b := false) rfl rfl rfl (ev_base hNA rfl qA_66) ?_
        refine op_move (ev_base hNA rfl qA_8) ?_
        exact obN_end rfl rfl (grown_refl _ _)
       ·
        intro aA wA hNA hRA hbsA hdpA
        have hRA : w63.grownBy wA none := hRA
        have z_wA := hRA.size
        have hr := hr.keep0 hRA
        have hTM := hTM.keepG (Gr.of0 hRA NoB) (fun _ _ h => h)
        have hO39 := hO39.keep0 hRA
        have hks39 : ∀ x9 ∈ (D39.map pk), Own wA w.heap.size 5 1 x9.1 x9.2.length (x9.2.map u8v) := fun x9 hx9 => (hks39 x9 hx9).keep0 hRA
        have hO46 := hO46.keep0 hRA
        have hO51 := hO51.keep0 hRA
        have hks51 : ∀ x9 ∈ (D51.map pk), Own wA w.heap.size 5 1 x9.1 x9.2.length (x9.2.map u8v) := fun x9 hx9 => (hks51 x9 hx9).keep0 hRA
        have hb := below_step0 hb hRA hb.size
        have qA_73 : Sl aA 73 v39 := hdpA 11 _ 73 (by kernel_rfl) rfl rfl
        have qA_74 : Sl aA 74 (Value.int .i64 (((n + i) : Nat) : Int)) := hdpA 12 _ 74 (by kernel_rfl) rfl rfl
        have qA_66 : Sl aA 66 (Value.bool false) := hdpA 4 _ 66 (by kernel_rfl) rfl rfl
        clear hbsA hdpA
        refine g_true (j := 4) (dj := 66) (b := false) rfl rfl rfl (ev_base hNA rfl qA_66) ?_
        refine op_index_rd slt48 (ev_base hNA rfl qA_73) hO39.rdw (ev_base hNA rfl qA_74) (by omega) (by omega) ?_
        intro b79 o80 h0b79 h1b79 hc81
        have hp82 : PtC wA b79 (b79 + 1) b79 o80 [(D39.getD ((n + i)) default).1, (Value.int .i64 (D39.getD ((n + i)) default).2.2)] := ⟨by omega, by omega, fun j u hu => hc81 j u (by have := (List.getElem?_eq_some_iff.1 hu).1; simpa using this) ((el_pI (i := ((n + i))) (by omega) (by first | omega | (simp only [List.length_drop, List.length_take]; omega))) j u hu)⟩
        exact obN_end rfl ⟨b79, o80, rfl, hp82⟩ (grown_refl _ _)
       ·
        intro aA wA hNA hRA hbsA hdpA
        obtain ⟨b73, o74, qA_75, hp76⟩ := hdpA 13 _ 75 (by kernel_rfl) rfl rfl
        have hp76 : PtC wA b73 (b73 + 1) b73 o74 [(D39.getD ((n + i)) default).1, (Value.int .i64 (D39.getD ((n + i)) default).2.2)] := hp76
        have qA_66 : Sl aA 66 (Value.bool false) := hdpA 4 _ 66 (by kernel_rfl) rfl rfl
        refine g_true (j := 4) (dj := 66) (b := false) rfl rfl rfl (ev_base hNA rfl qA_66) ?_
        refine op_field fld51_0 (ev_base hNA rfl qA_75) ?_
        exact obN_end rfl ⟨b73, o74, rfl, hp76⟩ (grown_refl _ _)
       ·
        intro aA wA hNA hRA hbsA hdpA
        have hRA : w63.grownBy wA none := hRA
        have z_wA := hRA.size
        have hr := hr.keep0 hRA
        have hTM := hTM.keepG (Gr.of0 hRA NoB) (fun _ _ h => h)
        have hO39 := hO39.keep0 hRA
        have hks39 : ∀ x9 ∈ (D39.map pk), Own wA w.heap.size 5 1 x9.1 x9.2.length (x9.2.map u8v) := fun x9 hx9 => (hks39 x9 hx9).keep0 hRA
        have hO46 := hO46.keep0 hRA
        have hO51 := hO51.keep0 hRA
        have hks51 : ∀ x9 ∈ (D51.map pk), Own wA w.heap.size 5 1 x9.1 x9.2.length (x9.2.map u8v) := fun x9 hx9 => (hks51 x9 hx9).keep0 hRA
        have hb := below_step0 hb hRA hb.size
        obtain ⟨y72, y73, qA_76, hy74⟩ := hdpA 14 _ 76 (by kernel_rfl) rfl rfl
        have hy74 : PtC wA y72 (y72 + 1) y72 y73 [(D39.getD ((n + i)) default).1, (Value.int .i64 (D39.getD ((n + i)) default).2.2)] := hy74
        have qA_66 : Sl aA 66 (Value.bool false) := hdpA 4 _ 66 (by kernel_rfl) rfl rfl
        clear hbsA hdpA
        refine g_true (j := 4) (dj := 66) (b := false) rfl rfl rfl (ev_base hNA rfl qA_66) ?_
        refine op_load1 (v := (D39.getD ((n + i)) default).1) one27 (ev_base hNA rfl qA_76) (hy74.2.2 0 _ rfl) ?_
        exact obN_end rfl rfl (grown_refl _ _)
       ·
        intro aA wA hNA hRA hbsA hdpA
        have hRA : w63.grownBy wA none := hRA
        have z_wA := hRA.size
        have hr := hr.keep0 hRA
        have hTM := hTM.keepG (Gr.of0 hRA NoB) (fun _ _ h => h)
        have hO39 := hO39.keep0 hRA
        have hks39 : ∀ x9 ∈ (D39.map pk), Own wA w.heap.size 5 1 x9.1 x9.2.length (x9.2.map u8v) := fun x9 hx9 => (hks39 x9 hx9).keep0 hRA
        have hO46 := hO46.keep0 hRA
        have hO51 := hO51.keep0 hRA
        have hks51 : ∀ x9 ∈ (D51.map pk), Own wA w.heap.size 5 1 x9.1 x9.2.length (x9.2.map u8v) := fun x9 hx9 => (hks51 x9 hx9).keep0 hRA
        have hb := below_step0 hb hRA hb.size
        have qA_77 : Sl aA 77 (D39.getD ((n + i)) default).1 := hdpA 15 _ 77 (by kernel_rfl) rfl rfl
        have qA_66 : Sl aA 66 (Value.bool false) := hdpA 4 _ 66 (by kernel_rfl) rfl rfl
        clear hbsA hdpA
        refine g_true (j := 4) (dj := 66) (b := false) rfl rfl rfl (ev_base hNA rfl qA_66) ?_
        refine op_str_of (bl := (D39.getD ((n + i)) default).2.1) Try.underlying27 Try.underlying5 Try.underlying9 (ev_base hNA rfl qA_77) (show Own _ _ _ _ (D39.getD ((n + i)) default).1 (D39.getD ((n + i)) default).2.1.length ((D39.getD ((n + i)) default).2.1.map u8v) from hks39 (pk (D39.getD ((n + i)) default)) (List.mem_map.2 ⟨(D39.getD ((n + i)) default), (getD_mem (by first | omega | (simp only [List.length_drop, List.length_take]; omega))), rfl⟩)).rdw ?_
        exact obN_end rfl rfl (grown_refl _ _)
       ·
        intro a83 w83 hN83 hd83 hbs83 hph83 E83
        have hd83 := hd83.trans hd63
        have s83_1 := (hbs83 1 rfl).trans (sl_base hN63 rfl s63_1)
        have s83_5 := (hbs83 5 rfl).trans (sl_base hN63 rfl s63_5)
        have s83_7 := (hbs83 7 rfl).trans (sl_base hN63 rfl s63_7)
        have s83_8 := (hbs83 8 rfl).trans (sl_base hN63 rfl s63_8)
        have s83_9 := (hbs83 9 rfl).trans (sl_base hN63 rfl s63_9)
        have s83_10 := (hbs83 10 rfl).trans (sl_base hN63 rfl s63_10)
        have s83_11 := (hbs83 11 rfl).trans (sl_base hN63 rfl s63_11)
        have s83_12 := (hbs83 12 rfl).trans (sl_base hN63 rfl s63_12)
        have s83_66 : Sl a83 66 (Value.bool false) := hph83 4 _ 66 rfl rfl
        have s83_72 : Sl a83 72 (Value.string (bs (D51.getD i default).2.1)) := hph83 10 _ 72 rfl rfl
        have s83_78 : Sl a83 78 (Value.string (bs (D39.getD ((n + i)) default).2.1)) := hph83 16 _ 78 rfl rfl
        clear hbs83 hph83
        have E83 : w63.grownBy w83 none := E83
        have z_w83 := E83.size
        have hr := hr.keep0 E83
        have hTM := hTM.keepG (Gr.of0 E83 NoB) (fun _ _ h => h)
        have hO39 := hO39.keep0 E83
        have hks39 : ∀ x9 ∈ (D39.map pk), Own w83 w.heap.size 5 1 x9.1 x9.2.length (x9.2.map u8v) := fun x9 hx9 => (hks39 x9 hx9).keep0 E83
        have hO46 := hO46.keep0 E83
        have hO51 := hO51.keep0 E83
        have hks51 : ∀ x9 ∈ (D51.map pk), Own w83 w.heap.size 5 1 x9.1 x9.2.length (x9.2.map u8v) := fun x9 hx9 => (hks51 x9 hx9).keep0 E83
        have hb := below_step0 hb E83 hb.size
        refine split_end ?_
        refine from_still (m := 32) 15 (hd := [_, _, _, _, _, _, _, _, _, _, _, _, _, _, _]) (by kernel_rfl) rfl rfl ?_
        refine st_g_true (j := 4) (dj := 66) (b := false) rfl rfl rfl (ev_base hN83 rfl s83_66) ?_
        by_cases g79 : (D51.getD i default).2.1 ≠ (D39.getD ((n + i)) default).2.1
        · -- 79T
         exact absurd heq g79
        · -- 79F
         refine st_step rfl (fun _ h9 => op_sneqb (b := false) (ev_base hN83 rfl s83_72) (ev_base hN83 rfl s83_78) (decide_eq_false g79) h9) ?_
         refine st_step rfl (fun _ h9 => op_pick_f (ev_base hN83 rfl s83_66) (ev_hit hN83 rfl) h9) ?_
         refine st_step rfl (fun _ h9 => op_move (ev_hit hN83 rfl) h9) ?_
         refine st_g_true (j := 19) (dj := 81) (b := false) rfl rfl rfl (ev_hit hN83 rfl) ?_
         refine st_step rfl (fun _ h9 => op_move (ev_base hN83 rfl s83_11) h9) ?_
         refine st_g_true (j := 19) (dj := 81) (b := false) rfl rfl rfl (ev_hit hN83 rfl) ?_
         refine st_step rfl (fun _ h9 => op_move (ev_base hN83 rfl s83_12) h9) ?_
         refine st_g_true (j := 19) (dj := 81) (b := false) rfl rfl rfl (ev_hit hN83 rfl) ?_
         refine st_index_rd slt48 (ev_hit hN83 rfl) hO51.rdw (ev_hit hN83 rfl) (by omega) (by omega) ?_
         intro b84 o85 h0b84 h1b84 hc86
         refine st_g_true (j := 19) (dj := 81) (b := false) rfl rfl rfl (ev_hit hN83 rfl) ?_
         refine st_step rfl (fun _ h9 => op_field fld51_1 (ev_hit hN83 rfl) h9) ?_
         refine st_g_true (j := 19) (dj := 81) (b := false) rfl rfl rfl (ev_hit hN83 rfl) ?_
         refine st_step rfl (fun _ h9 => op_load1 (v := (Value.int .i64 (D51.getD i default).2.2)) one3 (ev_hit hN83 rfl) (hc86 1 ((Value.int .i64 (D51.getD i default).2.2)) (by decide) ((el_pI (i := i) (by omega) (by first | omega | (simp only [List.length_drop, List.length_take]; omega))) 1 ((Value.int .i64 (D51.getD i default).2.2)) rfl)) h9) ?_
         refine st_g_true (j := 19) (dj := 81) (b := false) rfl rfl rfl (ev_hit hN83 rfl) ?_
         refine st_step rfl (fun _ h9 => op_move (ev_base hN83 rfl s83_9) h9) ?_
         refine st_g_true (j := 19) (dj := 81) (b := false) rfl rfl rfl (ev_hit hN83 rfl) ?_
         refine st_step rfl (fun _ h9 => op_move (ev_base hN83 rfl s83_8) h9) ?_
         refine st_g_true (j := 19) (dj := 81) (b := false) rfl rfl rfl (ev_hit hN83 rfl) ?_
         refine st_index_rd slt48 (ev_hit hN83 rfl) hO39.rdw (ev_hit hN83 rfl) (by omega) (by omega) ?_
         intro b87 o88 h0b87 h1b87 hc89
         refine st_g_true (j := 19) (dj := 81) (b := false) rfl rfl rfl (ev_hit hN83 rfl) ?_
         refine st_step rfl (fun _ h9 => op_field fld51_1 (ev_hit hN83 rfl) h9) ?_
         refine st_g_true (j := 19) (dj := 81) (b := false) rfl rfl rfl (ev_hit hN83 rfl) ?_
         refine st_step rfl (fun _ h9 => op_load1 (v := (Value.int .i64 (D39.getD ((n + i)) default).2.2)) one3 (ev_hit hN83 rfl) (hc89 1 ((Value.int .i64 (D39.getD ((n + i)) default).2.2)) (by decide) ((el_pI (i := ((n + i))) (by omega) (by first | omega | (simp only [List.length_drop, List.length_take]; omega))) 1 ((Value.int .i64 (D39.getD ((n + i)) default).2.2)) rfl)) h9) ?_
         refine st_g_true (j := 19) (dj := 81) (b := false) rfl rfl rfl (ev_hit hN83 rfl) ?_
         refine st_step rfl (fun _ h9 => op_cmp (b := (decide ((D51.getD i default).2.2 ≠ (D39.getD ((n + i)) default).2.2))) (ev_hit hN83 rfl) (ev_hit hN83 rfl) (b_neq rfl) h9) ?_
         refine st_step rfl (fun _ h9 => op_pick_f (ev_hit hN83 rfl) (ev_hit hN83 rfl) h9) ?_
         refine st_nil ?_
         refine from_end ?_ rfl
         refine hK68 _ _ ?_
         refine wp_cond_split (ev_hit hN83 rfl) (fun c93 => ?_) (fun c93 => ?_)
         · -- 93T
          have c93 := of_decide_eq_true c93
          exact absurd hev c93
         · -- 93F
          have c93 := of_decide_eq_false c93
          refine wp_skip ?_
          refine hK67 _ _ ?_
          refine one_reg ?_
          refine op_move (ev_base hN83 rfl s83_8) ?_
          refine op_add (ev_hit hN83 rfl) rfl (add64 (by omega)) ?_
          refine op_assign (ev_hit hN83 rfl) ?_
          refine reg_nil ?_
          refine hK66 _ _ ?_
          refine one_reg ?_
          refine op_move (ev_base hN83 rfl s83_12) ?_
          refine op_add (ev_hit hN83 rfl) rfl (add64 (by omega)) ?_
          refine op_assign (ev_hit hN83 rfl) ?_
          refine reg_nil ?_
          -- round 17F 22F 43T 55F 59T 65F 79F 93F
          exact loop_next _ hN83 hd83 ⟨(i + 1), rfl, (sl_base hN83 rfl s83_1), (sl_base hN83 rfl s83_5), (sl_base hN83 rfl s83_7), (sl_base hN83 rfl s83_9), (sl_base hN83 rfl s83_10), (sl_base hN83 rfl s83_11), (sl_hit hN83 rfl).trans (congrArg (Value.int .i64) (by omega)), (sl_hit hN83 rfl).trans (congrArg (Value.int .i64) (by omega)), (by omega), hb, (by omega), hr, hTM, hO39, hks39, hO46, hO51, hks51⟩ (by omega)
     · -- 59F
      refine reg_nil ?_
      refine hK65 _ _ ?_
      refine wp_cond_false (ev_hit hN63 rfl) ?_
      refine wp_exit (then_exit (then_exit (blk_hit ?_)))
      refine hK61 _ _ ?_
      refine one_reg ?_
      obtain ⟨hatz, hilz⟩ := scan_at (k := D51.length - 1) hE2 (by omega)
      have hkz : (D51.getD (D51.length - 1) default).2.1.length = 2 := by rw [hatz]; exact hsh _ (getD_mem9 hilz)
      have hfr2 : geL ((D51.getD (D51.length - 1) default).2.1 ++ [0]) M = M.drop (n + D51.length) := by rw [hatz, scan_next hTM.sorted hilz, show n + (D51.length - 1) + 1 = n + D51.length by omega]
      refine op_bslice (e := 5) (pv := []) (cs := []) trivial (by kernel_rfl) ?_
      intro w90 b91 lo_b91 hi_b91 hB93 E92
      have dj94 : ¬ F9 b91 := fun hf => by have := (hTM.lt _ hf).2; omega
      have ne_b91_fv : fv.ownBlock ≠ some b91 := fun hh => by have := (hO46.lt _ hh).2; omega
      have dja95 : ∀ x9 ∈ (D39.map pk), DJ x9.1 (Value.slice (some ⟨b91, 0, none⟩) 0 0) := fun x9 hx9 k hk hg => by have q1 := ((hks39 x9 hx9).lt k hk).2; simp [Value.ownBlock] at hg; omega
      have dja96 : ∀ x9 ∈ (D51.map pk), DJ x9.1 (Value.slice (some ⟨b91, 0, none⟩) 0 0) := fun x9 hx9 k hk hg => by have q1 := ((hks51 x9 hx9).lt k hk).2; simp [Value.ownBlock] at hg; omega
      have z_w90 := E92.size
      have hr := hr.keep0 E92
      have hTM := hTM.keepG (Gr.of0 E92 NoB) (fun _ _ h => h)
      have hO39 := hO39.keep0 E92
      have hks39 : ∀ x9 ∈ (D39.map pk), Own w90 w.heap.size 5 1 x9.1 x9.2.length (x9.2.map u8v) := fun x9 hx9 => (hks39 x9 hx9).keep0 E92
      have hO46 := hO46.keep0 E92
      have hO51 := hO51.keep0 E92
      have hks51 : ∀ x9 ∈ (D51.map pk), Own w90 w.heap.size 5 1 x9.1 x9.2.length (x9.2.map u8v) := fun x9 hx9 => (hks51 x9 hx9).keep0 E92
      have hb := below_step0 hb E92 hb.size
      refine op_move (ev_base hN63 rfl s63_11) ?_
      refine op_move (ev_base hN63 rfl s63_11) ?_
      refine op_len_rd Try.underlying48 (ev_hit hN63 rfl) hO51.rdw ?_
      refine op_sub (r := ((D51.length - 1 : Nat) : Int)) (ev_hit hN63 rfl) rfl ((sub64 (by omega)).trans (by omega)) ?_
      refine op_index_rd slt48 (ev_hit hN63 rfl) hO51.rdw (ev_hit hN63 rfl) (by omega) (by omega) ?_
      intro b97 o98 h0b97 h1b97 hc99
      refine op_field fld51_0 (ev_hit hN63 rfl) ?_
      refine op_load1 (v := (D51.getD (D51.length - 1) default).1) one27 (ev_hit hN63 rfl) (hc99 0 ((D51.getD (D51.length - 1) default).1) (by decide) ((el_pI (i := (D51.length - 1)) (by omega) (by first | omega | (simp only [List.length_drop, List.length_take]; omega))) 0 ((D51.getD (D51.length - 1) default).1) rfl)) ?_
      have hP105 := (Own.ofBx (base := w.heap.size) (sz := 1) (n := 0) hB93 rfl (by decide) (by omega))
      refine op_append slt27 (ev_hit hN63 rfl) hP105 (ev_hit hN63 rfl) (Src.ofRd Try.underlying27 (by decide) (show Own _ _ _ _ (D51.getD (D51.length - 1) default).1 (D51.getD (D51.length - 1) default).2.1.length ((D51.getD (D51.length - 1) default).2.1.map u8v) from hks51 (pk (D51.getD (D51.length - 1) default)) (List.mem_map.2 ⟨(D51.getD (D51.length - 1) default), (getD_mem (by first | omega | (simp only [List.length_drop, List.length_take]; omega))), rfl⟩)).rdw (by simp [Value.oneCell', u8v])) (by unfold maxLen; omega) (by omega) hb.size ?_
      intro v100 w101 hO103 E102 hm104
      have dj106 : DJ fv (Value.slice (some ⟨b91, 0, none⟩) 0 0) := fun k hk hg => by simp [Value.ownBlock] at hg; subst hg; exact ne_b91_fv hk
      have dj107 : DJ fv v100 := DJ.step hm104 (fun k hk => (hO46.lt k hk).2) dj106
      have dja108 : ∀ x9 ∈ (D39.map pk), DJ x9.1 v100 := fun x9 hx9 => DJ.step hm104 (fun k hk => ((hks39 x9 hx9).lt k hk).2) (dja95 x9 hx9)
      have dja109 : ∀ x9 ∈ (D51.map pk), DJ x9.1 v100 := fun x9 hx9 => DJ.step hm104 (fun k hk => ((hks51 x9 hx9).lt k hk).2) (dja96 x9 hx9)
      have dj110 : Dj F9 (Bl v100) := Dj.step hm104 (fun k hk => (hTM.lt k hk).2) (Dj.one dj94)
      have z_w101 := E102.size
      have hr := hr.keepO hP105 E102 (by omega)
      have hTM := hTM.keepG (Gr.of E102) (Dj.one dj94)
      have hO39 := hO39.keepT hP105 E102 (by decide)
      have hks39 : ∀ x9 ∈ (D39.map pk), Own w101 w.heap.size 5 1 x9.1 x9.2.length (x9.2.map u8v) := fun x9 hx9 => (hks39 x9 hx9).keepD E102 (dja95 x9 hx9)
      have hO46 := hO46.keepD E102 dj106
      have hO51 := hO51.keepT hP105 E102 (by decide)
      have hks51 : ∀ x9 ∈ (D51.map pk), Own w101 w.heap.size 5 1 x9.1 x9.2.length (x9.2.map u8v) := fun x9 hx9 => (hks51 x9 hx9).keepD E102 (dja96 x9 hx9)
      have hb := below_stepO hb hP105 E102 hb.size (by omega)
      have hO103 : Own w101 w.heap.size 5 1 v100 (0 + (D51.getD (D51.length - 1) default).2.1.length) (((D51.getD (D51.length - 1) default).2.1).map u8v) := by simpa [u8v, sv] using hO103
      refine op_bslice (e := 5) (pv := [(0, (Value.int .u8 0))]) (cs := [(Value.int .u8 0)]) ⟨rfl, rfl, trivial⟩ (by kernel_rfl) ?_
      intro w111 b112 lo_b112 hi_b112 hB114 E113
      have dj115 : ¬ F9 b112 := fun hf => by have := (hTM.lt _ hf).2; omega
      have ne_b112_fv : fv.ownBlock ≠ some b112 := fun hh => by have := (hO46.lt _ hh).2; omega
      have ne_b112_v100 : v100.ownBlock ≠ some b112 := fun hh => by have := (hO103.lt _ hh).2; omega
      have dja116 : ∀ x9 ∈ (D39.map pk), DJ x9.1 (Value.slice (some ⟨b112, 0, none⟩) 1 1) := fun x9 hx9 k hk hg => by have q1 := ((hks39 x9 hx9).lt k hk).2; simp [Value.ownBlock] at hg; omega
      have dja117 : ∀ x9 ∈ (D51.map pk), DJ x9.1 (Value.slice (some ⟨b112, 0, none⟩) 1 1) := fun x9 hx9 k hk hg => by have q1 := ((hks51 x9 hx9).lt k hk).2; simp [Value.ownBlock] at hg; omega
      have z_w111 := E113.size
      have hr := hr.keep0 E113
      have hTM := hTM.keepG (Gr.of0 E113 NoB) (fun _ _ h => h)
      have hO39 := hO39.keep0 E113
      have hks39 : ∀ x9 ∈ (D39.map pk), Own w111 w.heap.size 5 1 x9.1 x9.2.length (x9.2.map u8v) := fun x9 hx9 => (hks39 x9 hx9).keep0 E113
      have hO46 := hO46.keep0 E113
      have hO51 := hO51.keep0 E113
      have hks51 : ∀ x9 ∈ (D51.map pk), Own w111 w.heap.size 5 1 x9.1 x9.2.length (x9.2.map u8v) := fun x9 hx9 => (hks51 x9 hx9).keep0 E113
      have hO103 := hO103.keep0 E113
      have hb := below_step0 hb E113 hb.size
      have hP123 := hO103
      refine op_append slt27 (ev_hit hN63 rfl) hP123 (ev_hit hN63 rfl) (Src.ofRd Try.underlying27 (by decide) (RdC.ofBx (sz := 1) (n := 1) hB114 rfl (by decide)) (by simp [Value.oneCell', u8v])) (by unfold maxLen; omega) (by omega) hb.size ?_
      intro v118 w119 hO121 E120 hm122
      have dj124 : DJ fv v118 := DJ.step hm122 (fun k hk => (hO46.lt k hk).2) dj107
      have dja125 : ∀ x9 ∈ (D39.map pk), DJ x9.1 v118 := fun x9 hx9 => DJ.step hm122 (fun k hk => ((hks39 x9 hx9).lt k hk).2) (dja108 x9 hx9)
      have dja126 : ∀ x9 ∈ (D51.map pk), DJ x9.1 v118 := fun x9 hx9 => DJ.step hm122 (fun k hk => ((hks51 x9 hx9).lt k hk).2) (dja109 x9 hx9)
      have dj127 : Dj F9 (Bl v118) := Dj.step hm122 (fun k hk => (hTM.lt k hk).2) dj110
      have z_w119 := E120.size
      have hr := hr.keepO hP123 E120 (by omega)
      have hTM := hTM.keepG (Gr.of E120) dj110
      have hO39 := hO39.keepT hP123 E120 (by decide)
      have hks39 : ∀ x9 ∈ (D39.map pk), Own w119 w.heap.size 5 1 x9.1 x9.2.length (x9.2.map u8v) := fun x9 hx9 => (hks39 x9 hx9).keepD E120 (dja108 x9 hx9)
      have hO46 := hO46.keepD E120 dj107
      have hO51 := hO51.keepT hP123 E120 (by decide)
      have hks51 : ∀ x9 ∈ (D51.map pk), Own w119 w.heap.size 5 1 x9.1 x9.2.length (x9.2.map u8v) := fun x9 hx9 => (hks51 x9 hx9).keepD E120 (dja109 x9 hx9)
      have hB114 := hB114.keep E120 (fun hh => ne_b112_v100 hh.symm)
      have hb := below_stepO hb hP123 E120 hb.size (by omega)
      have hO121 : Own w119 w.heap.size 5 1 v118 ((0 + (D51.getD (D51.length - 1) default).2.1.length) + 1) ((((D51.getD (D51.length - 1) default).2.1 ++ [0])).map u8v) := by simpa [u8v, sv] using hO121
      have ne_b112_v118 : v118.ownBlock ≠ some b112 := ne_step (w1 := w111) ⟨E120, hm122⟩ (by omega) ne_b112_v100
      refine op_assign (ev_hit hN63 rfl) ?_
      refine reg_nil ?_
      refine hK49 _ _ ?_
      refine one_reg ?_
      refine op_move (ev_base hN63 rfl s63_10) ?_
      refine op_add (ev_hit hN63 rfl) rfl (add64 (by omega)) ?_
      have e0 : D39.map Prod.snd = M := by have q := hE39; rw [geL_nil, List.take_of_length_le (show M.length ≤ _ from Nat.le_trans hlM (by simp; omega))] at q; exact q
      have hlen_D39 : D39.length = M.length := by have := congrArg List.length e0; simpa using this
      refine op_assign (ev_hit hN63 rfl) ?_
      refine reg_nil ?_
      -- round 17F 22F 43T 55F 59F
      exact loop_next _ hN63 hd63 ⟨(turn + 1), (n + D51.length), v118, ((D51.getD (D51.length - 1) default).2.1 ++ [0]), rfl, (sl_base hN63 rfl s63_1), (sl_base hN63 rfl s63_5), (sl_base hN63 rfl s63_9), (sl_hit hN63 rfl).trans (congrArg (Value.int .i64) (by omega)), (sl_base hN63 rfl s63_8).trans (congrArg (Value.int .i64) (by omega)), (sl_hit hN63 rfl), (by omega), (by omega), hfr2, (by omega), hb, (by omega), hr, hTM, hO39, hks39, (hO121.cast (by simp) (by simp))⟩ (by omega)
   · -- 43F
    refine reg_nil ?_
    refine hK48 _ _ ?_
    refine wp_cond_false (ev_hit hN45 rfl) ?_
    refine wp_exit (then_exit (then_exit (blk_hit ?_)))
    refine hK43 _ _ ?_
    refine seq_any fun K128 hK128 => ?_
    refine one_reg ?_
    refine op_move (ev_base hN45 rfl s45_8) ?_
    refine op_move (ev_base hN45 rfl s45_9) ?_
    refine op_len_rd Try.underlying48 (ev_hit hN45 rfl) hO39.rdw ?_
    refine op_eql (ev_hit hN45 rfl) (ev_hit hN45 rfl) (fun c110 => ?_) (fun c110 => ?_)
    · -- 110T
     refine op_move (ev_hit hN45 rfl) ?_
     refine g_true (j := 4) (dj := 111) (b := true) rfl rfl rfl (ev_hit hN45 rfl) ?_
     refine op_move (ev_base hN45 rfl s45_8) ?_
     refine g_true (j := 4) (dj := 111) (b := true) rfl rfl rfl (ev_hit hN45 rfl) ?_
     refine op_move (ev_base hN45 rfl s45_5) ?_
     refine g_true (j := 4) (dj := 111) (b := true) rfl rfl rfl (ev_hit hN45 rfl) ?_
     refine op_fn (vs := [(ptr p10 0)]) ok25 ⟨(ev_hit hN45 rfl), trivial⟩ (lenLsI hTM (by omega)) ?_
     rintro _ w129 ⟨E130, rfl⟩
     have E130 := grown_of_below E130
     have z_w129 := E130.size
     have hr := hr.keep0 E130
     have hTM := hTM.keepG (Gr.of0 E130 NoB) (fun _ _ h => h)
     have hO39 := hO39.keep0 E130
     have hks39 : ∀ x9 ∈ (D39.map pk), Own w129 w.heap.size 5 1 x9.1 x9.2.length (x9.2.map u8v) := fun x9 hx9 => (hks39 x9 hx9).keep0 E130
     have hO46 := hO46.keep0 E130
     have hb := below_step0 hb E130 hb.size
     refine g_true (j := 4) (dj := 111) (b := true) rfl rfl rfl (ev_hit hN45 rfl) ?_
     refine op_eql (ev_hit hN45 rfl) (ev_hit hN45 rfl) (fun c115 => ?_) (fun c115 => ?_)
     · -- 115T
      refine op_pick_t (ev_hit hN45 rfl) (ev_hit hN45 rfl) ?_
      refine op_assign (ev_hit hN45 rfl) ?_
      refine reg_nil ?_
      refine hK128 _ _ ?_
      refine wp_ret ?_
      refine ret1 rfl hd45 (ev_hit hN45 rfl) ⟨_, rfl, ?_⟩
      -- path 17F 22F 43F 110T 115T
      exact ⟨hb, rfl⟩
     · -- 115F
      exfalso; omega
    · -- 110F
     exfalso; omega

end Go.Proofs.Ytcpfdfejojghbaa

/- What the arguments of the laws are, told by their types. -/
namespace Go.Proofs.Ytcpfdfejojghbaa
open Go.Gx Go.RowKit
theorem rd_le {w : World} {L B sz n : Nat} {v : Value} {cs : List Value} (h : RdC w L B sz v n cs) : n ≤ 9223372036854775807 := by obtain ⟨_, _, _, _, hq, hm, _⟩ := h; exact Nat.le_trans hq hm
theorem cells37 : Try.prog.cellsOf 37 = 1 := by kernel_rfl
theorem flat_u16v (l : List UInt16) : l.flatMap (fun c => [u16v c]) = l.map u16v := by induction l with | nil => rfl | cons c l ih => simp [ih]
theorem dec33 {H : Type} {enc : TypeId × Value → H} {w : World} {base : Nat} {spare : Nat → Bool} {held : Bool} : Dec enc Try.prog w base spare held 33 (fun p : Value × List UInt16 => [p.1]) (fun p => RdC w 0 w.heap.size 1 p.1 p.2.length (p.2.map u16v)) :=
  (Dec.slice Try.underlying33 (by rw [cells37]; decide) (Dec.u16 Try.underlying37) (fun _ _ => by rw [cells37]; rfl)).map fun p hp => ⟨p, rfl, by have hq := hp.1; rwa [cells37, flat_u16v] at hq⟩
end Go.Proofs.Ytcpfdfejojghbaa
