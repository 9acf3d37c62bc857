/- Walks, written by a program: what each function of the translation hands back. -/
import Derived.Test.YtcpfdfejojghbaaProg
import Derived.KernelRfl
import Derived.Test.YtcpfdfejojghbaaB4
namespace Go.Proofs.Ytcpfdfejojghbaa
open Go.Gx Go.RowKit
attribute [local irreducible] wpList wpStill Code.wp Calls
open Go.Bt
theorem TreeOrder_ret (l : List UInt16) (turn : UInt8) (vl : Value) (w : World) (hll : l.length ≤ 9223372036854775807) (hr : RdC w 0 w.heap.size 1 vl l.length (l.map u16v)) : Ret Try.prog 5 #[vl, (Value.int .u8 (turn.toNat : Int))] w (fun v' w' => Below w.heap.size w w' ∧ v' = .bool true) := by
 have ht9 := turn.toNat_lt
 have hb := Below.refl w.heap.size w
 refine enter (N := 128) Try.func5 rfl rfl (by simp) fun a0 hN hd hA => ?_
 have s0 : a0.tmps.getD 0 undef = vl := hA 0 (by simp)
 have s1 : a0.tmps.getD 1 undef = (Value.int .u8 (turn.toNat : Int)) := hA 1 (by simp)
 clear hA
 refine seq_any fun K1 hK1 => ?_
 refine one_reg ?_
 refine op_assign rfl ?_
 refine reg_nil ?_
 refine hK1 _ _ ?_
 refine seq_any fun K2 hK2 => ?_
 refine seq_any fun K3 hK3 => ?_
 refine one_reg ?_
 refine op_fn (vs := []) ok11 trivial (begun15) ?_
 rintro _ w4 ⟨E5, rfl⟩
 have E5 := grown_of_below E5
 have z_w4 := E5.size
 have hr := hr.keep0 E5
 have hb := below_step0 hb E5 hb.size
 refine op_not (ev_hit hN rfl) ?_
 refine reg_nil ?_
 refine hK3 _ _ ?_
 refine wp_cond_false (ev_hit hN rfl) ?_
 refine wp_skip ?_
 refine hK2 _ _ ?_
 refine seq_any fun K6 hK6 => ?_
 refine seq_any fun K7 hK7 => ?_
 refine one_reg ?_
 refine op_move (ev_base hN rfl s0) ?_
 refine op_len_rd Try.underlying33 (ev_hit hN rfl) hr ?_
 refine op_eql (ev_hit hN rfl) rfl (fun c18 => ?_) (fun c18 => ?_)
 · -- 18T
  refine op_move (ev_hit hN rfl) ?_
  refine g_false (j := 3) (dj := 19) (b := false) rfl rfl rfl (ev_hit hN rfl) rfl rfl ?_
  refine g_false (j := 3) (dj := 19) (b := false) rfl rfl rfl (ev_hit hN rfl) rfl rfl ?_
  refine g_false (j := 3) (dj := 19) (b := false) rfl rfl rfl (ev_hit hN rfl) rfl rfl ?_
  refine op_pick_t (ev_hit hN rfl) rfl ?_
  refine reg_nil ?_
  refine hK7 _ _ ?_
  refine wp_cond_true (ev_hit hN rfl) ?_
  refine seq_any fun K8 hK8 => ?_
  refine one_reg ?_
  refine op_assign rfl ?_
  refine reg_nil ?_
  refine hK8 _ _ ?_
  refine wp_ret (then_ret ( ?_))
  refine ret1 rfl hd (ev_hit hN rfl) ⟨_, rfl, ?_⟩
  -- path 18T
  exact ⟨hb, rfl⟩
 · -- 18F
  refine op_move (ev_hit hN rfl) ?_
  refine g_true (j := 3) (dj := 19) (b := false) rfl rfl rfl (ev_hit hN rfl) ?_
  refine op_move (ev_base hN rfl s0) ?_
  refine g_true (j := 3) (dj := 19) (b := false) rfl rfl rfl (ev_hit hN rfl) ?_
  refine op_len_rd Try.underlying33 (ev_hit hN rfl) hr ?_
  refine g_true (j := 3) (dj := 19) (b := false) rfl rfl rfl (ev_hit hN rfl) ?_
  refine op_gtr (ev_hit hN rfl) rfl (fun c22 => ?_) (fun c22 => ?_)
  · -- 22T
   refine op_pick_f (ev_hit hN rfl) (ev_hit hN rfl) ?_
   refine reg_nil ?_
   refine hK7 _ _ ?_
   refine wp_cond_true (ev_hit hN rfl) ?_
   refine seq_any fun K9 hK9 => ?_
   refine one_reg ?_
   refine op_assign rfl ?_
   refine reg_nil ?_
   refine hK9 _ _ ?_
   refine wp_ret (then_ret ( ?_))
   refine ret1 rfl hd (ev_hit hN rfl) ⟨_, rfl, ?_⟩
   -- path 18F 22T
   exact ⟨hb, rfl⟩
  · -- 22F
   refine op_pick_f (ev_hit hN rfl) (ev_hit hN rfl) ?_
   refine reg_nil ?_
   refine hK7 _ _ ?_
   refine wp_cond_false (ev_hit hN rfl) ?_
   refine wp_skip ?_
   refine hK6 _ _ ?_
   refine seq_any fun K10 hK10 => ?_
   refine one_reg ?_
   have hkk : (turn.toNat % l.length) < l.length := Nat.mod_lt _ (by omega)
   refine op_fn (vs := []) ok22 trivial (newLI) ?_
   rintro _ w12 ⟨E13, p11, F11, rfl, hT11⟩
   have E13 := grown_of_below E13
   have hlo14 : ∀ k, F11 k → w4.heap.size ≤ k := fun k hk => (hT11.lt k hk).1
   have z_w12 := E13.size
   have hr := hr.keep0 E13
   have hb := below_step0 hb E13 hb.size
   have hT11 : TopL kI 71 w.heap.size w12 p11 [] F11 := hT11.rebase (by omega)
   refine op_fn (vs := []) ok22 trivial (newLI) ?_
   rintro _ w16 ⟨E17, p15, F15, rfl, hT15⟩
   have E17 := grown_of_below E17
   have hlo18 : ∀ k, F15 k → w12.heap.size ≤ k := fun k hk => (hT15.lt k hk).1
   have dj19 : Dj F11 F15 := Dj.fresh (fun k hk => (hT11.lt k hk).2) hlo18
   have z_w16 := E17.size
   have hr := hr.keep0 E17
   have hT11 := hT11.keepG (Gr.of0 E17 NoB) (fun _ _ h => h)
   have hb := below_step0 hb E17 hb.size
   have hT15 : TopL kI 71 w.heap.size w16 p15 [] F15 := hT15.rebase (by omega)
   refine op_assign (ev_hit hN rfl) ?_
   refine op_assign (ev_hit hN rfl) ?_
   refine reg_nil ?_
   refine hK10 _ _ ?_
   refine seq_any fun K20 hK20 => ?_
   refine one_reg ?_
   refine op_move (ev_base hN rfl s1) ?_
   refine op_conv (r := (turn.toNat : Int)) (ev_hit hN rfl) us5 Try.underlying3 (wrap_i64 (by have := (turn).toNat_lt; omega)) ?_
   refine op_move (ev_base hN rfl s0) ?_
   refine op_len_rd Try.underlying33 (ev_hit hN rfl) hr ?_
   refine op_rem (r := (((turn.toNat % l.length) : Nat) : Int)) (ev_hit hN rfl) (ev_hit hN rfl) (by omega) (by rw [Int.tmod_eq_emod_of_nonneg (by omega)]; exact (Int.natCast_emod _ _).symm) ?_
   refine op_assign (ev_hit hN rfl) ?_
   refine reg_nil ?_
   refine hK20 _ _ ?_
   refine seq_any fun K21 hK21 => ?_
   refine seq_any fun K22 hK22 => ?_
   refine one_reg ?_
   refine op_assign rfl ?_
   refine reg_nil ?_
   refine hK22 _ _ ?_
   refine wp_block ?_
   refine loop_m (fun mz_ az_ w' => ∃ (i : Nat) (MA MB : List (Ky × Int)) (FA FB : Nat → Prop), mz_ = l.length - i ∧ (az_.tmps.getD 0 undef = vl) ∧ (az_.tmps.getD 4 undef = (Value.bool false)) ∧ (az_.tmps.getD 5 undef = (ptr p11 0)) ∧ (az_.tmps.getD 6 undef = (ptr p15 0)) ∧ (az_.tmps.getD 7 undef = (Value.int .i64 (((turn.toNat % l.length) : Nat) : Int))) ∧ (az_.tmps.getD 8 undef = (Value.int .i64 ((i : Nat) : Int))) ∧ (i ≤ l.length) ∧ (∀ q, q ∈ MA ↔ ∃ j, j < i ∧ q = ent (l.getD j 0)) ∧ (∀ q, q ∈ MB ↔ ∃ j, j < i ∧ q = ent (l.getD (l.length - 1 - (j + (turn.toNat % l.length)) % l.length) 0)) ∧ (MA.length ≤ i) ∧ (MB.length ≤ i) ∧ (Dj FA FB) ∧ (Below w.heap.size w w') ∧ (w16.heap.size ≤ w'.heap.size) ∧ (RdC w' 0 w.heap.size 1 vl l.length (l.map u16v)) ∧ (TopL kI 71 w.heap.size w' p11 MA FA) ∧ (TopL kI 71 w.heap.size w' p15 MB FB)) _ hN hd ⟨0, [], [], F11, F15, rfl, (sl_base hN rfl s0), (sl_hit hN rfl), (sl_hit hN rfl), (sl_hit hN rfl), (sl_hit hN rfl), (sl_hit hN rfl), (Nat.zero_le _), (fun q => ⟨fun h => (nomatch h), fun ⟨_, h, _⟩ => absurd h (Nat.not_lt_zero _)⟩), (fun q => ⟨fun h => (nomatch h), fun ⟨_, h, _⟩ => absurd h (Nat.not_lt_zero _)⟩), (Nat.le_refl _), (Nat.le_refl _), dj19, hb, (Nat.le_refl _), hr, hT11, hT15⟩ ?_
   rintro _ a23 w23 hN23 hd23 ⟨i, MA, MB, FA, FB, rfl, s23_0, s23_4, s23_5, s23_6, s23_7, s23_8, hi, hA, hB, hlA, hlB, hdj, hb, zl_w23, hr, hTA, hTB⟩
   have z_w23 := hb.size
   refine seq_any fun K24 hK24 => ?_
   refine seq_any fun K25 hK25 => ?_
   refine one_reg ?_
   refine op_move (ev_base hN23 rfl s23_8) ?_
   refine op_move (ev_base hN23 rfl s23_0) ?_
   refine op_len_rd Try.underlying33 (ev_hit hN23 rfl) hr ?_
   refine op_lss (ev_hit hN23 rfl) (ev_hit hN23 rfl) (fun c34 => ?_) (fun c34 => ?_)
   · -- 34T
    refine reg_nil ?_
    refine hK25 _ _ ?_
    refine wp_cond_true (ev_hit hN23 rfl) ?_
    refine wp_skip ?_
    refine hK24 _ _ ?_
    refine seq_any fun K26 hK26 => ?_
    refine wp_block ?_
    refine seq_any fun K27 hK27 => ?_
    have hmod : (i + (turn.toNat % l.length)) % l.length < l.length := Nat.mod_lt _ (by omega)
    refine reg_still mixed (by kernel_rfl) ?_
    intro w29 E28
    have z_w29 := E28.size
    have hr := hr.keep0 E28
    have hTA := hTA.keepG (Gr.of0 E28 NoB) (fun _ _ h => h)
    have hTB := hTB.keepG (Gr.of0 E28 NoB) (fun _ _ h => h)
    have hb := below_step0 hb E28 hb.size
    refine st_step rfl (fun _ h9 => op_move (ev_base hN23 rfl s23_0) h9) ?_
    refine st_step rfl (fun _ h9 => op_move (ev_base hN23 rfl s23_8) h9) ?_
    refine st_index_rd slt33 (ev_hit hN23 rfl) hr (ev_hit hN23 rfl) (by omega) (by omega) ?_
    intro b30 o31 h0b30 h1b30 hc32
    refine st_step rfl (fun _ h9 => op_load1 (v := (Value.int .u16 ((l.getD i 0).toNat : Int))) one37 (ev_hit hN23 rfl) (by have := hc32 0 (Value.int .u16 ((l.getD i 0).toNat : Int)) (by decide) (el_u16 (i := i) (by omega) (by omega)); simpa using this) h9) ?_
    refine st_step rfl (fun _ h9 => op_move (ev_base hN23 rfl s23_0) h9) ?_
    refine st_step rfl (fun _ h9 => op_move (ev_base hN23 rfl s23_0) h9) ?_
    refine st_step rfl (fun _ h9 => op_len_rd Try.underlying33 (ev_hit hN23 rfl) hr h9) ?_
    refine st_step rfl (fun _ h9 => op_sub (r := ((l.length - 1 : Nat) : Int)) (ev_hit hN23 rfl) rfl ((sub64 (by omega)).trans (by omega)) h9) ?_
    refine st_step rfl (fun _ h9 => op_move (ev_base hN23 rfl s23_8) h9) ?_
    refine st_step rfl (fun _ h9 => op_move (ev_base hN23 rfl s23_7) h9) ?_
    refine st_step rfl (fun _ h9 => op_add (r := ((i + (turn.toNat % l.length) : Nat) : Int)) (ev_hit hN23 rfl) (ev_hit hN23 rfl) ((add64 (by omega)).trans (by omega)) h9) ?_
    refine st_step rfl (fun _ h9 => op_move (ev_base hN23 rfl s23_0) h9) ?_
    refine st_step rfl (fun _ h9 => op_len_rd Try.underlying33 (ev_hit hN23 rfl) hr h9) ?_
    refine st_step rfl (fun _ h9 => op_rem (r := (((i + (turn.toNat % l.length)) % l.length : Nat) : Int)) (ev_hit hN23 rfl) (ev_hit hN23 rfl) (by omega) (by rw [Int.tmod_eq_emod_of_nonneg (by omega)]; exact (Int.natCast_emod _ _).symm) h9) ?_
    refine st_step rfl (fun _ h9 => op_sub (r := (((l.length - 1 - (i + (turn.toNat % l.length)) % l.length) : Nat) : Int)) (ev_hit hN23 rfl) (ev_hit hN23 rfl) ((sub64 (by omega)).trans (by omega)) h9) ?_
    refine st_index_rd slt33 (ev_hit hN23 rfl) hr (ev_hit hN23 rfl) (by omega) (by omega) ?_
    intro b33 o34 h0b33 h1b33 hc35
    refine st_step rfl (fun _ h9 => op_load1 (v := (Value.int .u16 ((l.getD (l.length - 1 - (i + (turn.toNat % l.length)) % l.length) 0).toNat : Int))) one37 (ev_hit hN23 rfl) (by have := hc35 0 (Value.int .u16 ((l.getD (l.length - 1 - (i + (turn.toNat % l.length)) % l.length) 0).toNat : Int)) (by decide) (el_u16 (i := (l.length - 1 - (i + (turn.toNat % l.length)) % l.length)) (by omega) (by omega)); simpa using this) h9) ?_
    refine st_step rfl (fun _ h9 => op_assign (ev_hit hN23 rfl) h9) ?_
    refine st_step rfl (fun _ h9 => op_assign (ev_hit hN23 rfl) h9) ?_
    refine st_nil ?_
    refine hK27 _ _ ?_
    refine seq_any fun K36 hK36 => ?_
    refine one_reg ?_
    have hsA := hTA.sorted
    have hsB := hTB.sorted
    refine op_move (ev_base hN23 rfl s23_5) ?_
    refine op_move (ev_hit hN23 rfl) ?_
    refine op_shr (r := (((l.getD i 0).toNat / 256 : Nat) : Int)) (ev_hit hN23 rfl) rfl (by decide) (shr_nat (j := 8) (by omega) (by decide)) ?_
    refine op_conv (r := ((UInt8.ofNat ((l.getD i 0).toNat / 256)).toNat : Int)) (ev_hit hN23 rfl) us37 Try.underlying5 conv_u8 ?_
    refine op_move (ev_hit hN23 rfl) ?_
    refine op_conv (r := ((UInt8.ofNat (l.getD i 0).toNat).toNat : Int)) (ev_hit hN23 rfl) us37 Try.underlying5 conv_u8 ?_
    refine op_bslice (e := 5) (pv := [(0, (Value.int .u8 ((UInt8.ofNat ((l.getD i 0).toNat / 256)).toNat : Int))), (1, (Value.int .u8 ((UInt8.ofNat (l.getD i 0).toNat).toNat : Int)))]) (cs := [(Value.int .u8 ((UInt8.ofNat ((l.getD i 0).toNat / 256)).toNat : Int)), (Value.int .u8 ((UInt8.ofNat (l.getD i 0).toNat).toNat : Int))]) ⟨rfl, (ev_hit hN23 rfl), ⟨rfl, (ev_hit hN23 rfl), trivial⟩⟩ (by kernel_rfl) ?_
    intro w37 b38 lo_b38 hi_b38 hB40 E39
    have dj41 : ¬ FA b38 := fun hf => by have := (hTA.lt _ hf).2; omega
    have dj42 : ¬ FB b38 := fun hf => by have := (hTB.lt _ hf).2; omega
    have z_w37 := E39.size
    have hr := hr.keep0 E39
    have hTA := hTA.keepG (Gr.of0 E39 NoB) (fun _ _ h => h)
    have hTB := hTB.keepG (Gr.of0 E39 NoB) (fun _ _ h => h)
    have hb := below_step0 hb E39 hb.size
    refine op_move (ev_hit hN23 rfl) ?_
    refine op_conv (r := ((l.getD i 0).toNat : Int)) (ev_hit hN23 rfl) us37 Try.underlying3 (wrap_i64 (by have := ((l.getD i 0)).toNat_lt; omega)) ?_
    refine op_fn (vs := [(ptr p11 0), (Value.slice (some ⟨b38, 0, none⟩) 2 2), (Value.int .i64 ((l.getD i 0).toNat : Int))]) ok23 ⟨(ev_hit hN23 rfl), ⟨(ev_hit hN23 rfl), ⟨(ev_hit hN23 rfl), trivial⟩⟩⟩ (putLsI (k := [(UInt8.ofNat ((l.getD i 0).toNat / 256)), (UInt8.ofNat (l.getD i 0).toNat)]) (x := ((l.getD i 0).toNat : Int)) hTA hb.size (RdC.ofBx (sz := 1) (n := 2) hB40 rfl (by decide)) (by have := hB40.lt; omega) (hapB dj41) (by simp; done)) ?_
    rintro _ w44 ⟨E45, rfl, F43, hT43, hN43⟩
    have bd46 := hTB.lt
    have bd47 := hB40.lt
    have hTA_old := hTA
    have z_w44 := E45.size
    have hr := hr.keepG E45 (fun k hk => .inr (by have := hTA_old.lt k hk; omega))
    have hTB := hTB.keepG E45 hdj.symm
    have hB40 := hB40.keepG E45 dj41
    have hb := below_stepG hb E45 hb.size (fun k hk => (hTA_old.lt k hk).1)
    have dj48 : Dj FB F43 := Dj.stepF hN43 (fun k hk => (bd46 k hk).2) hdj.symm
    have dj49 : ¬ F43 b38 := ne_stepF hN43 bd47 dj41
    refine reg_nil ?_
    refine hK36 _ _ ?_
    refine one_reg ?_
    refine op_move (ev_base hN23 rfl s23_6) ?_
    refine op_move (ev_hit hN23 rfl) ?_
    refine op_shr (r := (((l.getD (l.length - 1 - (i + (turn.toNat % l.length)) % l.length) 0).toNat / 256 : Nat) : Int)) (ev_hit hN23 rfl) rfl (by decide) (shr_nat (j := 8) (by omega) (by decide)) ?_
    refine op_conv (r := ((UInt8.ofNat ((l.getD (l.length - 1 - (i + (turn.toNat % l.length)) % l.length) 0).toNat / 256)).toNat : Int)) (ev_hit hN23 rfl) us37 Try.underlying5 conv_u8 ?_
    refine op_move (ev_hit hN23 rfl) ?_
    refine op_conv (r := ((UInt8.ofNat (l.getD (l.length - 1 - (i + (turn.toNat % l.length)) % l.length) 0).toNat).toNat : Int)) (ev_hit hN23 rfl) us37 Try.underlying5 conv_u8 ?_
    refine op_bslice (e := 5) (pv := [(0, (Value.int .u8 ((UInt8.ofNat ((l.getD (l.length - 1 - (i + (turn.toNat % l.length)) % l.length) 0).toNat / 256)).toNat : Int))), (1, (Value.int .u8 ((UInt8.ofNat (l.getD (l.length - 1 - (i + (turn.toNat % l.length)) % l.length) 0).toNat).toNat : Int)))]) (cs := [(Value.int .u8 ((UInt8.ofNat ((l.getD (l.length - 1 - (i + (turn.toNat % l.length)) % l.length) 0).toNat / 256)).toNat : Int)), (Value.int .u8 ((UInt8.ofNat (l.getD (l.length - 1 - (i + (turn.toNat % l.length)) % l.length) 0).toNat).toNat : Int))]) ⟨rfl, (ev_hit hN23 rfl), ⟨rfl, (ev_hit hN23 rfl), trivial⟩⟩ (by kernel_rfl) ?_
    intro w50 b51 lo_b51 hi_b51 hB53 E52
    have dj54 : ¬ FB b51 := fun hf => by have := (hTB.lt _ hf).2; omega
    have dj55 : ¬ F43 b51 := fun hf => by have := (hT43.lt _ hf).2; omega
    have z_w50 := E52.size
    have hr := hr.keep0 E52
    have hTB := hTB.keepG (Gr.of0 E52 NoB) (fun _ _ h => h)
    have hB40 := hB40.keep0 E52
    have hT43 := hT43.keepG (Gr.of0 E52 NoB) (fun _ _ h => h)
    have hb := below_step0 hb E52 hb.size
    refine op_move (ev_hit hN23 rfl) ?_
    refine op_conv (r := ((l.getD (l.length - 1 - (i + (turn.toNat % l.length)) % l.length) 0).toNat : Int)) (ev_hit hN23 rfl) us37 Try.underlying3 (wrap_i64 (by have := ((l.getD (l.length - 1 - (i + (turn.toNat % l.length)) % l.length) 0)).toNat_lt; omega)) ?_
    refine op_fn (vs := [(ptr p15 0), (Value.slice (some ⟨b51, 0, none⟩) 2 2), (Value.int .i64 ((l.getD (l.length - 1 - (i + (turn.toNat % l.length)) % l.length) 0).toNat : Int))]) ok23 ⟨(ev_hit hN23 rfl), ⟨(ev_hit hN23 rfl), ⟨(ev_hit hN23 rfl), trivial⟩⟩⟩ (putLsI (k := [(UInt8.ofNat ((l.getD (l.length - 1 - (i + (turn.toNat % l.length)) % l.length) 0).toNat / 256)), (UInt8.ofNat (l.getD (l.length - 1 - (i + (turn.toNat % l.length)) % l.length) 0).toNat)]) (x := ((l.getD (l.length - 1 - (i + (turn.toNat % l.length)) % l.length) 0).toNat : Int)) hTB hb.size (RdC.ofBx (sz := 1) (n := 2) hB53 rfl (by decide)) (by have := hB53.lt; omega) (hapB dj54) (by simp; done)) ?_
    rintro _ w57 ⟨E58, rfl, F56, hT56, hN56⟩
    have bd59 := hB40.lt
    have bd60 := hT43.lt
    have bd61 := hB53.lt
    have hTB_old := hTB
    have z_w57 := E58.size
    have hr := hr.keepG E58 (fun k hk => .inr (by have := hTB_old.lt k hk; omega))
    have hB40 := hB40.keepG E58 dj42
    have hT43 := hT43.keepG E58 dj48.symm
    have hB53 := hB53.keepG E58 dj54
    have hb := below_stepG hb E58 hb.size (fun k hk => (hTB_old.lt k hk).1)
    have dj62 : ¬ F56 b38 := ne_stepF hN56 bd59 dj42
    have dj63 : Dj F43 F56 := Dj.stepF hN56 (fun k hk => (bd60 k hk).2) dj48.symm
    have dj64 : ¬ F56 b51 := ne_stepF hN56 bd61 dj54
    refine reg_nil ?_
    refine hK26 _ _ ?_
    refine one_reg ?_
    refine op_move (ev_base hN23 rfl s23_8) ?_
    refine op_add (ev_hit hN23 rfl) rfl (add64 (by omega)) ?_
    refine op_assign (ev_hit hN23 rfl) ?_
    refine reg_nil ?_
    -- round 18F 22F 34T
    exact loop_next _ hN23 hd23 ⟨(i + 1), (putL ([(UInt8.ofNat ((l.getD i 0).toNat / 256)), (UInt8.ofNat (l.getD i 0).toNat)]) ((l.getD i 0).toNat : Int) MA), (putL ([(UInt8.ofNat ((l.getD (l.length - 1 - (i + (turn.toNat % l.length)) % l.length) 0).toNat / 256)), (UInt8.ofNat (l.getD (l.length - 1 - (i + (turn.toNat % l.length)) % l.length) 0).toNat)]) ((l.getD (l.length - 1 - (i + (turn.toNat % l.length)) % l.length) 0).toNat : Int) MB), F43, F56, rfl, (sl_base hN23 rfl s23_0), (sl_base hN23 rfl s23_4), (sl_base hN23 rfl s23_5), (sl_base hN23 rfl s23_6), (sl_base hN23 rfl s23_7), (sl_hit hN23 rfl).trans (congrArg (Value.int .i64) (by omega)), (by omega), (put_ents (f := fun j => l.getD j 0) hA), (put_ents (f := fun j => l.getD (l.length - 1 - (j + (turn.toNat % l.length)) % l.length) 0) hB), (put_len hsA hlA), (put_len hsB hlB), dj63, hb, (by omega), hr, hT43, hT56⟩ (by omega)
   · -- 34F
    refine reg_nil ?_
    refine hK25 _ _ ?_
    refine wp_cond_false (ev_hit hN23 rfl) ?_
    refine wp_exit (then_exit (then_exit (blk_hit ?_)))
    refine hK21 _ _ ?_
    refine seq_any fun K65 hK65 => ?_
    refine one_reg ?_
    have hil : i = l.length := by omega
    subst hil
    have hMM : MA = MB := ents_same hTA.sorted hTB.sorted hkk hA hB
    refine op_move (ev_base hN23 rfl s23_5) ?_
    refine op_fn (vs := [(ptr p11 0), (Value.slice none 0 0), (Value.int .i64 1000)]) ok24 ⟨(ev_hit hN23 rfl), ⟨rfl, ⟨rfl, trivial⟩⟩⟩ (scanLsI (m := 1000) (x := ([] : List UInt8)) hTA (fun q hq => by obtain ⟨j, hj, rfl⟩ := (hA q).1 hq; exact Nat.le_trans (show 2 ≤ 1000000000 by decide) (Nat.le_refl _)) (RdC.nil _ _ _ _) (by omega) (by omega)) ?_
    rintro v66 w67 ⟨E68, D66, hO66, hks66, hE66, hpw66⟩
    have dj69 : Dj FA (Bl v66) := Dj.fresh (fun k hk => (hTA.lt k hk).2) (fun k hk => (hO66.lt k hk).1)
    have dj70 : Dj FB (Bl v66) := Dj.fresh (fun k hk => (hTB.lt k hk).2) (fun k hk => (hO66.lt k hk).1)
    have E68 := grown_of_below E68
    have z_w67 := E68.size
    have hr := hr.keep0 E68
    have hTA := hTA.keepG (Gr.of0 E68 NoB) (fun _ _ h => h)
    have hTB := hTB.keepG (Gr.of0 E68 NoB) (fun _ _ h => h)
    have hb := below_step0 hb E68 hb.size
    have hO66 := hO66.mono (base' := w.heap.size) (by omega)
    have hks66 : ∀ x9 ∈ (D66.map pk), Own w67 w.heap.size 5 1 x9.1 x9.2.length (x9.2.map u8v) := fun x9 h9 => (hks66 x9 h9).mono (by omega)
    refine op_move (ev_base hN23 rfl s23_6) ?_
    refine op_fn (vs := [(ptr p15 0), (Value.slice none 0 0), (Value.int .i64 1000)]) ok24 ⟨(ev_hit hN23 rfl), ⟨rfl, ⟨rfl, trivial⟩⟩⟩ (scanLsI (m := 1000) (x := ([] : List UInt8)) hTB (fun q hq => by obtain ⟨j, hj, rfl⟩ := (hB q).1 hq; exact Nat.le_trans (show 2 ≤ 1000000000 by decide) (Nat.le_refl _)) (RdC.nil _ _ _ _) (by omega) (by omega)) ?_
    rintro v71 w72 ⟨E73, D71, hO71, hks71, hE71, hpw71⟩
    have dj74 : Dj FA (Bl v71) := Dj.fresh (fun k hk => (hTA.lt k hk).2) (fun k hk => (hO71.lt k hk).1)
    have dj75 : Dj FB (Bl v71) := Dj.fresh (fun k hk => (hTB.lt k hk).2) (fun k hk => (hO71.lt k hk).1)
    have dj76 : DJ v71 v66 := fun k hk hg => by have q1 := (hO71.lt k hk).1; have q2 := (hO66.lt k hg).2; omega
    have E73 := grown_of_below E73
    have z_w72 := E73.size
    have hr := hr.keep0 E73
    have hTA := hTA.keepG (Gr.of0 E73 NoB) (fun _ _ h => h)
    have hTB := hTB.keepG (Gr.of0 E73 NoB) (fun _ _ h => h)
    have hO66 := hO66.keep0 E73
    have hks66 : ∀ x9 ∈ (D66.map pk), Own w72 w.heap.size 5 1 x9.1 x9.2.length (x9.2.map u8v) := fun x9 hx9 => (hks66 x9 hx9).keep0 E73
    have hb := below_step0 hb E73 hb.size
    have hO71 := hO71.mono (base' := w.heap.size) (by omega)
    have hks71 : ∀ x9 ∈ (D71.map pk), Own w72 w.heap.size 5 1 x9.1 x9.2.length (x9.2.map u8v) := fun x9 h9 => (hks71 x9 h9).mono (by omega)
    refine op_assign (ev_hit hN23 rfl) ?_
    refine op_assign (ev_hit hN23 rfl) ?_
    refine reg_nil ?_
    refine hK65 _ _ ?_
    refine seq_any fun K77 hK77 => ?_
    refine seq_any fun K78 hK78 => ?_
    refine one_reg ?_
    have e1 : D66.map Prod.snd = MA := by have q := hE66; rw [geL_nil, List.take_of_length_le (show MA.length ≤ _ from Nat.le_trans hlA (by simp; omega))] at q; exact q
    have e2 : D71.map Prod.snd = MB := by have q := hE71; rw [geL_nil, List.take_of_length_le (show MB.length ≤ _ from Nat.le_trans hlB (by simp; omega))] at q; exact q
    have e12 : D66.map Prod.snd = D71.map Prod.snd := by rw [e1, e2, hMM]
    have hl12 : D66.length = D71.length := by have := congrArg List.length e12; simpa using this
    have hMl : MA.length = MB.length := congrArg List.length hMM
    have hD1l : D66.length = MA.length := by have := congrArg List.length e1; simpa using this
    refine op_move (ev_hit hN23 rfl) ?_
    refine op_len_rd Try.underlying48 (ev_hit hN23 rfl) hO66.rdw ?_
    refine op_move (ev_hit hN23 rfl) ?_
    refine op_len_rd Try.underlying48 (ev_hit hN23 rfl) hO71.rdw ?_
    refine op_neq (ev_hit hN23 rfl) (ev_hit hN23 rfl) (fun c82 => ?_) (fun c82 => ?_)
    · -- 82T
     exfalso; omega
    · -- 82F
     refine op_move (ev_hit hN23 rfl) ?_
     refine g_true (j := 5) (dj := 83) (b := false) rfl rfl rfl (ev_hit hN23 rfl) ?_
     refine op_move (ev_base hN23 rfl s23_5) ?_
     refine g_true (j := 5) (dj := 83) (b := false) rfl rfl rfl (ev_hit hN23 rfl) ?_
     refine op_fn (vs := [(ptr p11 0)]) ok25 ⟨(ev_hit hN23 rfl), trivial⟩ (lenLsI hTA (by omega)) ?_
     rintro _ w79 ⟨E80, rfl⟩
     have E80 := grown_of_below E80
     have z_w79 := E80.size
     have hr := hr.keep0 E80
     have hTA := hTA.keepG (Gr.of0 E80 NoB) (fun _ _ h => h)
     have hTB := hTB.keepG (Gr.of0 E80 NoB) (fun _ _ h => h)
     have hO66 := hO66.keep0 E80
     have hks66 : ∀ x9 ∈ (D66.map pk), Own w79 w.heap.size 5 1 x9.1 x9.2.length (x9.2.map u8v) := fun x9 hx9 => (hks66 x9 hx9).keep0 E80
     have hO71 := hO71.keep0 E80
     have hks71 : ∀ x9 ∈ (D71.map pk), Own w79 w.heap.size 5 1 x9.1 x9.2.length (x9.2.map u8v) := fun x9 hx9 => (hks71 x9 hx9).keep0 E80
     have hb := below_step0 hb E80 hb.size
     refine g_true (j := 5) (dj := 83) (b := false) rfl rfl rfl (ev_hit hN23 rfl) ?_
     refine op_move (ev_base hN23 rfl s23_6) ?_
     refine g_true (j := 5) (dj := 83) (b := false) rfl rfl rfl (ev_hit hN23 rfl) ?_
     refine op_fn (vs := [(ptr p15 0)]) ok25 ⟨(ev_hit hN23 rfl), trivial⟩ (lenLsI hTB (by omega)) ?_
     rintro _ w81 ⟨E82, rfl⟩
     have E82 := grown_of_below E82
     have z_w81 := E82.size
     have hr := hr.keep0 E82
     have hTA := hTA.keepG (Gr.of0 E82 NoB) (fun _ _ h => h)
     have hTB := hTB.keepG (Gr.of0 E82 NoB) (fun _ _ h => h)
     have hO66 := hO66.keep0 E82
     have hks66 : ∀ x9 ∈ (D66.map pk), Own w81 w.heap.size 5 1 x9.1 x9.2.length (x9.2.map u8v) := fun x9 hx9 => (hks66 x9 hx9).keep0 E82
     have hO71 := hO71.keep0 E82
     have hks71 : ∀ x9 ∈ (D71.map pk), Own w81 w.heap.size 5 1 x9.1 x9.2.length (x9.2.map u8v) := fun x9 hx9 => (hks71 x9 hx9).keep0 E82
     have hb := below_step0 hb E82 hb.size
     refine g_true (j := 5) (dj := 83) (b := false) rfl rfl rfl (ev_hit hN23 rfl) ?_
     refine op_neq (ev_hit hN23 rfl) (ev_hit hN23 rfl) (fun c88 => ?_) (fun c88 => ?_)
     · -- 88T
      exfalso; omega
     · -- 88F
      refine op_pick_f (ev_hit hN23 rfl) (ev_hit hN23 rfl) ?_
      refine reg_nil ?_
      refine hK78 _ _ ?_
      refine wp_cond_false (ev_hit hN23 rfl) ?_
      refine wp_skip ?_
      refine hK77 _ _ ?_
      refine seq_any fun K83 hK83 => ?_
      refine seq_any fun K84 hK84 => ?_
      refine one_reg ?_
      refine op_assign rfl ?_
      refine reg_nil ?_
      refine hK84 _ _ ?_
      refine wp_block ?_
      refine loop_m (fun mz_ az_ w' => ∃ (k : Nat), mz_ = D66.length - k ∧ (az_.tmps.getD 5 undef = (ptr p11 0)) ∧ (az_.tmps.getD 6 undef = (ptr p15 0)) ∧ (az_.tmps.getD 11 undef = v66) ∧ (az_.tmps.getD 12 undef = v71) ∧ (az_.tmps.getD 13 undef = (Value.int .i64 ((k : Nat) : Int))) ∧ (k ≤ D66.length) ∧ (Below w.heap.size w w') ∧ (w81.heap.size ≤ w'.heap.size) ∧ (RdC w' 0 w.heap.size 1 vl l.length (l.map u16v)) ∧ (TopL kI 71 w.heap.size w' p11 MA FA) ∧ (TopL kI 71 w.heap.size w' p15 MB FB) ∧ (Own w' w.heap.size 51 2 v66 D66.length (D66.flatMap cI)) ∧ (∀ x9 ∈ (D66.map pk), Own w' w.heap.size 5 1 x9.1 x9.2.length (x9.2.map u8v)) ∧ (Own w' w.heap.size 51 2 v71 D71.length (D71.flatMap cI)) ∧ (∀ x9 ∈ (D71.map pk), Own w' w.heap.size 5 1 x9.1 x9.2.length (x9.2.map u8v))) _ hN23 hd23 ⟨0, rfl, (sl_base hN23 rfl s23_5), (sl_base hN23 rfl s23_6), (sl_hit hN23 rfl), (sl_hit hN23 rfl), (sl_hit hN23 rfl), (Nat.zero_le _), hb, (Nat.le_refl _), hr, hTA, hTB, hO66, hks66, hO71, hks71⟩ ?_
      rintro _ a85 w85 hN85 hd85 ⟨k, rfl, s85_5, s85_6, s85_11, s85_12, s85_13, hk, hb, zl_w85, hr, hTA, hTB, hO66, hks66, hO71, hks71⟩
      have z_w85 := hb.size
      refine seq_any fun K86 hK86 => ?_
      refine seq_any fun K87 hK87 => ?_
      refine one_reg ?_
      refine op_move (ev_base hN85 rfl s85_13) ?_
      refine op_move (ev_base hN85 rfl s85_11) ?_
      refine op_len_rd Try.underlying48 (ev_hit hN85 rfl) hO66.rdw ?_
      refine op_lss (ev_hit hN85 rfl) (ev_hit hN85 rfl) (fun c93 => ?_) (fun c93 => ?_)
      · -- 93T
       refine reg_nil ?_
       refine hK87 _ _ ?_
       refine wp_cond_true (ev_hit hN85 rfl) ?_
       refine wp_skip ?_
       refine hK86 _ _ ?_
       refine seq_any fun K88 hK88 => ?_
       refine wp_block ?_
       refine seq_any fun K89 hK89 => ?_
       have hat := snd_at (k := k) e12 (by omega)
       have heq : (D66.getD k default).2.1 = (D71.getD k default).2.1 := by rw [hat]
       have hev : (D66.getD k default).2.2 = (D71.getD k default).2.2 := by rw [hat]
       refine reg_split (hd := [_, _, _, _, _, _, _, _, _, _, _, _]) (tl := _) 12 mixed (by kernel_rfl) rfl rfl ?_
       refine any_quiet (Φ := phiL [(fun uz _ => uz = v66), (fun uz _ => uz = (Value.int .i64 ((k : Nat) : Int))), (fun uz w' => ∃ (b90 : (Nat)) (o91 : (Nat)), uz = (ptr b90 o91) ∧ PtC w' b90 (b90 + 1) b90 o91 [(D66.getD k default).1, (Value.int .i64 (D66.getD k default).2.2)]), (fun uz w' => ∃ (y90 : (Nat)) (y91 : (Nat)), uz = (ptr y90 (y91 + 0)) ∧ PtC w' y90 (y90 + 1) y90 y91 [(D66.getD k default).1, (Value.int .i64 (D66.getD k default).2.2)]), (fun uz _ => uz = (D66.getD k default).1), (fun uz _ => uz = (Value.string (bs (D66.getD k default).2.1))), (fun uz _ => uz = v71), (fun uz _ => uz = (Value.int .i64 ((k : Nat) : Int))), (fun uz w' => ∃ (b94 : (Nat)) (o95 : (Nat)), uz = (ptr b94 o95) ∧ PtC w' b94 (b94 + 1) b94 o95 [(D71.getD k default).1, (Value.int .i64 (D71.getD k default).2.2)]), (fun uz w' => ∃ (y93 : (Nat)) (y94 : (Nat)), uz = (ptr y93 (y94 + 0)) ∧ PtC w' y93 (y93 + 1) y93 y94 [(D71.getD k default).1, (Value.int .i64 (D71.getD k default).2.2)]), (fun uz _ => uz = (D71.getD k default).1), (fun uz _ => uz = (Value.string (bs (D71.getD k default).2.1)))]) (by kernel_rfl) (by kernel_rfl) (by kernel_rfl) hN85 (StL.get (StL.eq (StL.eq (StL.cons (fun u w1 w2 E h => by obtain ⟨x0, x1, hv, f0⟩ := h; exact ⟨x0, x1, hv, f0.keep0 E⟩) (StL.cons (fun u w1 w2 E h => by obtain ⟨x0, x1, hv, f0⟩ := h; exact ⟨x0, x1, hv, f0.keep0 E⟩) (StL.eq (StL.eq (StL.eq (StL.eq (StL.cons (fun u w1 w2 E h => by obtain ⟨x0, x1, hv, f0⟩ := h; exact ⟨x0, x1, hv, f0.keep0 E⟩) (StL.cons (fun u w1 w2 E h => by obtain ⟨x0, x1, hv, f0⟩ := h; exact ⟨x0, x1, hv, f0.keep0 E⟩) (StL.eq (StL.eq (StL.nil _)))))))))))))) (ObL.get (s := 12) (ObL.cons ?_ (ObL.cons ?_ (ObL.cons ?_ (ObL.cons ?_ (ObL.cons ?_ (ObL.cons ?_ (ObL.cons ?_ (ObL.cons ?_ (ObL.cons ?_ (ObL.cons ?_ (ObL.cons ?_ (ObL.cons ?_ (ObL.nil))))))))))))) rfl) ?_
       ·
        intro aA wA hNA hRA hbsA hdpA
        have qA_11 := (hbsA 11 rfl).trans (sl_base hN85 rfl s85_11)
        refine op_move (ev_base hNA rfl qA_11) ?_
        exact obN_end rfl rfl (grown_refl _ _)
       ·
        intro aA wA hNA hRA hbsA hdpA
        have qA_13 := (hbsA 13 rfl).trans (sl_base hN85 rfl s85_13)
        refine op_move (ev_base hNA rfl qA_13) ?_
        exact obN_end rfl rfl (grown_refl _ _)
       ·
        intro aA wA hNA hRA hbsA hdpA
        have hRA : w85.grownBy wA none := hRA
        have z_wA := hRA.size
        have hr := hr.keep0 hRA
        have hTA := hTA.keepG (Gr.of0 hRA NoB) (fun _ _ h => h)
        have hTB := hTB.keepG (Gr.of0 hRA NoB) (fun _ _ h => h)
        have hO66 := hO66.keep0 hRA
        have hks66 : ∀ x9 ∈ (D66.map pk), Own wA w.heap.size 5 1 x9.1 x9.2.length (x9.2.map u8v) := fun x9 hx9 => (hks66 x9 hx9).keep0 hRA
        have hO71 := hO71.keep0 hRA
        have hks71 : ∀ x9 ∈ (D71.map pk), Own wA w.heap.size 5 1 x9.1 x9.2.length (x9.2.map u8v) := fun x9 hx9 => (hks71 x9 hx9).keep0 hRA
        have hb := below_step0 hb hRA hb.size
        have qA_96 : Sl aA 96 v66 := hdpA 0 _ 96 (by kernel_rfl) rfl rfl
        have qA_97 : Sl aA 97 (Value.int .i64 ((k : Nat) : Int)) := hdpA 1 _ 97 (by kernel_rfl) rfl rfl
        clear hbsA hdpA
        refine op_index_rd slt48 (ev_base hNA rfl qA_96) hO66.rdw (ev_base hNA rfl qA_97) (by omega) (by omega) ?_
        intro b96 o97 h0b96 h1b96 hc98
        have hp99 : PtC wA b96 (b96 + 1) b96 o97 [(D66.getD k default).1, (Value.int .i64 (D66.getD k default).2.2)] := ⟨by omega, by omega, fun j u hu => hc98 j u (by have := (List.getElem?_eq_some_iff.1 hu).1; simpa using this) ((el_pI (i := k) (by omega) (by first | omega | (simp only [List.length_drop, List.length_take]; omega))) j u hu)⟩
        exact obN_end rfl ⟨b96, o97, rfl, hp99⟩ (grown_refl _ _)
       ·
        intro aA wA hNA hRA hbsA hdpA
        obtain ⟨b90, o91, qA_98, hp93⟩ := hdpA 2 _ 98 (by kernel_rfl) rfl rfl
        have hp93 : PtC wA b90 (b90 + 1) b90 o91 [(D66.getD k default).1, (Value.int .i64 (D66.getD k default).2.2)] := hp93
        refine op_field fld51_0 (ev_base hNA rfl qA_98) ?_
        exact obN_end rfl ⟨b90, o91, rfl, hp93⟩ (grown_refl _ _)
       ·
        intro aA wA hNA hRA hbsA hdpA
        have hRA : w85.grownBy wA none := hRA
        have z_wA := hRA.size
        have hr := hr.keep0 hRA
        have hTA := hTA.keepG (Gr.of0 hRA NoB) (fun _ _ h => h)
        have hTB := hTB.keepG (Gr.of0 hRA NoB) (fun _ _ h => h)
        have hO66 := hO66.keep0 hRA
        have hks66 : ∀ x9 ∈ (D66.map pk), Own wA w.heap.size 5 1 x9.1 x9.2.length (x9.2.map u8v) := fun x9 hx9 => (hks66 x9 hx9).keep0 hRA
        have hO71 := hO71.keep0 hRA
        have hks71 : ∀ x9 ∈ (D71.map pk), Own wA w.heap.size 5 1 x9.1 x9.2.length (x9.2.map u8v) := fun x9 hx9 => (hks71 x9 hx9).keep0 hRA
        have hb := below_step0 hb hRA hb.size
        obtain ⟨y90, y91, qA_99, hy92⟩ := hdpA 3 _ 99 (by kernel_rfl) rfl rfl
        have hy92 : PtC wA y90 (y90 + 1) y90 y91 [(D66.getD k default).1, (Value.int .i64 (D66.getD k default).2.2)] := hy92
        clear hbsA hdpA
        refine op_load1 (v := (D66.getD k default).1) one27 (ev_base hNA rfl qA_99) (hy92.2.2 0 _ rfl) ?_
        exact obN_end rfl rfl (grown_refl _ _)
       ·
        intro aA wA hNA hRA hbsA hdpA
        have hRA : w85.grownBy wA none := hRA
        have z_wA := hRA.size
        have hr := hr.keep0 hRA
        have hTA := hTA.keepG (Gr.of0 hRA NoB) (fun _ _ h => h)
        have hTB := hTB.keepG (Gr.of0 hRA NoB) (fun _ _ h => h)
        have hO66 := hO66.keep0 hRA
        have hks66 : ∀ x9 ∈ (D66.map pk), Own wA w.heap.size 5 1 x9.1 x9.2.length (x9.2.map u8v) := fun x9 hx9 => (hks66 x9 hx9).keep0 hRA
        have hO71 := hO71.keep0 hRA
        have hks71 : ∀ x9 ∈ (D71.map pk), Own wA w.heap.size 5 1 x9.1 x9.2.length (x9.2.map u8v) := fun x9 hx9 => (hks71 x9 hx9).keep0 hRA
        have hb := below_step0 hb hRA hb.size
        have qA_100 : Sl aA 100 (D66.getD k default).1 := hdpA 4 _ 100 (by kernel_rfl) rfl rfl
        clear hbsA hdpA
        refine op_str_of (bl := (D66.getD k default).2.1) Try.underlying27 Try.underlying5 Try.underlying9 (ev_base hNA rfl qA_100) (show Own _ _ _ _ (D66.getD k default).1 (D66.getD k default).2.1.length ((D66.getD k default).2.1.map u8v) from hks66 (pk (D66.getD k default)) (List.mem_map.2 ⟨(D66.getD k default), (getD_mem (by first | omega | (simp only [List.length_drop, List.length_take]; omega))), rfl⟩)).rdw ?_
        exact obN_end rfl rfl (grown_refl _ _)
       ·
        intro aA wA hNA hRA hbsA hdpA
        have qA_12 := (hbsA 12 rfl).trans (sl_base hN85 rfl s85_12)
        refine op_move (ev_base hNA rfl qA_12) ?_
        exact obN_end rfl rfl (grown_refl _ _)
       ·
        intro aA wA hNA hRA hbsA hdpA
        have qA_13 := (hbsA 13 rfl).trans (sl_base hN85 rfl s85_13)
        refine op_move (ev_base hNA rfl qA_13) ?_
        exact obN_end rfl rfl (grown_refl _ _)
       ·
        intro aA wA hNA hRA hbsA hdpA
        have hRA : w85.grownBy wA none := hRA
        have z_wA := hRA.size
        have hr := hr.keep0 hRA
        have hTA := hTA.keepG (Gr.of0 hRA NoB) (fun _ _ h => h)
        have hTB := hTB.keepG (Gr.of0 hRA NoB) (fun _ _ h => h)
        have hO66 := hO66.keep0 hRA
        have hks66 : ∀ x9 ∈ (D66.map pk), Own wA w.heap.size 5 1 x9.1 x9.2.length (x9.2.map u8v) := fun x9 hx9 => (hks66 x9 hx9).keep0 hRA
        have hO71 := hO71.keep0 hRA
        have hks71 : ∀ x9 ∈ (D71.map pk), Own wA w.heap.size 5 1 x9.1 x9.2.length (x9.2.map u8v) := fun x9 hx9 => (hks71 x9 hx9).keep0 hRA
        have hb := below_step0 hb hRA hb.size
        have qA_102 : Sl aA 102 v71 := hdpA 6 _ 102 (by kernel_rfl) rfl rfl
        have qA_103 : Sl aA 103 (Value.int .i64 ((k : Nat) : Int)) := hdpA 7 _ 103 (by kernel_rfl) rfl rfl
        clear hbsA hdpA
        refine op_index_rd slt48 (ev_base hNA rfl qA_102) hO71.rdw (ev_base hNA rfl qA_103) (by omega) (by omega) ?_
        intro b100 o101 h0b100 h1b100 hc102
        have hp103 : PtC wA b100 (b100 + 1) b100 o101 [(D71.getD k default).1, (Value.int .i64 (D71.getD k default).2.2)] := ⟨by omega, by omega, fun j u hu => hc102 j u (by have := (List.getElem?_eq_some_iff.1 hu).1; simpa using this) ((el_pI (i := k) (by omega) (by first | omega | (simp only [List.length_drop, List.length_take]; omega))) j u hu)⟩
        exact obN_end rfl ⟨b100, o101, rfl, hp103⟩ (grown_refl _ _)
       ·
        intro aA wA hNA hRA hbsA hdpA
        obtain ⟨b94, o95, qA_104, hp97⟩ := hdpA 8 _ 104 (by kernel_rfl) rfl rfl
        have hp97 : PtC wA b94 (b94 + 1) b94 o95 [(D71.getD k default).1, (Value.int .i64 (D71.getD k default).2.2)] := hp97
        refine op_field fld51_0 (ev_base hNA rfl qA_104) ?_
        exact obN_end rfl ⟨b94, o95, rfl, hp97⟩ (grown_refl _ _)
       ·
        intro aA wA hNA hRA hbsA hdpA
        have hRA : w85.grownBy wA none := hRA
        have z_wA := hRA.size
        have hr := hr.keep0 hRA
        have hTA := hTA.keepG (Gr.of0 hRA NoB) (fun _ _ h => h)
        have hTB := hTB.keepG (Gr.of0 hRA NoB) (fun _ _ h => h)
        have hO66 := hO66.keep0 hRA
        have hks66 : ∀ x9 ∈ (D66.map pk), Own wA w.heap.size 5 1 x9.1 x9.2.length (x9.2.map u8v) := fun x9 hx9 => (hks66 x9 hx9).keep0 hRA
        have hO71 := hO71.keep0 hRA
        have hks71 : ∀ x9 ∈ (D71.map pk), Own wA w.heap.size 5 1 x9.1 x9.2.length (x9.2.map u8v) := fun x9 hx9 => (hks71 x9 hx9).keep0 hRA
        have hb := below_step0 hb hRA hb.size
        obtain ⟨y93, y94, qA_105, hy95⟩ := hdpA 9 _ 105 (by kernel_rfl) rfl rfl
        have hy95 : PtC wA y93 (y93 + 1) y93 y94 [(D71.getD k default).1, (Value.int .i64 (D71.getD k default).2.2)] := hy95
        clear hbsA hdpA
        refine op_load1 (v := (D71.getD k default).1) one27 (ev_base hNA rfl qA_105) (hy95.2.2 0 _ rfl) ?_
        exact obN_end rfl rfl (grown_refl _ _)
       ·
        intro aA wA hNA hRA hbsA hdpA
        have hRA : w85.grownBy wA none := hRA
        have z_wA := hRA.size
        have hr := hr.keep0 hRA
        have hTA := hTA.keepG (Gr.of0 hRA NoB) (fun _ _ h => h)
        have hTB := hTB.keepG (Gr.of0 hRA NoB) (fun _ _ h => h)
        have hO66 := hO66.keep0 hRA
        have hks66 : ∀ x9 ∈ (D66.map pk), Own wA w.heap.size 5 1 x9.1 x9.2.length (x9.2.map u8v) := fun x9 hx9 => (hks66 x9 hx9).keep0 hRA
        have hO71 := hO71.keep0 hRA
        have hks71 : ∀ x9 ∈ (D71.map pk), Own wA w.heap.size 5 1 x9.1 x9.2.length (x9.2.map u8v) := fun x9 hx9 => (hks71 x9 hx9).keep0 hRA
        have hb := below_step0 hb hRA hb.size
        have qA_106 : Sl aA 106 (D71.getD k default).1 := hdpA 10 _ 106 (by kernel_rfl) rfl rfl
        clear hbsA hdpA
        refine op_str_of (bl := (D71.getD k default).2.1) Try.underlying27 Try.underlying5 Try.underlying9 (ev_base hNA rfl qA_106) (show Own _ _ _ _ (D71.getD k default).1 (D71.getD k default).2.1.length ((D71.getD k default).2.1.map u8v) from hks71 (pk (D71.getD k default)) (List.mem_map.2 ⟨(D71.getD k default), (getD_mem (by first | omega | (simp only [List.length_drop, List.length_take]; omega))), rfl⟩)).rdw ?_
        exact obN_end rfl rfl (grown_refl _ _)
       ·
        intro a104 w104 hN104 hd104 hbs104 hph104 E104
        have hd104 := hd104.trans hd85
        have s104_5 := (hbs104 5 rfl).trans (sl_base hN85 rfl s85_5)
        have s104_6 := (hbs104 6 rfl).trans (sl_base hN85 rfl s85_6)
        have s104_11 := (hbs104 11 rfl).trans (sl_base hN85 rfl s85_11)
        have s104_12 := (hbs104 12 rfl).trans (sl_base hN85 rfl s85_12)
        have s104_13 := (hbs104 13 rfl).trans (sl_base hN85 rfl s85_13)
        have s104_101 : Sl a104 101 (Value.string (bs (D66.getD k default).2.1)) := hph104 5 _ 101 rfl rfl
        have s104_107 : Sl a104 107 (Value.string (bs (D71.getD k default).2.1)) := hph104 11 _ 107 rfl rfl
        clear hbs104 hph104
        have E104 : w85.grownBy w104 none := E104
        have z_w104 := E104.size
        have hr := hr.keep0 E104
        have hTA := hTA.keepG (Gr.of0 E104 NoB) (fun _ _ h => h)
        have hTB := hTB.keepG (Gr.of0 E104 NoB) (fun _ _ h => h)
        have hO66 := hO66.keep0 E104
        have hks66 : ∀ x9 ∈ (D66.map pk), Own w104 w.heap.size 5 1 x9.1 x9.2.length (x9.2.map u8v) := fun x9 hx9 => (hks66 x9 hx9).keep0 E104
        have hO71 := hO71.keep0 E104
        have hks71 : ∀ x9 ∈ (D71.map pk), Own w104 w.heap.size 5 1 x9.1 x9.2.length (x9.2.map u8v) := fun x9 hx9 => (hks71 x9 hx9).keep0 E104
        have hb := below_step0 hb E104 hb.size
        refine split_end ?_
        refine from_still (m := 26) 14 (hd := [_, _, _, _, _, _, _, _, _, _, _, _, _, _]) (by kernel_rfl) rfl rfl ?_
        by_cases g108 : (D66.getD k default).2.1 ≠ (D71.getD k default).2.1
        · -- 108T
         exact absurd heq g108
        · -- 108F
         refine st_step rfl (fun _ h9 => op_sneqb (b := false) (ev_base hN104 rfl s104_101) (ev_base hN104 rfl s104_107) (decide_eq_false g108) h9) ?_
         refine st_step rfl (fun _ h9 => op_move (ev_hit hN104 rfl) h9) ?_
         refine st_g_true (j := 13) (dj := 109) (b := false) rfl rfl rfl (ev_hit hN104 rfl) ?_
         refine st_step rfl (fun _ h9 => op_move (ev_base hN104 rfl s104_11) h9) ?_
         refine st_g_true (j := 13) (dj := 109) (b := false) rfl rfl rfl (ev_hit hN104 rfl) ?_
         refine st_step rfl (fun _ h9 => op_move (ev_base hN104 rfl s104_13) h9) ?_
         refine st_g_true (j := 13) (dj := 109) (b := false) rfl rfl rfl (ev_hit hN104 rfl) ?_
         refine st_index_rd slt48 (ev_hit hN104 rfl) hO66.rdw (ev_hit hN104 rfl) (by omega) (by omega) ?_
         intro b105 o106 h0b105 h1b105 hc107
         refine st_g_true (j := 13) (dj := 109) (b := false) rfl rfl rfl (ev_hit hN104 rfl) ?_
         refine st_step rfl (fun _ h9 => op_field fld51_1 (ev_hit hN104 rfl) h9) ?_
         refine st_g_true (j := 13) (dj := 109) (b := false) rfl rfl rfl (ev_hit hN104 rfl) ?_
         refine st_step rfl (fun _ h9 => op_load1 (v := (Value.int .i64 (D66.getD k default).2.2)) one3 (ev_hit hN104 rfl) (hc107 1 ((Value.int .i64 (D66.getD k default).2.2)) (by decide) ((el_pI (i := k) (by omega) (by first | omega | (simp only [List.length_drop, List.length_take]; omega))) 1 ((Value.int .i64 (D66.getD k default).2.2)) rfl)) h9) ?_
         refine st_g_true (j := 13) (dj := 109) (b := false) rfl rfl rfl (ev_hit hN104 rfl) ?_
         refine st_step rfl (fun _ h9 => op_move (ev_base hN104 rfl s104_12) h9) ?_
         refine st_g_true (j := 13) (dj := 109) (b := false) rfl rfl rfl (ev_hit hN104 rfl) ?_
         refine st_step rfl (fun _ h9 => op_move (ev_base hN104 rfl s104_13) h9) ?_
         refine st_g_true (j := 13) (dj := 109) (b := false) rfl rfl rfl (ev_hit hN104 rfl) ?_
         refine st_index_rd slt48 (ev_hit hN104 rfl) hO71.rdw (ev_hit hN104 rfl) (by omega) (by omega) ?_
         intro b108 o109 h0b108 h1b108 hc110
         refine st_g_true (j := 13) (dj := 109) (b := false) rfl rfl rfl (ev_hit hN104 rfl) ?_
         refine st_step rfl (fun _ h9 => op_field fld51_1 (ev_hit hN104 rfl) h9) ?_
         refine st_g_true (j := 13) (dj := 109) (b := false) rfl rfl rfl (ev_hit hN104 rfl) ?_
         refine st_step rfl (fun _ h9 => op_load1 (v := (Value.int .i64 (D71.getD k default).2.2)) one3 (ev_hit hN104 rfl) (hc110 1 ((Value.int .i64 (D71.getD k default).2.2)) (by decide) ((el_pI (i := k) (by omega) (by first | omega | (simp only [List.length_drop, List.length_take]; omega))) 1 ((Value.int .i64 (D71.getD k default).2.2)) rfl)) h9) ?_
         refine st_g_true (j := 13) (dj := 109) (b := false) rfl rfl rfl (ev_hit hN104 rfl) ?_
         refine st_step rfl (fun _ h9 => op_cmp (b := (decide ((D66.getD k default).2.2 ≠ (D71.getD k default).2.2))) (ev_hit hN104 rfl) (ev_hit hN104 rfl) (b_neq rfl) h9) ?_
         refine st_step rfl (fun _ h9 => op_pick_f (ev_hit hN104 rfl) (ev_hit hN104 rfl) h9) ?_
         refine st_nil ?_
         refine from_end ?_ rfl
         refine hK89 _ _ ?_
         refine wp_cond_split (ev_hit hN104 rfl) (fun c121 => ?_) (fun c121 => ?_)
         · -- 121T
          have c121 := of_decide_eq_true c121
          exact absurd hev c121
         · -- 121F
          have c121 := of_decide_eq_false c121
          refine wp_skip ?_
          refine hK88 _ _ ?_
          refine one_reg ?_
          refine op_move (ev_base hN104 rfl s104_13) ?_
          refine op_add (ev_hit hN104 rfl) rfl (add64 (by omega)) ?_
          refine op_assign (ev_hit hN104 rfl) ?_
          refine reg_nil ?_
          -- round 18F 22F 34F 82F 88F 93T 108F 121F
          exact loop_next _ hN104 hd104 ⟨(k + 1), rfl, (sl_base hN104 rfl s104_5), (sl_base hN104 rfl s104_6), (sl_base hN104 rfl s104_11), (sl_base hN104 rfl s104_12), (sl_hit hN104 rfl).trans (congrArg (Value.int .i64) (by omega)), (by omega), hb, (by omega), hr, hTA, hTB, hO66, hks66, hO71, hks71⟩ (by omega)
      · -- 93F
       refine reg_nil ?_
       refine hK87 _ _ ?_
       refine wp_cond_false (ev_hit hN85 rfl) ?_
       refine wp_exit (then_exit (then_exit (blk_hit ?_)))
       refine hK83 _ _ ?_
       refine seq_any fun K111 hK111 => ?_
       refine one_reg ?_
       refine op_move (ev_base hN85 rfl s85_5) ?_
       refine op_fn (vs := [(ptr p11 0)]) ok26 ⟨(ev_hit hN85 rfl), trivial⟩ (shapeLs hTA (by omega)) ?_
       rintro _ w112 ⟨E113, rfl⟩
       have E113 := grown_of_below E113
       have z_w112 := E113.size
       have hr := hr.keep0 E113
       have hTA := hTA.keepG (Gr.of0 E113 NoB) (fun _ _ h => h)
       have hTB := hTB.keepG (Gr.of0 E113 NoB) (fun _ _ h => h)
       have hO66 := hO66.keep0 E113
       have hks66 : ∀ x9 ∈ (D66.map pk), Own w112 w.heap.size 5 1 x9.1 x9.2.length (x9.2.map u8v) := fun x9 hx9 => (hks66 x9 hx9).keep0 E113
       have hO71 := hO71.keep0 E113
       have hks71 : ∀ x9 ∈ (D71.map pk), Own w112 w.heap.size 5 1 x9.1 x9.2.length (x9.2.map u8v) := fun x9 hx9 => (hks71 x9 hx9).keep0 E113
       have hb := below_step0 hb E113 hb.size
       refine op_move (ev_hit hN85 rfl) ?_
       refine g_true (j := 2) (dj := 124) (b := true) rfl rfl rfl (ev_hit hN85 rfl) ?_
       refine op_move (ev_base hN85 rfl s85_6) ?_
       refine g_true (j := 2) (dj := 124) (b := true) rfl rfl rfl (ev_hit hN85 rfl) ?_
       refine op_fn (vs := [(ptr p15 0)]) ok26 ⟨(ev_hit hN85 rfl), trivial⟩ (shapeLs hTB (by omega)) ?_
       rintro _ w114 ⟨E115, rfl⟩
       have E115 := grown_of_below E115
       have z_w114 := E115.size
       have hr := hr.keep0 E115
       have hTA := hTA.keepG (Gr.of0 E115 NoB) (fun _ _ h => h)
       have hTB := hTB.keepG (Gr.of0 E115 NoB) (fun _ _ h => h)
       have hO66 := hO66.keep0 E115
       have hks66 : ∀ x9 ∈ (D66.map pk), Own w114 w.heap.size 5 1 x9.1 x9.2.length (x9.2.map u8v) := fun x9 hx9 => (hks66 x9 hx9).keep0 E115
       have hO71 := hO71.keep0 E115
       have hks71 : ∀ x9 ∈ (D71.map pk), Own w114 w.heap.size 5 1 x9.1 x9.2.length (x9.2.map u8v) := fun x9 hx9 => (hks71 x9 hx9).keep0 E115
       have hb := below_step0 hb E115 hb.size
       refine op_pick_t (ev_hit hN85 rfl) (ev_hit hN85 rfl) ?_
       refine op_assign (ev_hit hN85 rfl) ?_
       refine reg_nil ?_
       refine hK111 _ _ ?_
       refine wp_ret ?_
       refine ret1 rfl hd85 (ev_hit hN85 rfl) ⟨_, rfl, ?_⟩
       -- path 18F 22F 34F 82F 88F 93F
       exact ⟨hb, rfl⟩

end Go.Proofs.Ytcpfdfejojghbaa

/- What the arguments of the laws are, told by their types. -/
namespace Go.Proofs.Ytcpfdfejojghbaa
open Go.Gx Go.RowKit
theorem rd_le {w : World} {L B sz n : Nat} {v : Value} {cs : List Value} (h : RdC w L B sz v n cs) : n ≤ 9223372036854775807 := by obtain ⟨_, _, _, _, hq, hm, _⟩ := h; exact Nat.le_trans hq hm
theorem cells37 : Try.prog.cellsOf 37 = 1 := by kernel_rfl
theorem flat_u16v (l : List UInt16) : l.flatMap (fun c => [u16v c]) = l.map u16v := by induction l with | nil => rfl | cons c l ih => simp [ih]
theorem dec33 {H : Type} {enc : TypeId × Value → H} {w : World} {base : Nat} {spare : Nat → Bool} {held : Bool} : Dec enc Try.prog w base spare held 33 (fun p : Value × List UInt16 => [p.1]) (fun p => RdC w 0 w.heap.size 1 p.1 p.2.length (p.2.map u16v)) :=
  (Dec.slice Try.underlying33 (by rw [cells37]; decide) (Dec.u16 Try.underlying37) (fun _ _ => by rw [cells37]; rfl)).map fun p hp => ⟨p, rfl, by have hq := hp.1; rwa [cells37, flat_u16v] at hq⟩
end Go.Proofs.Ytcpfdfejojghbaa
