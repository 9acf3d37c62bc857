/- Walks, written by a program: what each function of the translation hands back. -/
import Derived.Test.YtmhdbphpmgjpcaaProg
import Derived.KernelRfl
import Derived.Test.YtmhdbphpmgjpcaaB4
namespace Go.Proofs.Ytmhdbphpmgjpcaa
open Go.Gx Go.RowKit
attribute [local irreducible] wpList wpStill Code.wp Calls

set_option maxHeartbeats 4000000 in
theorem LockUp_ret (L : List OpT) (aL : List UInt16) (vL vA : Value) (w : World) (hL : L.length ≤ 9223372036854775807) (hsz : ∀ x ∈ L, (opL x).length ≤ 9223372036854775807) (hr : RdC w 0 w.heap.size 6 vL L.length (L.flatMap cellsOp)) (hls : ∀ x9 ∈ L.map opLab, RdC w 0 w.heap.size 1 x9.1 x9.2.length (x9.2.map u16v)) (hrs : ∀ x9 ∈ L.map opRds, RdC w 0 w.heap.size 1 x9.1 x9.2.length (x9.2.map sv)) (hal : aL.length ≤ 9223372036854775807) (hA0 : RdC w 0 w.heap.size 1 vA aL.length (aL.map u16v)) : Ret Try.prog 12 #[vL, vA] w (fun v' w' => Below w.heap.size w w' ∧ v' = .bool true) := by
 have hb := Below.refl w.heap.size w
 refine enter (N := 136) Try.func12 rfl rfl (by simp) fun a0 hN hd hA => ?_
 have s0 : a0.tmps.getD 0 undef = vL := hA 0 (by simp)
 have s1 : a0.tmps.getD 1 undef = vA := hA 1 (by simp)
 clear hA
 refine seq_any fun K1 hK1 => ?_
 refine one_reg ?_
 refine op_assign rfl ?_
 refine reg_nil ?_
 refine hK1 _ _ ?_
 refine seq_any fun K2 hK2 => ?_
 refine seq_any fun K3 hK3 => ?_
 refine one_reg ?_
 refine op_fn (vs := []) ok52 trivial (begun19_ret _) ?_
 rintro _ w4 ⟨E5, rfl⟩
 have E5 := grown_of_below E5
 have z_w4 := E5.size
 have hr := hr.keep0 E5
 have hls : ∀ x9 ∈ (L.map opLab), RdC w4 0 w.heap.size 1 x9.1 x9.2.length (x9.2.map u16v) := fun x9 hx9 => (hls x9 hx9).keep0 E5
 have hrs : ∀ x9 ∈ (L.map opRds), RdC w4 0 w.heap.size 1 x9.1 x9.2.length (x9.2.map sv) := fun x9 hx9 => (hrs x9 hx9).keep0 E5
 have hA0 := hA0.keep0 E5
 have hb := below_step0 hb E5 hb.size
 refine op_not (ev_hit hN rfl) ?_
 refine reg_nil ?_
 refine hK3 _ _ ?_
 refine wp_cond_false (ev_hit hN rfl) ?_
 refine wp_skip ?_
 refine hK2 _ _ ?_
 refine seq_any fun K6 hK6 => ?_
 refine seq_any fun K7 hK7 => ?_
 refine one_reg ?_
 refine op_move (ev_base hN rfl s0) ?_
 refine op_len_rd Try.underlying99 (ev_hit hN rfl) hr ?_
 refine op_gtr (ev_hit hN rfl) rfl (fun c19 => ?_) (fun c19 => ?_)
 · -- 19T
  refine op_move (ev_hit hN rfl) ?_
  refine g_false (j := 3) (dj := 20) (b := false) rfl rfl rfl (ev_hit hN rfl) rfl rfl ?_
  refine g_false (j := 3) (dj := 20) (b := false) rfl rfl rfl (ev_hit hN rfl) rfl rfl ?_
  refine g_false (j := 3) (dj := 20) (b := false) rfl rfl rfl (ev_hit hN rfl) rfl rfl ?_
  refine op_pick_t (ev_hit hN rfl) rfl ?_
  refine reg_nil ?_
  refine hK7 _ _ ?_
  refine wp_cond_true (ev_hit hN rfl) ?_
  refine seq_any fun K8 hK8 => ?_
  refine one_reg ?_
  refine op_assign rfl ?_
  refine reg_nil ?_
  refine hK8 _ _ ?_
  refine wp_ret (then_ret ( ?_))
  refine ret1 rfl hd (ev_hit hN rfl) ⟨_, rfl, ?_⟩
  -- path 19T
  exact ⟨hb, rfl⟩
 · -- 19F
  refine op_move (ev_hit hN rfl) ?_
  refine g_true (j := 3) (dj := 20) (b := false) rfl rfl rfl (ev_hit hN rfl) ?_
  refine op_move (ev_base hN rfl s1) ?_
  refine g_true (j := 3) (dj := 20) (b := false) rfl rfl rfl (ev_hit hN rfl) ?_
  refine op_fn (vs := [vA]) ok33 ⟨(ev_hit hN rfl), trivial⟩ (refMay_ret aL _ _ (by first | assumption | omega | (simp only [List.length_append, List.length_cons, List.length_nil, List.length_drop, List.length_take]; omega) | (dsimp only; omega) | decide | (simp [keyV, be8_len]; done)) (show RdC w4 0 w4.heap.size 1 vA aL.length (aL.map u16v) from by have hh : RdC w4 0 w4.heap.size 1 _ _ _ := (hA0.mono (L' := 0) (B' := w4.heap.size) (Nat.zero_le _) (by omega)); first | exact hh | exact hh.cast (by first | omega | (simp; try omega)) (by first | rfl | simp [u16v]))) ?_
  rintro _ w9 ⟨E10, rfl⟩
  have E10 := grown_of_below E10
  have z_w9 := E10.size
  have hr := hr.keep0 E10
  have hls : ∀ x9 ∈ (L.map opLab), RdC w9 0 w.heap.size 1 x9.1 x9.2.length (x9.2.map u16v) := fun x9 hx9 => (hls x9 hx9).keep0 E10
  have hrs : ∀ x9 ∈ (L.map opRds), RdC w9 0 w.heap.size 1 x9.1 x9.2.length (x9.2.map sv) := fun x9 hx9 => (hrs x9 hx9).keep0 E10
  have hA0 := hA0.keep0 E10
  have hb := below_step0 hb E10 hb.size
  rcases Bool.eq_false_or_eq_true ((mayL aL)) with c22 | c22
  · -- 22T
   rw [c22]
   refine g_true (j := 3) (dj := 20) (b := false) rfl rfl rfl (ev_hit hN rfl) ?_
   refine op_not (ev_hit hN rfl) ?_
   refine op_pick_f (ev_hit hN rfl) (ev_hit hN rfl) ?_
   refine reg_nil ?_
   refine hK7 _ _ ?_
   refine wp_cond_false (ev_hit hN rfl) ?_
   refine wp_skip ?_
   refine hK6 _ _ ?_
   refine seq_any fun K11 hK11 => ?_
   refine one_reg ?_
   have ha8 := mayL_len c22
   refine op_fn (vs := []) ok53 trivial (lockNewR) ?_
   rintro _ w13 ⟨E14, k12, F12, rfl, hl12⟩
   have lo_F12 : ∀ x, F12 x → w9.heap.size ≤ x := fun x hx => (hl12.lt x hx).1
   have E14 := grown_of_below E14
   have z_w13 := E14.size
   have hr := hr.keep0 E14
   have hls : ∀ x9 ∈ (L.map opLab), RdC w13 0 w.heap.size 1 x9.1 x9.2.length (x9.2.map u16v) := fun x9 hx9 => (hls x9 hx9).keep0 E14
   have hrs : ∀ x9 ∈ (L.map opRds), RdC w13 0 w.heap.size 1 x9.1 x9.2.length (x9.2.map sv) := fun x9 hx9 => (hrs x9 hx9).keep0 E14
   have hA0 := hA0.keep0 E14
   have hb := below_step0 hb E14 hb.size
   have hl12 : LocksR w13 w.heap.size k12 ([] : TM) F12 := hl12.mono (by omega)
   refine op_fn (vs := []) ok53 trivial (lockNewR) ?_
   rintro _ w16 ⟨E17, k15, F15, rfl, hl15⟩
   have lo_F15 : ∀ x, F15 x → w13.heap.size ≤ x := fun x hx => (hl15.lt x hx).1
   have dj18 : Dj F12 F15 := Dj.fresh (fun k hk => (hl12.lt k hk).2) lo_F15
   have E17 := grown_of_below E17
   have z_w16 := E17.size
   have hr := hr.keep0 E17
   have hls : ∀ x9 ∈ (L.map opLab), RdC w16 0 w.heap.size 1 x9.1 x9.2.length (x9.2.map u16v) := fun x9 hx9 => (hls x9 hx9).keep0 E17
   have hrs : ∀ x9 ∈ (L.map opRds), RdC w16 0 w.heap.size 1 x9.1 x9.2.length (x9.2.map sv) := fun x9 hx9 => (hrs x9 hx9).keep0 E17
   have hA0 := hA0.keep0 E17
   have hl12 := hl12.keepG (Gr.of0 E17 NoB) (fun _ _ h => h)
   have hb := below_step0 hb E17 hb.size
   have hl15 : LocksR w16 w.heap.size k15 ([] : TM) F15 := hl15.mono (by omega)
   refine op_assign (ev_hit hN rfl) ?_
   refine op_assign (ev_hit hN rfl) ?_
   refine reg_nil ?_
   refine hK11 _ _ ?_
   refine seq_any fun K19 hK19 => ?_
   refine one_reg ?_
   refine op_alloc (cs := [(Value.slice none 0 0), (Value.slice none 0 0), (Value.slice none 0 0), (Value.slice none 0 0), (Value.slice none 0 0), (Value.slice none 0 0), (Value.slice none 0 0), (Value.slice none 0 0), (Value.slice none 0 0), (Value.slice none 0 0), (Value.slice none 0 0), (Value.slice none 0 0), (Value.slice none 0 0), (Value.slice none 0 0), (Value.slice none 0 0), (Value.slice none 0 0)]) zero107 rfl ?_
   intro w20 b21 lo_b21 hi_b21 hB23 E22
   have dj24 : ¬ F12 b21 := fun hf => by have := (hl12.lt _ hf).2; omega
   have dj25 : ¬ F15 b21 := fun hf => by have := (hl15.lt _ hf).2; omega
   have z_w20 := E22.size
   have hr := hr.keep0 E22
   have hls : ∀ x9 ∈ (L.map opLab), RdC w20 0 w.heap.size 1 x9.1 x9.2.length (x9.2.map u16v) := fun x9 hx9 => (hls x9 hx9).keep0 E22
   have hrs : ∀ x9 ∈ (L.map opRds), RdC w20 0 w.heap.size 1 x9.1 x9.2.length (x9.2.map sv) := fun x9 hx9 => (hrs x9 hx9).keep0 E22
   have hA0 := hA0.keep0 E22
   have hl12 := hl12.keepG (Gr.of0 E22 NoB) (fun _ _ h => h)
   have hl15 := hl15.keepG (Gr.of0 E22 NoB) (fun _ _ h => h)
   have hb := below_step0 hb E22 hb.size
   refine reg_nil ?_
   refine hK19 _ _ ?_
   refine seq_any fun K26 hK26 => ?_
   refine one_reg ?_
   refine op_alloc (cs := [(Value.bool false), (Value.bool false), (Value.bool false), (Value.bool false), (Value.bool false), (Value.bool false), (Value.bool false), (Value.bool false), (Value.bool false), (Value.bool false), (Value.bool false), (Value.bool false), (Value.bool false), (Value.bool false), (Value.bool false), (Value.bool false)]) zero108 rfl ?_
   intro w27 b28 lo_b28 hi_b28 hB30 E29
   have dj31 : ¬ F12 b28 := fun hf => by have := (hl12.lt _ hf).2; omega
   have dj32 : ¬ F15 b28 := fun hf => by have := (hl15.lt _ hf).2; omega
   have z_w27 := E29.size
   have hr := hr.keep0 E29
   have hls : ∀ x9 ∈ (L.map opLab), RdC w27 0 w.heap.size 1 x9.1 x9.2.length (x9.2.map u16v) := fun x9 hx9 => (hls x9 hx9).keep0 E29
   have hrs : ∀ x9 ∈ (L.map opRds), RdC w27 0 w.heap.size 1 x9.1 x9.2.length (x9.2.map sv) := fun x9 hx9 => (hrs x9 hx9).keep0 E29
   have hA0 := hA0.keep0 E29
   have hl12 := hl12.keepG (Gr.of0 E29 NoB) (fun _ _ h => h)
   have hl15 := hl15.keepG (Gr.of0 E29 NoB) (fun _ _ h => h)
   have hB23 := hB23.keep0 E29
   have hb := below_step0 hb E29 hb.size
   refine reg_nil ?_
   refine hK26 _ _ ?_
   refine seq_any fun K33 hK33 => ?_
   refine seq_any fun K34 hK34 => ?_
   refine one_reg ?_
   refine op_assign rfl ?_
   refine reg_nil ?_
   refine hK34 _ _ ?_
   refine wp_block ?_
   refine loop_m (fun mz_ az_ w' => ∃ (i : Nat) (A B : TM) (IN : List Bool) (NOW : List LbU) (FA FB : Nat → Prop), mz_ = L.length - i ∧ (az_.tmps.getD 0 undef = vL) ∧ (az_.tmps.getD 1 undef = vA) ∧ (az_.tmps.getD 5 undef = (ptr k12 0)) ∧ (az_.tmps.getD 6 undef = (ptr k15 0)) ∧ (az_.tmps.getD 7 undef = (ptr b21 0)) ∧ (az_.tmps.getD 8 undef = (ptr b28 0)) ∧ (az_.tmps.getD 9 undef = (Value.int .i64 ((i : Nat) : Int))) ∧ (i ≤ L.length) ∧ (UInv aL A B IN NOW (3 * i)) ∧ (Dj FA FB) ∧ (¬ FA b28) ∧ (¬ FB b28) ∧ (¬ FA b21) ∧ (¬ FB b21) ∧ (Below w.heap.size w w') ∧ (w27.heap.size ≤ w'.heap.size) ∧ (RdC w' 0 w.heap.size 6 vL L.length (L.flatMap cellsOp)) ∧ (∀ x9 ∈ (L.map opLab), RdC w' 0 w.heap.size 1 x9.1 x9.2.length (x9.2.map u16v)) ∧ (∀ x9 ∈ (L.map opRds), RdC w' 0 w.heap.size 1 x9.1 x9.2.length (x9.2.map sv)) ∧ (RdC w' 0 w.heap.size 1 vA aL.length (aL.map u16v)) ∧ (LocksR w' w.heap.size k12 A FA) ∧ (LocksR w' w.heap.size k15 B FB) ∧ (Bx w' b28 108 ((IN.map Value.bool))) ∧ (Bx w' b21 107 ((NOW.map Prod.fst))) ∧ (∀ x9 ∈ NOW, RdC w' 0 w.heap.size 1 x9.1 x9.2.length (x9.2.map u16v))) _ hN hd ⟨0, [], [], (List.replicate 16 false), (List.replicate 16 DU), F12, F15, rfl, (sl_base hN rfl s0), (sl_base hN rfl s1), (sl_hit hN rfl), (sl_hit hN rfl), (sl_hit hN rfl), (sl_hit hN rfl), (sl_hit hN rfl), (Nat.zero_le _), UInv.start, dj18, dj31, dj32, dj24, dj25, hb, (Nat.le_refl _), hr, hls, hrs, hA0, hl12, hl15, hB30, hB23, (rall_du _)⟩ ?_
   rintro _ a35 w35 hN35 hd35 ⟨i, A, B, IN, NOW, FA, FB, rfl, s35_0, s35_1, s35_5, s35_6, s35_7, s35_8, s35_9, hi, hU, hdj, djb28FA, djb28FB, djb21FA, djb21FB, hb, zl_w35, hr, hls, hrs, hA0, hA, hB, hIN, hNO, hNw⟩
   have z_w35 := hb.size
   refine seq_any fun K36 hK36 => ?_
   refine seq_any fun K37 hK37 => ?_
   refine one_reg ?_
   refine op_move (ev_base hN35 rfl s35_9) ?_
   refine op_move (ev_base hN35 rfl s35_0) ?_
   refine op_len_rd Try.underlying99 (ev_hit hN35 rfl) hr ?_
   refine op_lss (ev_hit hN35 rfl) (ev_hit hN35 rfl) (fun c30 => ?_) (fun c30 => ?_)
   · -- 30T
    refine reg_nil ?_
    refine hK37 _ _ ?_
    refine wp_cond_true (ev_hit hN35 rfl) ?_
    refine wp_skip ?_
    refine hK36 _ _ ?_
    refine seq_any fun K38 hK38 => ?_
    refine wp_block ?_
    refine seq_any fun K39 hK39 => ?_
    refine one_reg ?_
    have hLi : RdC w35 0 w.heap.size 1 (opLv (L.getD i dOp)) (opL (L.getD i dOp)).length ((opL (L.getD i dOp)).map u16v) := hls _ (List.mem_map.2 ⟨_, getD_mem (d := dOp) (show i < L.length by omega), rfl⟩)
    have hRi : RdC w35 0 w.heap.size 1 (opRv (L.getD i dOp)) (opR (L.getD i dOp)).length ((opR (L.getD i dOp)).map sv) := hrs _ (List.mem_map.2 ⟨_, getD_mem (d := dOp) (show i < L.length by omega), rfl⟩)
    have hsi := hsz _ (getD_mem (d := dOp) (show i < L.length by omega))
    refine op_move (ev_base hN35 rfl s35_0) ?_
    refine op_move (ev_base hN35 rfl s35_9) ?_
    refine op_index_rd slt99 (ev_hit hN35 rfl) hr (ev_hit hN35 rfl) (by omega) (by omega) ?_
    intro b40 o41 h0b40 h1b40 hc42
    refine op_loadA (cs := [(Value.int .i64 (opK (L.getD i dOp))), (Value.int .i64 (opN (L.getD i dOp))), (opLv (L.getD i dOp)), (Value.int .u64 ((opS (L.getD i dOp)).toNat : Int)), (opRv (L.getD i dOp)), (Value.string (bs (opW (L.getD i dOp))))]) agg103 rfl (ev_hit hN35 rfl) (fun j u hu => hc42 j u (by have := (List.getElem?_eq_some_iff.1 hu).1; simpa using this) ((el_op (i := i) (by omega) (by omega)) j u hu)) ?_
    refine op_alloc (cs := [(Value.int .i64 0), (Value.int .i64 0), (Value.slice none 0 0), (Value.int .u64 0), (Value.slice none 0 0), (Value.string (bs []))]) zero103 rfl ?_
    intro w43 b44 lo_b44 hi_b44 hB46 E45
    have dj47 : ¬ FA b44 := fun hf => by have := (hA.lt _ hf).2; omega
    have dj48 : ¬ FB b44 := fun hf => by have := (hB.lt _ hf).2; omega
    have z_w43 := E45.size
    have hr := hr.keep0 E45
    have hls : ∀ x9 ∈ (L.map opLab), RdC w43 0 w.heap.size 1 x9.1 x9.2.length (x9.2.map u16v) := fun x9 hx9 => (hls x9 hx9).keep0 E45
    have hrs : ∀ x9 ∈ (L.map opRds), RdC w43 0 w.heap.size 1 x9.1 x9.2.length (x9.2.map sv) := fun x9 hx9 => (hrs x9 hx9).keep0 E45
    have hA0 := hA0.keep0 E45
    have hA := hA.keepG (Gr.of0 E45 NoB) (fun _ _ h => h)
    have hB := hB.keepG (Gr.of0 E45 NoB) (fun _ _ h => h)
    have hIN := hIN.keep0 E45
    have hNO := hNO.keep0 E45
    have hNw : ∀ x9 ∈ NOW, RdC w43 0 w.heap.size 1 x9.1 x9.2.length (x9.2.map u16v) := fun x9 hx9 => (hNw x9 hx9).keep0 E45
    have hLi := hLi.keep0 E45
    have hRi := hRi.keep0 E45
    have hb := below_step0 hb E45 hb.size
    have hB46_old := hB46
    refine op_store (vs := [(Value.int .i64 (opK (L.getD i dOp))), (Value.int .i64 (opN (L.getD i dOp))), (opLv (L.getD i dOp)), (Value.int .u64 ((opS (L.getD i dOp)).toNat : Int)), (opRv (L.getD i dOp)), (Value.string (bs (opW (L.getD i dOp))))]) (cs' := [(Value.int .i64 (opK (L.getD i dOp))), (Value.int .i64 (opN (L.getD i dOp))), (opLv (L.getD i dOp)), (Value.int .u64 ((opS (L.getD i dOp)).toNat : Int)), (opRv (L.getD i dOp)), (Value.string (bs (opW (L.getD i dOp))))]) size103 (ev_hit hN35 rfl) (ev_hit hN35 rfl) rfl rfl (by simp only [List.all_cons, List.all_nil, Bool.true_and, Bool.and_true, hLi.one, hRi.one]; try rfl) hB46 (Nat.le_of_ble_eq_true rfl) rfl ?_
    intro w51 hB46 E52
    have z_w51 := E52.size
    have hr := hr.keep E52 (fun k hk => .inr (by simp at hk; omega))
    have hls : ∀ x9 ∈ (L.map opLab), RdC w51 0 w.heap.size 1 x9.1 x9.2.length (x9.2.map u16v) := fun x9 hx9 => (hls x9 hx9).keep E52 (fun k hk => .inr (by simp at hk; omega))
    have hrs : ∀ x9 ∈ (L.map opRds), RdC w51 0 w.heap.size 1 x9.1 x9.2.length (x9.2.map sv) := fun x9 hx9 => (hrs x9 hx9).keep E52 (fun k hk => .inr (by simp at hk; omega))
    have hA0 := hA0.keep E52 (fun k hk => .inr (by simp at hk; omega))
    have hA := hA.keepG (Gr.of E52) (Dj.one dj47)
    have hB := hB.keepG (Gr.of E52) (Dj.one dj48)
    have hIN := hIN.keep E52 (fun hh => hIN.ne hB46_old (by decide) (Option.some.inj hh))
    have hNO := hNO.keep E52 (fun hh => hNO.ne hB46_old (by decide) (Option.some.inj hh))
    have hNw : ∀ x9 ∈ NOW, RdC w51 0 w.heap.size 1 x9.1 x9.2.length (x9.2.map u16v) := fun x9 hx9 => (hNw x9 hx9).keep E52 (fun k hk => .inr (by simp at hk; omega))
    have hLi := hLi.keep E52 (fun k hk => .inr (by simp at hk; omega))
    have hRi := hRi.keep E52 (fun k hk => .inr (by simp at hk; omega))
    have hb := below_step1 hb E52 hb.size (by omega)
    refine reg_nil ?_
    refine hK39 _ _ ?_
    refine seq_any fun K53 hK53 => ?_
    refine seq_any fun K54 hK54 => ?_
    refine one_reg ?_
    refine op_loadA (cs := [(Value.int .i64 (opK (L.getD i dOp))), (Value.int .i64 (opN (L.getD i dOp))), (opLv (L.getD i dOp)), (Value.int .u64 ((opS (L.getD i dOp)).toNat : Int)), (opRv (L.getD i dOp)), (Value.string (bs (opW (L.getD i dOp))))]) agg103 rfl (ev_hit hN35 rfl) (fun j u hu => by rw [Nat.zero_add]; exact hB46.cell hu) ?_
    refine op_fn (vs := [(Value.agg #[(Value.int .i64 (opK (L.getD i dOp))), (Value.int .i64 (opN (L.getD i dOp))), (opLv (L.getD i dOp)), (Value.int .u64 ((opS (L.getD i dOp)).toNat : Int)), (opRv (L.getD i dOp)), (Value.string (bs (opW (L.getD i dOp))))])]) ok56 ⟨(ev_hit hN35 rfl), trivial⟩ (light_ret (L.getD i dOp) _ (by omega) (hLi.mono (Nat.zero_le _) (by omega)) (hRi.mono (Nat.zero_le _) (by omega))) ?_
    rintro _ w55 ⟨E56, rfl⟩
    have E56 := grown_of_below E56
    have z_w55 := E56.size
    have hr := hr.keep0 E56
    have hls : ∀ x9 ∈ (L.map opLab), RdC w55 0 w.heap.size 1 x9.1 x9.2.length (x9.2.map u16v) := fun x9 hx9 => (hls x9 hx9).keep0 E56
    have hrs : ∀ x9 ∈ (L.map opRds), RdC w55 0 w.heap.size 1 x9.1 x9.2.length (x9.2.map sv) := fun x9 hx9 => (hrs x9 hx9).keep0 E56
    have hA0 := hA0.keep0 E56
    have hA := hA.keepG (Gr.of0 E56 NoB) (fun _ _ h => h)
    have hB := hB.keepG (Gr.of0 E56 NoB) (fun _ _ h => h)
    have hIN := hIN.keep0 E56
    have hNO := hNO.keep0 E56
    have hNw : ∀ x9 ∈ NOW, RdC w55 0 w.heap.size 1 x9.1 x9.2.length (x9.2.map u16v) := fun x9 hx9 => (hNw x9 hx9).keep0 E56
    have hLi := hLi.keep0 E56
    have hRi := hRi.keep0 E56
    have hB46 := hB46.keep0 E56
    have hb := below_step0 hb E56 hb.size
    rcases Bool.eq_false_or_eq_true ((lightB (L.getD i dOp))) with c38 | c38
    · -- 38T
     rw [c38]
     refine op_not (ev_hit hN35 rfl) ?_
     refine reg_nil ?_
     refine hK54 _ _ ?_
     refine wp_cond_false (ev_hit hN35 rfl) ?_
     refine wp_skip ?_
     refine hK53 _ _ ?_
     refine seq_any fun K57 hK57 => ?_
     refine one_reg ?_
     have htm := tmod_lt (n := opN (L.getD i dOp)) (k := 16) (by decide)
     have hkm := tmod_lt (n := opK (L.getD i dOp)) (k := 11) (by decide)
     have hlg := lightB_ok c38
     have hl8 := mayL_len hlg.1
     have ht16 : (tix 16 (opN (L.getD i dOp))) < 16 := tix_lt (by decide) _
     have hk11 : (tix 11 (opK (L.getD i dOp))) < 11 := tix_lt (by decide) _
     have hI16 := hU.1
     have hS16 := hU.2.1
     refine op_field fld103_1 (ev_hit hN35 rfl) ?_
     refine op_load1 (v := (Value.int .i64 (opN (L.getD i dOp)))) one3 (ev_hit hN35 rfl) (hB46.cell rfl) ?_
     refine op_rem (r := (Int.tmod (opN (L.getD i dOp)) 16)) (ev_hit hN35 rfl) rfl (by decide) rfl ?_
     refine op_add (ev_hit hN35 rfl) rfl (add64 (by omega)) ?_
     refine op_rem (r := (((tix 16 (opN (L.getD i dOp))) : Nat) : Int)) (ev_hit hN35 rfl) rfl (by decide) (tix_eq (by decide) _) ?_
     refine op_field fld103_1 (ev_hit hN35 rfl) ?_
     have hB46_old := hB46
     refine op_store (vs := [(Value.int .i64 (((tix 16 (opN (L.getD i dOp))) : Nat) : Int))]) (cs' := [(Value.int .i64 (opK (L.getD i dOp))), (Value.int .i64 (((tix 16 (opN (L.getD i dOp))) : Nat) : Int)), (opLv (L.getD i dOp)), (Value.int .u64 ((opS (L.getD i dOp)).toNat : Int)), (opRv (L.getD i dOp)), (Value.string (bs (opW (L.getD i dOp))))]) size3 (ev_hit hN35 rfl) (ev_hit hN35 rfl) rfl rfl rfl hB46 (Nat.le_of_ble_eq_true rfl) rfl ?_
     intro w60 hB46 E61
     have z_w60 := E61.size
     have hr := hr.keep E61 (fun k hk => .inr (by simp at hk; omega))
     have hls : ∀ x9 ∈ (L.map opLab), RdC w60 0 w.heap.size 1 x9.1 x9.2.length (x9.2.map u16v) := fun x9 hx9 => (hls x9 hx9).keep E61 (fun k hk => .inr (by simp at hk; omega))
     have hrs : ∀ x9 ∈ (L.map opRds), RdC w60 0 w.heap.size 1 x9.1 x9.2.length (x9.2.map sv) := fun x9 hx9 => (hrs x9 hx9).keep E61 (fun k hk => .inr (by simp at hk; omega))
     have hA0 := hA0.keep E61 (fun k hk => .inr (by simp at hk; omega))
     have hA := hA.keepG (Gr.of E61) (Dj.one dj47)
     have hB := hB.keepG (Gr.of E61) (Dj.one dj48)
     have hIN := hIN.keep E61 (fun hh => hIN.ne hB46_old (by decide) (Option.some.inj hh))
     have hNO := hNO.keep E61 (fun hh => hNO.ne hB46_old (by decide) (Option.some.inj hh))
     have hNw : ∀ x9 ∈ NOW, RdC w60 0 w.heap.size 1 x9.1 x9.2.length (x9.2.map u16v) := fun x9 hx9 => (hNw x9 hx9).keep E61 (fun k hk => .inr (by simp at hk; omega))
     have hLi := hLi.keep E61 (fun k hk => .inr (by simp at hk; omega))
     have hRi := hRi.keep E61 (fun k hk => .inr (by simp at hk; omega))
     have hb := below_step1 hb E61 hb.size (by omega)
     refine reg_nil ?_
     refine hK57 _ _ ?_
     refine seq_any fun K62 hK62 => ?_
     refine one_reg ?_
     refine op_field fld103_1 (ev_hit hN35 rfl) ?_
     refine op_load1 (v := (Value.int .i64 (((tix 16 (opN (L.getD i dOp))) : Nat) : Int))) one3 (ev_hit hN35 rfl) (hB46.cell rfl) ?_
     refine op_assign (ev_hit hN35 rfl) ?_
     refine reg_nil ?_
     refine hK62 _ _ ?_
     refine seq_any fun K63 hK63 => ?_
     refine one_reg ?_
     refine op_field fld103_0 (ev_hit hN35 rfl) ?_
     refine op_load1 (v := (Value.int .i64 (opK (L.getD i dOp)))) one3 (ev_hit hN35 rfl) (hB46.cell rfl) ?_
     refine op_rem (r := (Int.tmod (opK (L.getD i dOp)) 11)) (ev_hit hN35 rfl) rfl (by decide) rfl ?_
     refine op_add (ev_hit hN35 rfl) rfl (add64 (by omega)) ?_
     refine op_rem (r := (((tix 11 (opK (L.getD i dOp))) : Nat) : Int)) (ev_hit hN35 rfl) rfl (by decide) (tix_eq (by decide) _) ?_
     refine op_assign (ev_hit hN35 rfl) ?_
     refine reg_nil ?_
     refine hK63 _ _ ?_
     refine seq_any fun K64 hK64 => ?_
     refine seq_any fun K65 hK65 => ?_
     refine one_reg ?_
     refine op_move (ev_hit hN35 rfl) ?_
     refine op_lss (ev_hit hN35 rfl) rfl (fun c54 => ?_) (fun c54 => ?_)
     · -- 54T
      refine op_move (ev_hit hN35 rfl) ?_
      refine g_true (j := 2) (dj := 55) (b := true) rfl rfl rfl (ev_hit hN35 rfl) ?_
      refine op_move (ev_hit hN35 rfl) ?_
      refine g_true (j := 2) (dj := 55) (b := true) rfl rfl rfl (ev_hit hN35 rfl) ?_
      refine op_index_arr1 (j := (tix 16 (opN (L.getD i dOp)))) arr108 (ev_base hN35 rfl s35_8) (ev_hit hN35 rfl) (by omega) (by omega) ?_
      refine g_true (j := 2) (dj := 55) (b := true) rfl rfl rfl (ev_hit hN35 rfl) ?_
      refine op_load1 (v := (Value.bool (IN.getD (tix 16 (opN (L.getD i dOp))) false))) one4 (ev_hit hN35 rfl) (hIN.cell (row_at (d := false) (by first | omega | (simp only [List.length_set]; omega)))) ?_
      refine g_true (j := 2) (dj := 55) (b := true) rfl rfl rfl (ev_hit hN35 rfl) ?_
      refine op_not (ev_hit hN35 rfl) ?_
      refine op_pick_t (ev_hit hN35 rfl) (ev_hit hN35 rfl) ?_
      refine reg_nil ?_
      refine hK65 _ _ ?_
      refine wp_cond_split (ev_hit hN35 rfl) (fun c60 => ?_) (fun c60 => ?_)
      · -- 60T
       refine reg_split (hd := [_, _, _, _, _, _]) (tl := _) 6 mixed (by kernel_rfl) rfl rfl ?_
       refine any_env (φ := phiV [(fun uz => uz = (Value.int .i64 (((tix 16 (opN (L.getD i dOp))) : Nat) : Int))), (fun uz => uz = (Value.int .i64 (((tix 16 (opN (L.getD i dOp))) : Nat) : Int))), (fun uz => uz = (ptr b44 2)), (fun uz => uz = (opLv (L.getD i dOp))), (fun uz => uz = (ptr b28 (tix 16 (opN (L.getD i dOp))))), (fun _ => True)]) (G := fun w' => Bx w' b44 103 [(Value.int .i64 (opK (L.getD i dOp))), (Value.int .i64 (((tix 16 (opN (L.getD i dOp))) : Nat) : Int)), (opLv (L.getD i dOp)), (Value.int .u64 ((opS (L.getD i dOp)).toNat : Int)), (opRv (L.getD i dOp)), (Value.string (bs (opW (L.getD i dOp))))]) [5] (by kernel_rfl) (by kernel_rfl) (by kernel_rfl) (by kernel_rfl) hN35 (fun w1 w2 E h => h.keep0 E) hB46 (ObEs.cons ?_ (ObEs.cons ?_ (ObEs.cons ?_ (ObEs.cons ?_ (ObEs.cons ?_ (ObEs.pass rfl (ObEs.nil))))))) (by simp only [putsL_defers]) ?_
       ·
        intro eA aA wA hNA hGA hbsA hdpA
        have qA_11 := (hbsA 11 rfl).trans (sl_hit hN35 rfl)
        refine op_move (ev_base hNA rfl qA_11) ?_
        exact obE_end rfl rfl rfl
       ·
        intro eA aA wA hNA hGA hbsA hdpA
        have qA_11 := (hbsA 11 rfl).trans (sl_hit hN35 rfl)
        refine op_move (ev_base hNA rfl qA_11) ?_
        exact obE_end rfl rfl rfl
       ·
        intro eA aA wA hNA hGA hbsA hdpA
        have qA_10 := (hbsA 10 rfl).trans (sl_hit hN35 rfl)
        refine op_field fld103_2 (ev_base hNA rfl qA_10) ?_
        exact obE_end rfl rfl rfl
       ·
        intro eA aA wA hNA hGA hbsA hdpA
        have qA_63 : Sl aA 63 (ptr b44 2) := (hdpA 2 _ 63 (by kernel_rfl) rfl rfl).2 rfl
        refine op_load1 (v := (opLv (L.getD i dOp))) one54 (ev_base hNA rfl qA_63) (hGA.cell rfl) ?_
        exact obE_end rfl rfl rfl
       ·
        intro eA aA wA hNA hGA hbsA hdpA
        have qA_8 := (hbsA 8 rfl).trans (sl_base hN35 rfl s35_8)
        have qA_61 : Sl aA 61 (Value.int .i64 (((tix 16 (opN (L.getD i dOp))) : Nat) : Int)) := (hdpA 0 _ 61 (by kernel_rfl) rfl rfl).2 rfl
        refine op_index_arr1 (j := (tix 16 (opN (L.getD i dOp)))) arr108 (ev_base hNA rfl qA_8) (ev_base hNA rfl qA_61) (by omega) (by omega) ?_
        exact obE_end rfl rfl rfl
       ·
        intro w66 E66 _ a66 hN66 hbs66 hdp66 o_ ho_; obtain rfl := Option.some.inj ho_
        have z_w66 := E66.size
        have hr := hr.keep0 E66
        have hls : ∀ x9 ∈ (L.map opLab), RdC w66 0 w.heap.size 1 x9.1 x9.2.length (x9.2.map u16v) := fun x9 hx9 => (hls x9 hx9).keep0 E66
        have hrs : ∀ x9 ∈ (L.map opRds), RdC w66 0 w.heap.size 1 x9.1 x9.2.length (x9.2.map sv) := fun x9 hx9 => (hrs x9 hx9).keep0 E66
        have hA0 := hA0.keep0 E66
        have hA := hA.keepG (Gr.of0 E66 NoB) (fun _ _ h => h)
        have hB := hB.keepG (Gr.of0 E66 NoB) (fun _ _ h => h)
        have hIN := hIN.keep0 E66
        have hNO := hNO.keep0 E66
        have hNw : ∀ x9 ∈ NOW, RdC w66 0 w.heap.size 1 x9.1 x9.2.length (x9.2.map u16v) := fun x9 hx9 => (hNw x9 hx9).keep0 E66
        have hLi := hLi.keep0 E66
        have hRi := hRi.keep0 E66
        have hB46 := hB46.keep0 E66
        have hb := below_step0 hb E66 hb.size
        have q66_65 : Sl a66 65 (ptr b28 (tix 16 (opN (L.getD i dOp)))) := (hdp66 4 _ 65 (by kernel_rfl) rfl rfl).2 rfl
        have hIN_old := hIN
        refine op_store_row (v := (Value.bool true)) size4 (ev_base hN66 rfl q66_65) rfl rfl rfl hIN (by rw [List.length_map]; omega) ?_
        intro w67 hIN E68
        have z_w67 := E68.size
        have hr := hr.keep E68 (fun k hk => .inr (by simp at hk; omega))
        have hls : ∀ x9 ∈ (L.map opLab), RdC w67 0 w.heap.size 1 x9.1 x9.2.length (x9.2.map u16v) := fun x9 hx9 => (hls x9 hx9).keep E68 (fun k hk => .inr (by simp at hk; omega))
        have hrs : ∀ x9 ∈ (L.map opRds), RdC w67 0 w.heap.size 1 x9.1 x9.2.length (x9.2.map sv) := fun x9 hx9 => (hrs x9 hx9).keep E68 (fun k hk => .inr (by simp at hk; omega))
        have hA0 := hA0.keep E68 (fun k hk => .inr (by simp at hk; omega))
        have hA := hA.keepG (Gr.of E68) (Dj.one djb28FA)
        have hB := hB.keepG (Gr.of E68) (Dj.one djb28FB)
        have hNO := hNO.keep E68 (fun hh => hNO.ne hIN_old (by decide) (Option.some.inj hh))
        have hNw : ∀ x9 ∈ NOW, RdC w67 0 w.heap.size 1 x9.1 x9.2.length (x9.2.map u16v) := fun x9 hx9 => (hNw x9 hx9).keep E68 (fun k hk => .inr (by simp at hk; omega))
        have hLi := hLi.keep E68 (fun k hk => .inr (by simp at hk; omega))
        have hRi := hRi.keep E68 (fun k hk => .inr (by simp at hk; omega))
        have hB46 := hB46.keep E68 (fun hh => hB46.ne hIN_old (by decide) (Option.some.inj hh))
        have hb := below_step1 hb E68 hb.size (by omega)
        have hIN : Bx w67 b28 108 (((IN.set (tix 16 (opN (L.getD i dOp))) true).map Value.bool)) := row_set hIN
        refine ke_end0 rfl hB46 ?_
        intro w69 E69 a69 hN69 hd69 hbs69 hph69
        have hd69 := hd69.trans ((by simp only [putsL_defers] : _ = _).trans hd35)
        have z_w69 := E69.size
        have hr := hr.keep0 E69
        have hls : ∀ x9 ∈ (L.map opLab), RdC w69 0 w.heap.size 1 x9.1 x9.2.length (x9.2.map u16v) := fun x9 hx9 => (hls x9 hx9).keep0 E69
        have hrs : ∀ x9 ∈ (L.map opRds), RdC w69 0 w.heap.size 1 x9.1 x9.2.length (x9.2.map sv) := fun x9 hx9 => (hrs x9 hx9).keep0 E69
        have hA0 := hA0.keep0 E69
        have hA := hA.keepG (Gr.of0 E69 NoB) (fun _ _ h => h)
        have hB := hB.keepG (Gr.of0 E69 NoB) (fun _ _ h => h)
        have hNO := hNO.keep0 E69
        have hNw : ∀ x9 ∈ NOW, RdC w69 0 w.heap.size 1 x9.1 x9.2.length (x9.2.map u16v) := fun x9 hx9 => (hNw x9 hx9).keep0 E69
        have hLi := hLi.keep0 E69
        have hRi := hRi.keep0 E69
        have hB46 := hB46.keep0 E69
        have hIN := hIN.keep0 E69
        have hb := below_step0 hb E69 hb.size
        have s69_0 := (hbs69 0 rfl).trans (sl_base hN35 rfl s35_0)
        have s69_1 := (hbs69 1 rfl).trans (sl_base hN35 rfl s35_1)
        have s69_5 := (hbs69 5 rfl).trans (sl_base hN35 rfl s35_5)
        have s69_6 := (hbs69 6 rfl).trans (sl_base hN35 rfl s35_6)
        have s69_7 := (hbs69 7 rfl).trans (sl_base hN35 rfl s35_7)
        have s69_8 := (hbs69 8 rfl).trans (sl_base hN35 rfl s35_8)
        have s69_9 := (hbs69 9 rfl).trans (sl_base hN35 rfl s35_9)
        have s69_10 := (hbs69 10 rfl).trans (sl_hit hN35 rfl)
        have s69_11 := (hbs69 11 rfl).trans (sl_hit hN35 rfl)
        have s69_12 := (hbs69 12 rfl).trans (sl_hit hN35 rfl)
        have s69_62 : Sl a69 62 (Value.int .i64 (((tix 16 (opN (L.getD i dOp))) : Nat) : Int)) := (hph69 1 _ 62 rfl rfl).2 rfl
        have s69_64 : Sl a69 64 (opLv (L.getD i dOp)) := (hph69 3 _ 64 rfl rfl).2 rfl
        refine split_end ?_
        refine from_seq (tl := [_, _]) (by decide) (by kernel_rfl) rfl ?_
        refine op_index_arr1 (j := (tix 16 (opN (L.getD i dOp)))) arr107 (ev_base hN69 rfl s69_7) (ev_base hN69 rfl s69_62) (by omega) (by omega) ?_
        have hNO_old := hNO
        refine op_store_row (v := (opLv (L.getD i dOp))) size54 (ev_hit hN69 rfl) (ev_base hN69 rfl s69_64) hLi.cla hLi.one hNO (by rw [List.length_map]; omega) ?_
        intro w70 hNO E71
        have z_w70 := E71.size
        have hr := hr.keep E71 (fun k hk => .inr (by simp at hk; omega))
        have hls : ∀ x9 ∈ (L.map opLab), RdC w70 0 w.heap.size 1 x9.1 x9.2.length (x9.2.map u16v) := fun x9 hx9 => (hls x9 hx9).keep E71 (fun k hk => .inr (by simp at hk; omega))
        have hrs : ∀ x9 ∈ (L.map opRds), RdC w70 0 w.heap.size 1 x9.1 x9.2.length (x9.2.map sv) := fun x9 hx9 => (hrs x9 hx9).keep E71 (fun k hk => .inr (by simp at hk; omega))
        have hA0 := hA0.keep E71 (fun k hk => .inr (by simp at hk; omega))
        have hA := hA.keepG (Gr.of E71) (Dj.one djb21FA)
        have hB := hB.keepG (Gr.of E71) (Dj.one djb21FB)
        have hNw : ∀ x9 ∈ NOW, RdC w70 0 w.heap.size 1 x9.1 x9.2.length (x9.2.map u16v) := fun x9 hx9 => (hNw x9 hx9).keep E71 (fun k hk => .inr (by simp at hk; omega))
        have hLi := hLi.keep E71 (fun k hk => .inr (by simp at hk; omega))
        have hRi := hRi.keep E71 (fun k hk => .inr (by simp at hk; omega))
        have hB46 := hB46.keep E71 (fun hh => hB46.ne hNO_old (by decide) (Option.some.inj hh))
        have hIN := hIN.keep E71 (fun hh => hIN.ne hNO_old (by decide) (Option.some.inj hh))
        have hb := below_step1 hb E71 hb.size (by omega)
        have hNO : Bx w70 b21 107 (((NOW.set (tix 16 (opN (L.getD i dOp))) (opLab (L.getD i dOp))).map Prod.fst)) := row_set hNO
        refine reg_nil ?_
        refine hK64 _ _ ?_
        refine seq_any fun K72 hK72 => ?_
        refine seq_any fun K73 hK73 => ?_
        have hNw2 : ∀ x9 ∈ (NOW.set (tix 16 (opN (L.getD i dOp))) (opLab (L.getD i dOp))), RdC w70 0 w.heap.size 1 x9.1 x9.2.length (x9.2.map u16v) := rall_set hNw hLi
        have hNt2 : RdC w70 0 w.heap.size 1 ((NOW.set (tix 16 (opN (L.getD i dOp))) (opLab (L.getD i dOp))).getD (tix 16 (opN (L.getD i dOp))) DU).1 ((NOW.set (tix 16 (opN (L.getD i dOp))) (opLab (L.getD i dOp))).getD (tix 16 (opN (L.getD i dOp))) DU).2.length (((NOW.set (tix 16 (opN (L.getD i dOp))) (opLab (L.getD i dOp))).getD (tix 16 (opN (L.getD i dOp))) DU).2.map u16v) := hNw2 _ (getD_mem (by first | omega | (simp only [List.length_set]; omega)))
        have hI0 : IN.getD (tix 16 (opN (L.getD i dOp))) false = false := by simpa using c60
        have hP := hU.pre (t := (tix 16 (opN (L.getD i dOp)))) (o := opLab (L.getD i dOp)) ht16 hI0 hl8
        have hq0 : (NOW.set (tix 16 (opN (L.getD i dOp))) (opLab (L.getD i dOp))).getD (tix 16 (opN (L.getD i dOp))) DU = opLab (L.getD i dOp) := by rw [getD_set (by omega)]; exact if_pos rfl
        have hl9 : ((NOW.set (tix 16 (opN (L.getD i dOp))) (opLab (L.getD i dOp))).getD (tix 16 (opN (L.getD i dOp))) DU).2.length ≤ 8 := by rw [hq0]; exact hl8
        refine reg_from mixed ?_
        intro w75 E74
        have z_w75 := E74.size
        have hr := hr.keep0 E74
        have hls : ∀ x9 ∈ (L.map opLab), RdC w75 0 w.heap.size 1 x9.1 x9.2.length (x9.2.map u16v) := fun x9 hx9 => (hls x9 hx9).keep0 E74
        have hrs : ∀ x9 ∈ (L.map opRds), RdC w75 0 w.heap.size 1 x9.1 x9.2.length (x9.2.map sv) := fun x9 hx9 => (hrs x9 hx9).keep0 E74
        have hA0 := hA0.keep0 E74
        have hA := hA.keepG (Gr.of0 E74 NoB) (fun _ _ h => h)
        have hB := hB.keepG (Gr.of0 E74 NoB) (fun _ _ h => h)
        have hLi := hLi.keep0 E74
        have hRi := hRi.keep0 E74
        have hB46 := hB46.keep0 E74
        have hIN := hIN.keep0 E74
        have hNO := hNO.keep0 E74
        have hNw2 : ∀ x9 ∈ (NOW.set (tix 16 (opN (L.getD i dOp))) (opLab (L.getD i dOp))), RdC w75 0 w.heap.size 1 x9.1 x9.2.length (x9.2.map u16v) := fun x9 hx9 => (hNw2 x9 hx9).keep0 E74
        have hNt2 := hNt2.keep0 E74
        have hb := below_step0 hb E74 hb.size
        refine from_still (m := 13) 13 (hd := [_, _, _, _, _, _, _, _, _, _, _, _, _]) (by kernel_rfl) rfl rfl ?_
        refine st_step rfl (fun _ h9 => op_move (ev_base hN69 rfl s69_12) h9) ?_
        by_cases g68 : (((tix 11 (opK (L.getD i dOp))) : Nat) : Int) = 2
        · -- 68T
         exfalso; omega
        · -- 68F
         refine st_step rfl (fun _ h9 => op_cmp (b := false) (ev_hit hN69 rfl) rfl (b_eql (decide_eq_false g68)) h9) ?_
         refine st_step rfl (fun _ h9 => op_move (ev_hit hN69 rfl) h9) ?_
         refine st_g_false (j := 2) (dj := 69) (b := true) rfl rfl rfl (ev_hit hN69 rfl) rfl rfl ?_
         refine st_g_false (j := 2) (dj := 69) (b := true) rfl rfl rfl (ev_hit hN69 rfl) rfl rfl ?_
         refine st_g_false (j := 2) (dj := 69) (b := true) rfl rfl rfl (ev_hit hN69 rfl) rfl rfl ?_
         refine st_step rfl (fun _ h9 => op_pick_f (ev_hit hN69 rfl) rfl h9) ?_
         refine st_step rfl (fun _ h9 => op_move (ev_hit hN69 rfl) h9) ?_
         refine st_g_false (j := 7) (dj := 74) (b := true) rfl rfl rfl (ev_hit hN69 rfl) rfl rfl ?_
         refine st_g_false (j := 7) (dj := 74) (b := true) rfl rfl rfl (ev_hit hN69 rfl) rfl rfl ?_
         refine st_g_false (j := 7) (dj := 74) (b := true) rfl rfl rfl (ev_hit hN69 rfl) rfl rfl ?_
         refine st_g_false (j := 7) (dj := 74) (b := true) rfl rfl rfl (ev_hit hN69 rfl) rfl rfl ?_
         refine st_g_false (j := 7) (dj := 74) (b := true) rfl rfl rfl (ev_hit hN69 rfl) rfl rfl ?_
         refine st_nil ?_
         refine from_seq (tl := [_, _, _]) (by decide) (by kernel_rfl) rfl ?_
         refine g_false (j := 7) (dj := 74) (b := true) rfl rfl rfl (ev_hit hN69 rfl) rfl rfl ?_
         refine g_false (j := 7) (dj := 74) (b := true) rfl rfl rfl (ev_hit hN69 rfl) rfl rfl ?_
         refine op_pick_f (ev_hit hN69 rfl) rfl ?_
         refine reg_nil ?_
         refine hK73 _ _ ?_
         refine wp_cond_false (ev_hit hN69 rfl) ?_
         refine wp_skip ?_
         refine hK72 _ _ ?_
         refine seq_any fun K76 hK76 => ?_
         refine one_reg ?_
         refine op_move (ev_base hN69 rfl s69_11) ?_
         refine op_index_arr1 (j := (tix 16 (opN (L.getD i dOp)))) arr108 (ev_base hN69 rfl s69_8) (ev_hit hN69 rfl) (by omega) (by omega) ?_
         refine op_load1 (v := (Value.bool ((IN.set (tix 16 (opN (L.getD i dOp))) true).getD (tix 16 (opN (L.getD i dOp))) false))) one4 (ev_hit hN69 rfl) (hIN.cell (row_at (d := false) (by first | omega | (simp only [List.length_set]; omega)))) ?_
         rcases Bool.eq_false_or_eq_true (((IN.set (tix 16 (opN (L.getD i dOp))) true).getD (tix 16 (opN (L.getD i dOp))) false)) with c86 | c86
         · -- 86T
          rw [c86]
          refine op_move (ev_hit hN69 rfl) ?_
          refine g_true (j := 3) (dj := 86) (b := true) rfl rfl rfl (ev_hit hN69 rfl) ?_
          refine op_move (ev_base hN69 rfl s69_11) ?_
          refine g_true (j := 3) (dj := 86) (b := true) rfl rfl rfl (ev_hit hN69 rfl) ?_
          refine op_index_arr1 (j := (tix 16 (opN (L.getD i dOp)))) arr107 (ev_base hN69 rfl s69_7) (ev_hit hN69 rfl) (by omega) (by omega) ?_
          refine g_true (j := 3) (dj := 86) (b := true) rfl rfl rfl (ev_hit hN69 rfl) ?_
          refine op_load1 (v := ((NOW.set (tix 16 (opN (L.getD i dOp))) (opLab (L.getD i dOp))).getD (tix 16 (opN (L.getD i dOp))) DU).1) one54 (ev_hit hN69 rfl) (hNO.cell (row_at (d := DU) (by first | omega | (simp only [List.length_set]; omega)))) ?_
          refine g_true (j := 3) (dj := 86) (b := true) rfl rfl rfl (ev_hit hN69 rfl) ?_
          refine op_move (ev_base hN69 rfl s69_1) ?_
          refine g_true (j := 3) (dj := 86) (b := true) rfl rfl rfl (ev_hit hN69 rfl) ?_
          refine op_fn (vs := [((NOW.set (tix 16 (opN (L.getD i dOp))) (opLab (L.getD i dOp))).getD (tix 16 (opN (L.getD i dOp))) DU).1, vA]) ok50 ⟨(ev_hit hN69 rfl), ⟨(ev_hit hN69 rfl), trivial⟩⟩ (rflowsW_ret ((NOW.set (tix 16 (opN (L.getD i dOp))) (opLab (L.getD i dOp))).getD (tix 16 (opN (L.getD i dOp))) DU).2 aL _ _ _ (by first | assumption | omega | (simp only [List.length_append, List.length_cons, List.length_nil, List.length_drop, List.length_take]; omega) | (dsimp only; omega) | decide | (simp [keyV, be8_len]; done)) (by first | assumption | omega | (simp only [List.length_append, List.length_cons, List.length_nil, List.length_drop, List.length_take]; omega) | (dsimp only; omega) | decide | (simp [keyV, be8_len]; done)) (show RdC w75 0 w75.heap.size 1 ((NOW.set (tix 16 (opN (L.getD i dOp))) (opLab (L.getD i dOp))).getD (tix 16 (opN (L.getD i dOp))) DU).1 ((NOW.set (tix 16 (opN (L.getD i dOp))) (opLab (L.getD i dOp))).getD (tix 16 (opN (L.getD i dOp))) DU).2.length (((NOW.set (tix 16 (opN (L.getD i dOp))) (opLab (L.getD i dOp))).getD (tix 16 (opN (L.getD i dOp))) DU).2.map u16v) from by have hh : RdC w75 0 w75.heap.size 1 _ _ _ := (hNt2.mono (L' := 0) (B' := w75.heap.size) (Nat.zero_le _) (by omega)); first | exact hh | exact hh.cast (by first | omega | (simp; try omega)) (by first | rfl | simp [u16v])) (show RdC w75 0 w75.heap.size 1 vA aL.length (aL.map u16v) from by have hh : RdC w75 0 w75.heap.size 1 _ _ _ := (hA0.mono (L' := 0) (B' := w75.heap.size) (Nat.zero_le _) (by omega)); first | exact hh | exact hh.cast (by first | omega | (simp; try omega)) (by first | rfl | simp [u16v]))) ?_
          rintro _ w77 ⟨E78, rfl⟩
          have E78 := grown_of_below E78
          have z_w77 := E78.size
          have hr := hr.keep0 E78
          have hls : ∀ x9 ∈ (L.map opLab), RdC w77 0 w.heap.size 1 x9.1 x9.2.length (x9.2.map u16v) := fun x9 hx9 => (hls x9 hx9).keep0 E78
          have hrs : ∀ x9 ∈ (L.map opRds), RdC w77 0 w.heap.size 1 x9.1 x9.2.length (x9.2.map sv) := fun x9 hx9 => (hrs x9 hx9).keep0 E78
          have hA0 := hA0.keep0 E78
          have hA := hA.keepG (Gr.of0 E78 NoB) (fun _ _ h => h)
          have hB := hB.keepG (Gr.of0 E78 NoB) (fun _ _ h => h)
          have hLi := hLi.keep0 E78
          have hRi := hRi.keep0 E78
          have hB46 := hB46.keep0 E78
          have hIN := hIN.keep0 E78
          have hNO := hNO.keep0 E78
          have hNw2 : ∀ x9 ∈ (NOW.set (tix 16 (opN (L.getD i dOp))) (opLab (L.getD i dOp))), RdC w77 0 w.heap.size 1 x9.1 x9.2.length (x9.2.map u16v) := fun x9 hx9 => (hNw2 x9 hx9).keep0 E78
          have hNt2 := hNt2.keep0 E78
          have hb := below_step0 hb E78 hb.size
          rcases Bool.eq_false_or_eq_true ((flowsL ((NOW.set (tix 16 (opN (L.getD i dOp))) (opLab (L.getD i dOp))).getD (tix 16 (opN (L.getD i dOp))) DU).2 aL)) with c91 | c91
          · -- 91T
           rw [c91]
           refine op_pick_t (ev_hit hN69 rfl) (ev_hit hN69 rfl) ?_
           refine op_assign (ev_hit hN69 rfl) ?_
           refine reg_nil ?_
           refine hK76 _ _ ?_
           refine seq_any fun K79 hK79 => ?_
           refine one_reg ?_
           have hSN := hP.new (t := (tix 16 (opN (L.getD i dOp)))) (kd := (tix 11 (opK (L.getD i dOp)))) (l := opL (L.getD i dOp)) (s := ((opS (L.getD i dOp)).toNat : Int)) (R := opR (L.getD i dOp)) (x := opW (L.getD i dOp)) ht16 hI0 (by rw [hq0]; rfl) (by omega) hl8
           refine op_move (ev_base hN69 rfl s69_5) ?_
           refine op_loadA (cs := [(Value.int .i64 (opK (L.getD i dOp))), (Value.int .i64 (((tix 16 (opN (L.getD i dOp))) : Nat) : Int)), (opLv (L.getD i dOp)), (Value.int .u64 ((opS (L.getD i dOp)).toNat : Int)), (opRv (L.getD i dOp)), (Value.string (bs (opW (L.getD i dOp))))]) agg103 rfl (ev_base hN69 rfl s69_10) (fun j u hu => by rw [Nat.zero_add]; exact hB46.cell hu) ?_
           refine op_move (ev_base hN69 rfl s69_12) ?_
           refine op_fn (vs := [(ptr k12 0), (Value.agg #[(Value.int .i64 (opK (L.getD i dOp))), (Value.int .i64 (((tix 16 (opN (L.getD i dOp))) : Nat) : Int)), (opLv (L.getD i dOp)), (Value.int .u64 ((opS (L.getD i dOp)).toNat : Int)), (opRv (L.getD i dOp)), (Value.string (bs (opW (L.getD i dOp))))]), (Value.int .i64 (((tix 11 (opK (L.getD i dOp))) : Nat) : Int))]) ok58 ⟨(ev_hit hN69 rfl), ⟨(ev_hit hN69 rfl), ⟨(ev_hit hN69 rfl), trivial⟩⟩⟩ (do_ret (K := (opK (L.getD i dOp))) (n := (((tix 16 (opN (L.getD i dOp))) : Nat) : Int)) (s := ((opS (L.getD i dOp)).toNat : Int)) (l := (opL (L.getD i dOp))) (R := (opR (L.getD i dOp))) (x := (opW (L.getD i dOp))) (lo := w.heap.size) (tix 11 (opK (L.getD i dOp))) (by omega) (hU.2.2.1.ok (by omega)) (hU.2.2.1.sm (by omega)) (by first | exact hl8 | decide) (by first | exact hlg.2.1 | decide) hLi hRi (by omega) hA) ?_
           rintro _ w81 ⟨E82, rfl, F80, hl80, hN80⟩
           have bd83 := hB.lt
           have bd84 := hB46.lt
           have bd85 := hIN.lt
           have bd86 := hNO.lt
           have hA_old := hA
           have z_w81 := E82.size
           have hr := hr.keepG E82 (fun k hk => .inr (by have := hA_old.lt k hk; omega))
           have hls : ∀ x9 ∈ (L.map opLab), RdC w81 0 w.heap.size 1 x9.1 x9.2.length (x9.2.map u16v) := fun x9 hx9 => (hls x9 hx9).keepG E82 (fun k hk => .inr (by have := hA_old.lt k hk; omega))
           have hrs : ∀ x9 ∈ (L.map opRds), RdC w81 0 w.heap.size 1 x9.1 x9.2.length (x9.2.map sv) := fun x9 hx9 => (hrs x9 hx9).keepG E82 (fun k hk => .inr (by have := hA_old.lt k hk; omega))
           have hA0 := hA0.keepG E82 (fun k hk => .inr (by have := hA_old.lt k hk; omega))
           have hB := hB.keepG E82 hdj.symm
           have hLi := hLi.keepG E82 (fun k hk => .inr (by have := hA_old.lt k hk; omega))
           have hRi := hRi.keepG E82 (fun k hk => .inr (by have := hA_old.lt k hk; omega))
           have hB46 := hB46.keepG E82 dj47
           have hIN := hIN.keepG E82 djb28FA
           have hNO := hNO.keepG E82 djb21FA
           have hNw2 : ∀ x9 ∈ (NOW.set (tix 16 (opN (L.getD i dOp))) (opLab (L.getD i dOp))), RdC w81 0 w.heap.size 1 x9.1 x9.2.length (x9.2.map u16v) := fun x9 hx9 => (hNw2 x9 hx9).keepG E82 (fun k hk => .inr (by have := hA_old.lt k hk; omega))
           have hNt2 := hNt2.keepG E82 (fun k hk => .inr (by have := hA_old.lt k hk; omega))
           have hb := below_stepG hb E82 hb.size (fun k hk => (hA_old.lt k hk).1)
           have dj87 : Dj FB F80 := Dj.stepF hN80 (fun k hk => (bd83 k hk).2) hdj.symm
           have dj88 : ¬ F80 b44 := ne_stepF hN80 bd84 dj47
           have dj89 : ¬ F80 b28 := ne_stepF hN80 bd85 djb28FA
           have dj90 : ¬ F80 b21 := ne_stepF hN80 bd86 djb21FA
           refine op_assign (ev_hit hN69 rfl) ?_
           refine reg_nil ?_
           refine hK79 _ _ ?_
           refine seq_any fun K91 hK91 => ?_
           refine seq_any fun K92 hK92 => ?_
           refine one_reg ?_
           refine op_move (ev_hit hN69 rfl) ?_
           refine reg_nil ?_
           refine hK92 _ _ ?_
           refine wp_cond_true (ev_hit hN69 rfl) ?_
           refine seq_any fun K93 hK93 => ?_
           refine one_reg ?_
           refine op_move (ev_base hN69 rfl s69_6) ?_
           refine op_loadA (cs := [(Value.int .i64 (opK (L.getD i dOp))), (Value.int .i64 (((tix 16 (opN (L.getD i dOp))) : Nat) : Int)), (opLv (L.getD i dOp)), (Value.int .u64 ((opS (L.getD i dOp)).toNat : Int)), (opRv (L.getD i dOp)), (Value.string (bs (opW (L.getD i dOp))))]) agg103 rfl (ev_base hN69 rfl s69_10) (fun j u hu => by rw [Nat.zero_add]; exact hB46.cell hu) ?_
           refine op_move (ev_base hN69 rfl s69_12) ?_
           refine op_fn (vs := [(ptr k15 0), (Value.agg #[(Value.int .i64 (opK (L.getD i dOp))), (Value.int .i64 (((tix 16 (opN (L.getD i dOp))) : Nat) : Int)), (opLv (L.getD i dOp)), (Value.int .u64 ((opS (L.getD i dOp)).toNat : Int)), (opRv (L.getD i dOp)), (Value.string (bs (opW (L.getD i dOp))))]), (Value.int .i64 (((tix 11 (opK (L.getD i dOp))) : Nat) : Int))]) ok58 ⟨(ev_hit hN69 rfl), ⟨(ev_hit hN69 rfl), ⟨(ev_hit hN69 rfl), trivial⟩⟩⟩ (do_ret (K := (opK (L.getD i dOp))) (n := (((tix 16 (opN (L.getD i dOp))) : Nat) : Int)) (s := ((opS (L.getD i dOp)).toNat : Int)) (l := (opL (L.getD i dOp))) (R := (opR (L.getD i dOp))) (x := (opW (L.getD i dOp))) (lo := w.heap.size) (tix 11 (opK (L.getD i dOp))) (by omega) (hU.2.2.2.1.ok (by omega)) (hU.2.2.2.1.sm (by omega)) (by first | exact hl8 | decide) (by first | exact hlg.2.1 | decide) hLi hRi (by omega) hB) ?_
           rintro _ w95 ⟨E96, rfl, F94, hl94, hN94⟩
           have bd97 := hB46.lt
           have bd98 := hIN.lt
           have bd99 := hNO.lt
           have bd100 := hl80.lt
           have hB_old := hB
           have z_w95 := E96.size
           have hr := hr.keepG E96 (fun k hk => .inr (by have := hB_old.lt k hk; omega))
           have hls : ∀ x9 ∈ (L.map opLab), RdC w95 0 w.heap.size 1 x9.1 x9.2.length (x9.2.map u16v) := fun x9 hx9 => (hls x9 hx9).keepG E96 (fun k hk => .inr (by have := hB_old.lt k hk; omega))
           have hrs : ∀ x9 ∈ (L.map opRds), RdC w95 0 w.heap.size 1 x9.1 x9.2.length (x9.2.map sv) := fun x9 hx9 => (hrs x9 hx9).keepG E96 (fun k hk => .inr (by have := hB_old.lt k hk; omega))
           have hA0 := hA0.keepG E96 (fun k hk => .inr (by have := hB_old.lt k hk; omega))
           have hLi := hLi.keepG E96 (fun k hk => .inr (by have := hB_old.lt k hk; omega))
           have hRi := hRi.keepG E96 (fun k hk => .inr (by have := hB_old.lt k hk; omega))
           have hB46 := hB46.keepG E96 dj48
           have hIN := hIN.keepG E96 djb28FB
           have hNO := hNO.keepG E96 djb21FB
           have hNw2 : ∀ x9 ∈ (NOW.set (tix 16 (opN (L.getD i dOp))) (opLab (L.getD i dOp))), RdC w95 0 w.heap.size 1 x9.1 x9.2.length (x9.2.map u16v) := fun x9 hx9 => (hNw2 x9 hx9).keepG E96 (fun k hk => .inr (by have := hB_old.lt k hk; omega))
           have hNt2 := hNt2.keepG E96 (fun k hk => .inr (by have := hB_old.lt k hk; omega))
           have hl80 := hl80.keepG E96 dj87.symm
           have hb := below_stepG hb E96 hb.size (fun k hk => (hB_old.lt k hk).1)
           have dj101 : ¬ F94 b44 := ne_stepF hN94 bd97 dj48
           have dj102 : ¬ F94 b28 := ne_stepF hN94 bd98 djb28FB
           have dj103 : ¬ F94 b21 := ne_stepF hN94 bd99 djb21FB
           have dj104 : Dj F80 F94 := Dj.stepF hN94 (fun k hk => (bd100 k hk).2) dj87.symm
           refine op_move (ev_hit hN69 rfl) ?_
           refine op_neq (ev_hit hN69 rfl) (ev_hit hN69 rfl) (fun c103 => ?_) (fun c103 => ?_)
           · -- 103T
            exact absurd (hSN.1 (by rw [hq0] at c91; exact c91)).1 c103
           · -- 103F
            refine reg_nil ?_
            refine hK93 _ _ ?_
            refine wp_cond_false (ev_hit hN69 rfl) ?_
            refine wp_skip ?_
            refine hK91 _ _ ?_
            refine seq_any fun K105 hK105 => ?_
            refine one_reg ?_
            refine op_move (ev_base hN69 rfl s69_12) ?_
            refine reg_nil ?_
            refine hK105 _ _ ?_
            refine wp_block ?_
            refine seq_any fun K106 hK106 => ?_
            refine one_reg ?_
            refine op_eql (ev_hit hN69 rfl) rfl (fun c106 => ?_) (fun c106 => ?_)
            · -- 106T
             exfalso; omega
            · -- 106F
             refine op_assign (ev_hit hN69 rfl) ?_
             refine reg_nil ?_
             refine hK106 _ _ ?_
             refine wp_cond_false (ev_hit hN69 rfl) ?_
             refine seq_any fun K107 hK107 => ?_
             refine seq_any fun K108 hK108 => ?_
             refine one_reg ?_
             refine op_eql (ev_hit hN69 rfl) rfl (fun c132 => ?_) (fun c132 => ?_)
             · -- 132T
              exfalso; omega
             · -- 132F
              refine op_assign (ev_hit hN69 rfl) ?_
              refine reg_nil ?_
              refine hK108 _ _ ?_
              refine wp_cond_false (ev_hit hN69 rfl) ?_
              refine one_reg ?_
              refine op_eql (ev_hit hN69 rfl) rfl (fun c133 => ?_) (fun c133 => ?_)
              · -- 133T
               exfalso; omega
              · -- 133F
               refine op_assign (ev_hit hN69 rfl) ?_
               refine reg_nil ?_
               refine hK107 _ _ ?_
               refine wp_cond_false (ev_hit hN69 rfl) ?_
               refine wp_skip ?_
               refine hK38 _ _ ?_
               refine one_reg ?_
               refine op_move (ev_base hN69 rfl s69_9) ?_
               refine op_add (ev_hit hN69 rfl) rfl (add64 (by omega)) ?_
               refine op_assign (ev_hit hN69 rfl) ?_
               refine reg_nil ?_
               -- round 19F 22T 30T 38T 54T 60T 68F 86T 91T 103F 106F 132F 133F
               have hNx : UInv aL (doM A (tix 11 (opK (L.getD i dOp))) (((tix 16 (opN (L.getD i dOp))) : Nat) : Int) (opL (L.getD i dOp)) ((opS (L.getD i dOp)).toNat : Int) (opR (L.getD i dOp)) (opW (L.getD i dOp))) (doM B (tix 11 (opK (L.getD i dOp))) (((tix 16 (opN (L.getD i dOp))) : Nat) : Int) (opL (L.getD i dOp)) ((opS (L.getD i dOp)).toNat : Int) (opR (L.getD i dOp)) (opW (L.getD i dOp))) (IN.set (tix 16 (opN (L.getD i dOp))) true) (NOW.set (tix 16 (opN (L.getD i dOp))) (opLab (L.getD i dOp))) (3 * i + 3) := (hSN.1 (by rw [hq0] at c91; exact c91)).2.mono (by omega)
               exact loop_next _ hN69 hd69 ⟨(i + 1), doM A (tix 11 (opK (L.getD i dOp))) (((tix 16 (opN (L.getD i dOp))) : Nat) : Int) (opL (L.getD i dOp)) ((opS (L.getD i dOp)).toNat : Int) (opR (L.getD i dOp)) (opW (L.getD i dOp)), doM B (tix 11 (opK (L.getD i dOp))) (((tix 16 (opN (L.getD i dOp))) : Nat) : Int) (opL (L.getD i dOp)) ((opS (L.getD i dOp)).toNat : Int) (opR (L.getD i dOp)) (opW (L.getD i dOp)), (IN.set (tix 16 (opN (L.getD i dOp))) true), (NOW.set (tix 16 (opN (L.getD i dOp))) (opLab (L.getD i dOp))), F80, F94, rfl, (sl_base hN69 rfl s69_0), (sl_base hN69 rfl s69_1), (sl_base hN69 rfl s69_5), (sl_base hN69 rfl s69_6), (sl_base hN69 rfl s69_7), (sl_base hN69 rfl s69_8), (sl_hit hN69 rfl).trans (congrArg (Value.int .i64) (by omega)), (by omega), (hNx.mono (by omega)), dj104, dj89, dj102, dj90, dj103, hb, (by omega), hr, hls, hrs, hA0, hl80, hl94, hIN, hNO, hNw2⟩ (by omega)
          · -- 91F
           rw [c91]
           refine op_pick_t (ev_hit hN69 rfl) (ev_hit hN69 rfl) ?_
           refine op_assign (ev_hit hN69 rfl) ?_
           refine reg_nil ?_
           refine hK76 _ _ ?_
           refine seq_any fun K109 hK109 => ?_
           refine one_reg ?_
           have hSN := hP.new (t := (tix 16 (opN (L.getD i dOp)))) (kd := (tix 11 (opK (L.getD i dOp)))) (l := opL (L.getD i dOp)) (s := ((opS (L.getD i dOp)).toNat : Int)) (R := opR (L.getD i dOp)) (x := opW (L.getD i dOp)) ht16 hI0 (by rw [hq0]; rfl) (by omega) hl8
           refine op_move (ev_base hN69 rfl s69_5) ?_
           refine op_loadA (cs := [(Value.int .i64 (opK (L.getD i dOp))), (Value.int .i64 (((tix 16 (opN (L.getD i dOp))) : Nat) : Int)), (opLv (L.getD i dOp)), (Value.int .u64 ((opS (L.getD i dOp)).toNat : Int)), (opRv (L.getD i dOp)), (Value.string (bs (opW (L.getD i dOp))))]) agg103 rfl (ev_base hN69 rfl s69_10) (fun j u hu => by rw [Nat.zero_add]; exact hB46.cell hu) ?_
           refine op_move (ev_base hN69 rfl s69_12) ?_
           refine op_fn (vs := [(ptr k12 0), (Value.agg #[(Value.int .i64 (opK (L.getD i dOp))), (Value.int .i64 (((tix 16 (opN (L.getD i dOp))) : Nat) : Int)), (opLv (L.getD i dOp)), (Value.int .u64 ((opS (L.getD i dOp)).toNat : Int)), (opRv (L.getD i dOp)), (Value.string (bs (opW (L.getD i dOp))))]), (Value.int .i64 (((tix 11 (opK (L.getD i dOp))) : Nat) : Int))]) ok58 ⟨(ev_hit hN69 rfl), ⟨(ev_hit hN69 rfl), ⟨(ev_hit hN69 rfl), trivial⟩⟩⟩ (do_ret (K := (opK (L.getD i dOp))) (n := (((tix 16 (opN (L.getD i dOp))) : Nat) : Int)) (s := ((opS (L.getD i dOp)).toNat : Int)) (l := (opL (L.getD i dOp))) (R := (opR (L.getD i dOp))) (x := (opW (L.getD i dOp))) (lo := w.heap.size) (tix 11 (opK (L.getD i dOp))) (by omega) (hU.2.2.1.ok (by omega)) (hU.2.2.1.sm (by omega)) (by first | exact hl8 | decide) (by first | exact hlg.2.1 | decide) hLi hRi (by omega) hA) ?_
           rintro _ w111 ⟨E112, rfl, F110, hl110, hN110⟩
           have bd113 := hB.lt
           have bd114 := hB46.lt
           have bd115 := hIN.lt
           have bd116 := hNO.lt
           have hA_old := hA
           have z_w111 := E112.size
           have hr := hr.keepG E112 (fun k hk => .inr (by have := hA_old.lt k hk; omega))
           have hls : ∀ x9 ∈ (L.map opLab), RdC w111 0 w.heap.size 1 x9.1 x9.2.length (x9.2.map u16v) := fun x9 hx9 => (hls x9 hx9).keepG E112 (fun k hk => .inr (by have := hA_old.lt k hk; omega))
           have hrs : ∀ x9 ∈ (L.map opRds), RdC w111 0 w.heap.size 1 x9.1 x9.2.length (x9.2.map sv) := fun x9 hx9 => (hrs x9 hx9).keepG E112 (fun k hk => .inr (by have := hA_old.lt k hk; omega))
           have hA0 := hA0.keepG E112 (fun k hk => .inr (by have := hA_old.lt k hk; omega))
           have hB := hB.keepG E112 hdj.symm
           have hLi := hLi.keepG E112 (fun k hk => .inr (by have := hA_old.lt k hk; omega))
           have hRi := hRi.keepG E112 (fun k hk => .inr (by have := hA_old.lt k hk; omega))
           have hB46 := hB46.keepG E112 dj47
           have hIN := hIN.keepG E112 djb28FA
           have hNO := hNO.keepG E112 djb21FA
           have hNw2 : ∀ x9 ∈ (NOW.set (tix 16 (opN (L.getD i dOp))) (opLab (L.getD i dOp))), RdC w111 0 w.heap.size 1 x9.1 x9.2.length (x9.2.map u16v) := fun x9 hx9 => (hNw2 x9 hx9).keepG E112 (fun k hk => .inr (by have := hA_old.lt k hk; omega))
           have hNt2 := hNt2.keepG E112 (fun k hk => .inr (by have := hA_old.lt k hk; omega))
           have hb := below_stepG hb E112 hb.size (fun k hk => (hA_old.lt k hk).1)
           have dj117 : Dj FB F110 := Dj.stepF hN110 (fun k hk => (bd113 k hk).2) hdj.symm
           have dj118 : ¬ F110 b44 := ne_stepF hN110 bd114 dj47
           have dj119 : ¬ F110 b28 := ne_stepF hN110 bd115 djb28FA
           have dj120 : ¬ F110 b21 := ne_stepF hN110 bd116 djb21FA
           refine op_assign (ev_hit hN69 rfl) ?_
           refine reg_nil ?_
           refine hK109 _ _ ?_
           refine seq_any fun K121 hK121 => ?_
           refine seq_any fun K122 hK122 => ?_
           refine one_reg ?_
           refine op_move (ev_hit hN69 rfl) ?_
           refine reg_nil ?_
           refine hK122 _ _ ?_
           refine wp_cond_false (ev_hit hN69 rfl) ?_
           refine wp_skip ?_
           refine hK121 _ _ ?_
           refine seq_any fun K123 hK123 => ?_
           refine one_reg ?_
           refine op_move (ev_base hN69 rfl s69_12) ?_
           refine reg_nil ?_
           refine hK123 _ _ ?_
           refine wp_block ?_
           refine seq_any fun K124 hK124 => ?_
           refine one_reg ?_
           refine op_eql (ev_hit hN69 rfl) rfl (fun c106 => ?_) (fun c106 => ?_)
           · -- 106T
            exfalso; omega
           · -- 106F
            refine op_assign (ev_hit hN69 rfl) ?_
            refine reg_nil ?_
            refine hK124 _ _ ?_
            refine wp_cond_false (ev_hit hN69 rfl) ?_
            refine seq_any fun K125 hK125 => ?_
            refine seq_any fun K126 hK126 => ?_
            refine one_reg ?_
            refine op_eql (ev_hit hN69 rfl) rfl (fun c132 => ?_) (fun c132 => ?_)
            · -- 132T
             exfalso; omega
            · -- 132F
             refine op_assign (ev_hit hN69 rfl) ?_
             refine reg_nil ?_
             refine hK126 _ _ ?_
             refine wp_cond_false (ev_hit hN69 rfl) ?_
             refine one_reg ?_
             refine op_eql (ev_hit hN69 rfl) rfl (fun c133 => ?_) (fun c133 => ?_)
             · -- 133T
              exfalso; omega
             · -- 133F
              refine op_assign (ev_hit hN69 rfl) ?_
              refine reg_nil ?_
              refine hK125 _ _ ?_
              refine wp_cond_false (ev_hit hN69 rfl) ?_
              refine wp_skip ?_
              refine hK38 _ _ ?_
              refine one_reg ?_
              refine op_move (ev_base hN69 rfl s69_9) ?_
              refine op_add (ev_hit hN69 rfl) rfl (add64 (by omega)) ?_
              refine op_assign (ev_hit hN69 rfl) ?_
              refine reg_nil ?_
              -- round 19F 22T 30T 38T 54T 60T 68F 86T 91F 106F 132F 133F
              have hNx : UInv aL (doM A (tix 11 (opK (L.getD i dOp))) (((tix 16 (opN (L.getD i dOp))) : Nat) : Int) (opL (L.getD i dOp)) ((opS (L.getD i dOp)).toNat : Int) (opR (L.getD i dOp)) (opW (L.getD i dOp))) (B) (IN.set (tix 16 (opN (L.getD i dOp))) true) (NOW.set (tix 16 (opN (L.getD i dOp))) (opLab (L.getD i dOp))) (3 * i + 3) := (hSN.2 (by rw [hq0] at c91; exact fun q => by rw [show flowsL (opL (L.getD i dOp)) aL = false from c91] at q; cases q)).mono (by omega)
              exact loop_next _ hN69 hd69 ⟨(i + 1), doM A (tix 11 (opK (L.getD i dOp))) (((tix 16 (opN (L.getD i dOp))) : Nat) : Int) (opL (L.getD i dOp)) ((opS (L.getD i dOp)).toNat : Int) (opR (L.getD i dOp)) (opW (L.getD i dOp)), B, (IN.set (tix 16 (opN (L.getD i dOp))) true), (NOW.set (tix 16 (opN (L.getD i dOp))) (opLab (L.getD i dOp))), F110, FB, rfl, (sl_base hN69 rfl s69_0), (sl_base hN69 rfl s69_1), (sl_base hN69 rfl s69_5), (sl_base hN69 rfl s69_6), (sl_base hN69 rfl s69_7), (sl_base hN69 rfl s69_8), (sl_hit hN69 rfl).trans (congrArg (Value.int .i64) (by omega)), (by omega), (hNx.mono (by omega)), dj117.symm, dj119, djb28FB, dj120, djb21FB, hb, (by omega), hr, hls, hrs, hA0, hl110, hB, hIN, hNO, hNw2⟩ (by omega)
         · -- 86F
          rw [getD_set (by omega), if_pos rfl] at c86; cases c86
      · -- 60F
       refine wp_skip ?_
       refine hK64 _ _ ?_
       refine seq_any fun K127 hK127 => ?_
       refine seq_any fun K128 hK128 => ?_
       have hNt2 : RdC w60 0 w.heap.size 1 (NOW.getD (tix 16 (opN (L.getD i dOp))) DU).1 (NOW.getD (tix 16 (opN (L.getD i dOp))) DU).2.length ((NOW.getD (tix 16 (opN (L.getD i dOp))) DU).2.map u16v) := hNw _ (getD_mem (by first | omega | (simp only [List.length_set]; omega)))
       have hI1 : IN.getD (tix 16 (opN (L.getD i dOp))) false = true := by simpa using c60
       have hl9 : (NOW.getD (tix 16 (opN (L.getD i dOp))) DU).2.length ≤ 8 := hU.2.2.2.2.2.2.2 _ (getD_mem (by omega))
       refine reg_from mixed ?_
       intro w130 E129
       have z_w130 := E129.size
       have hr := hr.keep0 E129
       have hls : ∀ x9 ∈ (L.map opLab), RdC w130 0 w.heap.size 1 x9.1 x9.2.length (x9.2.map u16v) := fun x9 hx9 => (hls x9 hx9).keep0 E129
       have hrs : ∀ x9 ∈ (L.map opRds), RdC w130 0 w.heap.size 1 x9.1 x9.2.length (x9.2.map sv) := fun x9 hx9 => (hrs x9 hx9).keep0 E129
       have hA0 := hA0.keep0 E129
       have hA := hA.keepG (Gr.of0 E129 NoB) (fun _ _ h => h)
       have hB := hB.keepG (Gr.of0 E129 NoB) (fun _ _ h => h)
       have hIN := hIN.keep0 E129
       have hNO := hNO.keep0 E129
       have hNw : ∀ x9 ∈ NOW, RdC w130 0 w.heap.size 1 x9.1 x9.2.length (x9.2.map u16v) := fun x9 hx9 => (hNw x9 hx9).keep0 E129
       have hLi := hLi.keep0 E129
       have hRi := hRi.keep0 E129
       have hB46 := hB46.keep0 E129
       have hNt2 := hNt2.keep0 E129
       have hb := below_step0 hb E129 hb.size
       refine from_still (m := 13) 13 (hd := [_, _, _, _, _, _, _, _, _, _, _, _, _]) (by kernel_rfl) rfl rfl ?_
       refine st_step rfl (fun _ h9 => op_move (ev_hit hN35 rfl) h9) ?_
       by_cases g68 : (((tix 11 (opK (L.getD i dOp))) : Nat) : Int) = 2
       · -- 68T
        exfalso; omega
       · -- 68F
        refine st_step rfl (fun _ h9 => op_cmp (b := false) (ev_hit hN35 rfl) rfl (b_eql (decide_eq_false g68)) h9) ?_
        refine st_step rfl (fun _ h9 => op_move (ev_hit hN35 rfl) h9) ?_
        refine st_g_false (j := 2) (dj := 69) (b := true) rfl rfl rfl (ev_hit hN35 rfl) rfl rfl ?_
        refine st_g_false (j := 2) (dj := 69) (b := true) rfl rfl rfl (ev_hit hN35 rfl) rfl rfl ?_
        refine st_g_false (j := 2) (dj := 69) (b := true) rfl rfl rfl (ev_hit hN35 rfl) rfl rfl ?_
        refine st_step rfl (fun _ h9 => op_pick_f (ev_hit hN35 rfl) rfl h9) ?_
        refine st_step rfl (fun _ h9 => op_move (ev_hit hN35 rfl) h9) ?_
        refine st_g_false (j := 7) (dj := 74) (b := true) rfl rfl rfl (ev_hit hN35 rfl) rfl rfl ?_
        refine st_g_false (j := 7) (dj := 74) (b := true) rfl rfl rfl (ev_hit hN35 rfl) rfl rfl ?_
        refine st_g_false (j := 7) (dj := 74) (b := true) rfl rfl rfl (ev_hit hN35 rfl) rfl rfl ?_
        refine st_g_false (j := 7) (dj := 74) (b := true) rfl rfl rfl (ev_hit hN35 rfl) rfl rfl ?_
        refine st_g_false (j := 7) (dj := 74) (b := true) rfl rfl rfl (ev_hit hN35 rfl) rfl rfl ?_
        refine st_nil ?_
        refine from_seq (tl := [_, _, _]) (by decide) (by kernel_rfl) rfl ?_
        refine g_false (j := 7) (dj := 74) (b := true) rfl rfl rfl (ev_hit hN35 rfl) rfl rfl ?_
        refine g_false (j := 7) (dj := 74) (b := true) rfl rfl rfl (ev_hit hN35 rfl) rfl rfl ?_
        refine op_pick_f (ev_hit hN35 rfl) rfl ?_
        refine reg_nil ?_
        refine hK128 _ _ ?_
        refine wp_cond_false (ev_hit hN35 rfl) ?_
        refine wp_skip ?_
        refine hK127 _ _ ?_
        refine seq_any fun K131 hK131 => ?_
        refine one_reg ?_
        refine op_move (ev_hit hN35 rfl) ?_
        refine op_index_arr1 (j := (tix 16 (opN (L.getD i dOp)))) arr108 (ev_base hN35 rfl s35_8) (ev_hit hN35 rfl) (by omega) (by omega) ?_
        refine op_load1 (v := (Value.bool (IN.getD (tix 16 (opN (L.getD i dOp))) false))) one4 (ev_hit hN35 rfl) (hIN.cell (row_at (d := false) (by first | omega | (simp only [List.length_set]; omega)))) ?_
        rcases Bool.eq_false_or_eq_true ((IN.getD (tix 16 (opN (L.getD i dOp))) false)) with c86 | c86
        · -- 86T
         rw [c86]
         refine op_move (ev_hit hN35 rfl) ?_
         refine g_true (j := 3) (dj := 86) (b := true) rfl rfl rfl (ev_hit hN35 rfl) ?_
         refine op_move (ev_hit hN35 rfl) ?_
         refine g_true (j := 3) (dj := 86) (b := true) rfl rfl rfl (ev_hit hN35 rfl) ?_
         refine op_index_arr1 (j := (tix 16 (opN (L.getD i dOp)))) arr107 (ev_base hN35 rfl s35_7) (ev_hit hN35 rfl) (by omega) (by omega) ?_
         refine g_true (j := 3) (dj := 86) (b := true) rfl rfl rfl (ev_hit hN35 rfl) ?_
         refine op_load1 (v := (NOW.getD (tix 16 (opN (L.getD i dOp))) DU).1) one54 (ev_hit hN35 rfl) (hNO.cell (row_at (d := DU) (by first | omega | (simp only [List.length_set]; omega)))) ?_
         refine g_true (j := 3) (dj := 86) (b := true) rfl rfl rfl (ev_hit hN35 rfl) ?_
         refine op_move (ev_base hN35 rfl s35_1) ?_
         refine g_true (j := 3) (dj := 86) (b := true) rfl rfl rfl (ev_hit hN35 rfl) ?_
         refine op_fn (vs := [(NOW.getD (tix 16 (opN (L.getD i dOp))) DU).1, vA]) ok50 ⟨(ev_hit hN35 rfl), ⟨(ev_hit hN35 rfl), trivial⟩⟩ (rflowsW_ret (NOW.getD (tix 16 (opN (L.getD i dOp))) DU).2 aL _ _ _ (by first | assumption | omega | (simp only [List.length_append, List.length_cons, List.length_nil, List.length_drop, List.length_take]; omega) | (dsimp only; omega) | decide | (simp [keyV, be8_len]; done)) (by first | assumption | omega | (simp only [List.length_append, List.length_cons, List.length_nil, List.length_drop, List.length_take]; omega) | (dsimp only; omega) | decide | (simp [keyV, be8_len]; done)) (show RdC w130 0 w130.heap.size 1 (NOW.getD (tix 16 (opN (L.getD i dOp))) DU).1 (NOW.getD (tix 16 (opN (L.getD i dOp))) DU).2.length ((NOW.getD (tix 16 (opN (L.getD i dOp))) DU).2.map u16v) from by have hh : RdC w130 0 w130.heap.size 1 _ _ _ := (hNt2.mono (L' := 0) (B' := w130.heap.size) (Nat.zero_le _) (by omega)); first | exact hh | exact hh.cast (by first | omega | (simp; try omega)) (by first | rfl | simp [u16v])) (show RdC w130 0 w130.heap.size 1 vA aL.length (aL.map u16v) from by have hh : RdC w130 0 w130.heap.size 1 _ _ _ := (hA0.mono (L' := 0) (B' := w130.heap.size) (Nat.zero_le _) (by omega)); first | exact hh | exact hh.cast (by first | omega | (simp; try omega)) (by first | rfl | simp [u16v]))) ?_
         rintro _ w132 ⟨E133, rfl⟩
         have E133 := grown_of_below E133
         have z_w132 := E133.size
         have hr := hr.keep0 E133
         have hls : ∀ x9 ∈ (L.map opLab), RdC w132 0 w.heap.size 1 x9.1 x9.2.length (x9.2.map u16v) := fun x9 hx9 => (hls x9 hx9).keep0 E133
         have hrs : ∀ x9 ∈ (L.map opRds), RdC w132 0 w.heap.size 1 x9.1 x9.2.length (x9.2.map sv) := fun x9 hx9 => (hrs x9 hx9).keep0 E133
         have hA0 := hA0.keep0 E133
         have hA := hA.keepG (Gr.of0 E133 NoB) (fun _ _ h => h)
         have hB := hB.keepG (Gr.of0 E133 NoB) (fun _ _ h => h)
         have hIN := hIN.keep0 E133
         have hNO := hNO.keep0 E133
         have hNw : ∀ x9 ∈ NOW, RdC w132 0 w.heap.size 1 x9.1 x9.2.length (x9.2.map u16v) := fun x9 hx9 => (hNw x9 hx9).keep0 E133
         have hLi := hLi.keep0 E133
         have hRi := hRi.keep0 E133
         have hB46 := hB46.keep0 E133
         have hNt2 := hNt2.keep0 E133
         have hb := below_step0 hb E133 hb.size
         rcases Bool.eq_false_or_eq_true ((flowsL (NOW.getD (tix 16 (opN (L.getD i dOp))) DU).2 aL)) with c91 | c91
         · -- 91T
          rw [c91]
          refine op_pick_t (ev_hit hN35 rfl) (ev_hit hN35 rfl) ?_
          refine op_assign (ev_hit hN35 rfl) ?_
          refine reg_nil ?_
          refine hK131 _ _ ?_
          refine seq_any fun K134 hK134 => ?_
          refine one_reg ?_
          have hSe := hU.see (t := (tix 16 (opN (L.getD i dOp)))) (kd := (tix 11 (opK (L.getD i dOp)))) (l := opL (L.getD i dOp)) (s := ((opS (L.getD i dOp)).toNat : Int)) (R := opR (L.getD i dOp)) (x := opW (L.getD i dOp)) ht16 c86 c91 hlg.2.1 hl8 (by omega)
          refine op_move (ev_base hN35 rfl s35_5) ?_
          refine op_loadA (cs := [(Value.int .i64 (opK (L.getD i dOp))), (Value.int .i64 (((tix 16 (opN (L.getD i dOp))) : Nat) : Int)), (opLv (L.getD i dOp)), (Value.int .u64 ((opS (L.getD i dOp)).toNat : Int)), (opRv (L.getD i dOp)), (Value.string (bs (opW (L.getD i dOp))))]) agg103 rfl (ev_hit hN35 rfl) (fun j u hu => by rw [Nat.zero_add]; exact hB46.cell hu) ?_
          refine op_move (ev_hit hN35 rfl) ?_
          refine op_fn (vs := [(ptr k12 0), (Value.agg #[(Value.int .i64 (opK (L.getD i dOp))), (Value.int .i64 (((tix 16 (opN (L.getD i dOp))) : Nat) : Int)), (opLv (L.getD i dOp)), (Value.int .u64 ((opS (L.getD i dOp)).toNat : Int)), (opRv (L.getD i dOp)), (Value.string (bs (opW (L.getD i dOp))))]), (Value.int .i64 (((tix 11 (opK (L.getD i dOp))) : Nat) : Int))]) ok58 ⟨(ev_hit hN35 rfl), ⟨(ev_hit hN35 rfl), ⟨(ev_hit hN35 rfl), trivial⟩⟩⟩ (do_ret (K := (opK (L.getD i dOp))) (n := (((tix 16 (opN (L.getD i dOp))) : Nat) : Int)) (s := ((opS (L.getD i dOp)).toNat : Int)) (l := (opL (L.getD i dOp))) (R := (opR (L.getD i dOp))) (x := (opW (L.getD i dOp))) (lo := w.heap.size) (tix 11 (opK (L.getD i dOp))) (by omega) (hU.2.2.1.ok (by omega)) (hU.2.2.1.sm (by omega)) (by first | exact hl8 | decide) (by first | exact hlg.2.1 | decide) hLi hRi (by omega) hA) ?_
          rintro _ w136 ⟨E137, rfl, F135, hl135, hN135⟩
          have bd138 := hB.lt
          have bd139 := hIN.lt
          have bd140 := hNO.lt
          have bd141 := hB46.lt
          have hA_old := hA
          have z_w136 := E137.size
          have hr := hr.keepG E137 (fun k hk => .inr (by have := hA_old.lt k hk; omega))
          have hls : ∀ x9 ∈ (L.map opLab), RdC w136 0 w.heap.size 1 x9.1 x9.2.length (x9.2.map u16v) := fun x9 hx9 => (hls x9 hx9).keepG E137 (fun k hk => .inr (by have := hA_old.lt k hk; omega))
          have hrs : ∀ x9 ∈ (L.map opRds), RdC w136 0 w.heap.size 1 x9.1 x9.2.length (x9.2.map sv) := fun x9 hx9 => (hrs x9 hx9).keepG E137 (fun k hk => .inr (by have := hA_old.lt k hk; omega))
          have hA0 := hA0.keepG E137 (fun k hk => .inr (by have := hA_old.lt k hk; omega))
          have hB := hB.keepG E137 hdj.symm
          have hIN := hIN.keepG E137 djb28FA
          have hNO := hNO.keepG E137 djb21FA
          have hNw : ∀ x9 ∈ NOW, RdC w136 0 w.heap.size 1 x9.1 x9.2.length (x9.2.map u16v) := fun x9 hx9 => (hNw x9 hx9).keepG E137 (fun k hk => .inr (by have := hA_old.lt k hk; omega))
          have hLi := hLi.keepG E137 (fun k hk => .inr (by have := hA_old.lt k hk; omega))
          have hRi := hRi.keepG E137 (fun k hk => .inr (by have := hA_old.lt k hk; omega))
          have hB46 := hB46.keepG E137 dj47
          have hNt2 := hNt2.keepG E137 (fun k hk => .inr (by have := hA_old.lt k hk; omega))
          have hb := below_stepG hb E137 hb.size (fun k hk => (hA_old.lt k hk).1)
          have dj142 : Dj FB F135 := Dj.stepF hN135 (fun k hk => (bd138 k hk).2) hdj.symm
          have dj143 : ¬ F135 b28 := ne_stepF hN135 bd139 djb28FA
          have dj144 : ¬ F135 b21 := ne_stepF hN135 bd140 djb21FA
          have dj145 : ¬ F135 b44 := ne_stepF hN135 bd141 dj47
          refine op_assign (ev_hit hN35 rfl) ?_
          refine reg_nil ?_
          refine hK134 _ _ ?_
          refine seq_any fun K146 hK146 => ?_
          refine seq_any fun K147 hK147 => ?_
          refine one_reg ?_
          refine op_move (ev_hit hN35 rfl) ?_
          refine reg_nil ?_
          refine hK147 _ _ ?_
          refine wp_cond_true (ev_hit hN35 rfl) ?_
          refine seq_any fun K148 hK148 => ?_
          refine one_reg ?_
          refine op_move (ev_base hN35 rfl s35_6) ?_
          refine op_loadA (cs := [(Value.int .i64 (opK (L.getD i dOp))), (Value.int .i64 (((tix 16 (opN (L.getD i dOp))) : Nat) : Int)), (opLv (L.getD i dOp)), (Value.int .u64 ((opS (L.getD i dOp)).toNat : Int)), (opRv (L.getD i dOp)), (Value.string (bs (opW (L.getD i dOp))))]) agg103 rfl (ev_hit hN35 rfl) (fun j u hu => by rw [Nat.zero_add]; exact hB46.cell hu) ?_
          refine op_move (ev_hit hN35 rfl) ?_
          refine op_fn (vs := [(ptr k15 0), (Value.agg #[(Value.int .i64 (opK (L.getD i dOp))), (Value.int .i64 (((tix 16 (opN (L.getD i dOp))) : Nat) : Int)), (opLv (L.getD i dOp)), (Value.int .u64 ((opS (L.getD i dOp)).toNat : Int)), (opRv (L.getD i dOp)), (Value.string (bs (opW (L.getD i dOp))))]), (Value.int .i64 (((tix 11 (opK (L.getD i dOp))) : Nat) : Int))]) ok58 ⟨(ev_hit hN35 rfl), ⟨(ev_hit hN35 rfl), ⟨(ev_hit hN35 rfl), trivial⟩⟩⟩ (do_ret (K := (opK (L.getD i dOp))) (n := (((tix 16 (opN (L.getD i dOp))) : Nat) : Int)) (s := ((opS (L.getD i dOp)).toNat : Int)) (l := (opL (L.getD i dOp))) (R := (opR (L.getD i dOp))) (x := (opW (L.getD i dOp))) (lo := w.heap.size) (tix 11 (opK (L.getD i dOp))) (by omega) (hU.2.2.2.1.ok (by omega)) (hU.2.2.2.1.sm (by omega)) (by first | exact hl8 | decide) (by first | exact hlg.2.1 | decide) hLi hRi (by omega) hB) ?_
          rintro _ w150 ⟨E151, rfl, F149, hl149, hN149⟩
          have bd152 := hIN.lt
          have bd153 := hNO.lt
          have bd154 := hB46.lt
          have bd155 := hl135.lt
          have hB_old := hB
          have z_w150 := E151.size
          have hr := hr.keepG E151 (fun k hk => .inr (by have := hB_old.lt k hk; omega))
          have hls : ∀ x9 ∈ (L.map opLab), RdC w150 0 w.heap.size 1 x9.1 x9.2.length (x9.2.map u16v) := fun x9 hx9 => (hls x9 hx9).keepG E151 (fun k hk => .inr (by have := hB_old.lt k hk; omega))
          have hrs : ∀ x9 ∈ (L.map opRds), RdC w150 0 w.heap.size 1 x9.1 x9.2.length (x9.2.map sv) := fun x9 hx9 => (hrs x9 hx9).keepG E151 (fun k hk => .inr (by have := hB_old.lt k hk; omega))
          have hA0 := hA0.keepG E151 (fun k hk => .inr (by have := hB_old.lt k hk; omega))
          have hIN := hIN.keepG E151 djb28FB
          have hNO := hNO.keepG E151 djb21FB
          have hNw : ∀ x9 ∈ NOW, RdC w150 0 w.heap.size 1 x9.1 x9.2.length (x9.2.map u16v) := fun x9 hx9 => (hNw x9 hx9).keepG E151 (fun k hk => .inr (by have := hB_old.lt k hk; omega))
          have hLi := hLi.keepG E151 (fun k hk => .inr (by have := hB_old.lt k hk; omega))
          have hRi := hRi.keepG E151 (fun k hk => .inr (by have := hB_old.lt k hk; omega))
          have hB46 := hB46.keepG E151 dj48
          have hNt2 := hNt2.keepG E151 (fun k hk => .inr (by have := hB_old.lt k hk; omega))
          have hl135 := hl135.keepG E151 dj142.symm
          have hb := below_stepG hb E151 hb.size (fun k hk => (hB_old.lt k hk).1)
          have dj156 : ¬ F149 b28 := ne_stepF hN149 bd152 djb28FB
          have dj157 : ¬ F149 b21 := ne_stepF hN149 bd153 djb21FB
          have dj158 : ¬ F149 b44 := ne_stepF hN149 bd154 dj48
          have dj159 : Dj F135 F149 := Dj.stepF hN149 (fun k hk => (bd155 k hk).2) dj142.symm
          refine op_move (ev_hit hN35 rfl) ?_
          refine op_neq (ev_hit hN35 rfl) (ev_hit hN35 rfl) (fun c103 => ?_) (fun c103 => ?_)
          · -- 103T
           exact absurd hSe.1 c103
          · -- 103F
           refine reg_nil ?_
           refine hK148 _ _ ?_
           refine wp_cond_false (ev_hit hN35 rfl) ?_
           refine wp_skip ?_
           refine hK146 _ _ ?_
           refine seq_any fun K160 hK160 => ?_
           refine one_reg ?_
           refine op_move (ev_hit hN35 rfl) ?_
           refine reg_nil ?_
           refine hK160 _ _ ?_
           refine wp_block ?_
           refine seq_any fun K161 hK161 => ?_
           refine one_reg ?_
           refine op_eql (ev_hit hN35 rfl) rfl (fun c106 => ?_) (fun c106 => ?_)
           · -- 106T
            exfalso; omega
           · -- 106F
            refine op_assign (ev_hit hN35 rfl) ?_
            refine reg_nil ?_
            refine hK161 _ _ ?_
            refine wp_cond_false (ev_hit hN35 rfl) ?_
            refine seq_any fun K162 hK162 => ?_
            refine seq_any fun K163 hK163 => ?_
            refine one_reg ?_
            refine op_eql (ev_hit hN35 rfl) rfl (fun c132 => ?_) (fun c132 => ?_)
            · -- 132T
             exfalso; omega
            · -- 132F
             refine op_assign (ev_hit hN35 rfl) ?_
             refine reg_nil ?_
             refine hK163 _ _ ?_
             refine wp_cond_false (ev_hit hN35 rfl) ?_
             refine one_reg ?_
             refine op_eql (ev_hit hN35 rfl) rfl (fun c133 => ?_) (fun c133 => ?_)
             · -- 133T
              exfalso; omega
             · -- 133F
              refine op_assign (ev_hit hN35 rfl) ?_
              refine reg_nil ?_
              refine hK162 _ _ ?_
              refine wp_cond_false (ev_hit hN35 rfl) ?_
              refine wp_skip ?_
              refine hK38 _ _ ?_
              refine one_reg ?_
              refine op_move (ev_base hN35 rfl s35_9) ?_
              refine op_add (ev_hit hN35 rfl) rfl (add64 (by omega)) ?_
              refine op_assign (ev_hit hN35 rfl) ?_
              refine reg_nil ?_
              -- round 19F 22T 30T 38T 54T 60F 68F 86T 91T 103F 106F 132F 133F
              have hNx : UInv aL (doM A (tix 11 (opK (L.getD i dOp))) (((tix 16 (opN (L.getD i dOp))) : Nat) : Int) (opL (L.getD i dOp)) ((opS (L.getD i dOp)).toNat : Int) (opR (L.getD i dOp)) (opW (L.getD i dOp))) (doM B (tix 11 (opK (L.getD i dOp))) (((tix 16 (opN (L.getD i dOp))) : Nat) : Int) (opL (L.getD i dOp)) ((opS (L.getD i dOp)).toNat : Int) (opR (L.getD i dOp)) (opW (L.getD i dOp))) IN NOW (3 * i + 3) := by
                have h9 := hSe.2
                rw [show inK (tix 11 (opK (L.getD i dOp))) (tix 16 (opN (L.getD i dOp))) IN = IN from if_neg (by omega)] at h9
                exact h9.mono (by omega)
              exact loop_next _ hN35 hd35 ⟨(i + 1), doM A (tix 11 (opK (L.getD i dOp))) (((tix 16 (opN (L.getD i dOp))) : Nat) : Int) (opL (L.getD i dOp)) ((opS (L.getD i dOp)).toNat : Int) (opR (L.getD i dOp)) (opW (L.getD i dOp)), doM B (tix 11 (opK (L.getD i dOp))) (((tix 16 (opN (L.getD i dOp))) : Nat) : Int) (opL (L.getD i dOp)) ((opS (L.getD i dOp)).toNat : Int) (opR (L.getD i dOp)) (opW (L.getD i dOp)), IN, NOW, F135, F149, rfl, (sl_base hN35 rfl s35_0), (sl_base hN35 rfl s35_1), (sl_base hN35 rfl s35_5), (sl_base hN35 rfl s35_6), (sl_base hN35 rfl s35_7), (sl_base hN35 rfl s35_8), (sl_hit hN35 rfl).trans (congrArg (Value.int .i64) (by omega)), (by omega), (hNx.mono (by omega)), dj159, dj143, dj156, dj144, dj157, hb, (by omega), hr, hls, hrs, hA0, hl135, hl149, hIN, hNO, hNw⟩ (by omega)
         · -- 91F
          rw [c91]
          refine op_pick_t (ev_hit hN35 rfl) (ev_hit hN35 rfl) ?_
          refine op_assign (ev_hit hN35 rfl) ?_
          refine reg_nil ?_
          refine hK131 _ _ ?_
          refine seq_any fun K164 hK164 => ?_
          refine one_reg ?_
          have hSe := hU.hide (t := (tix 16 (opN (L.getD i dOp)))) (kd := (tix 11 (opK (L.getD i dOp)))) (l := opL (L.getD i dOp)) (s := ((opS (L.getD i dOp)).toNat : Int)) (R := opR (L.getD i dOp)) (x := opW (L.getD i dOp)) ht16 (fun q => by rw [c91] at q; exact absurd q.2 (by decide)) hlg.2.1 hl8 (by omega) (fun q => hI1)
          refine op_move (ev_base hN35 rfl s35_5) ?_
          refine op_loadA (cs := [(Value.int .i64 (opK (L.getD i dOp))), (Value.int .i64 (((tix 16 (opN (L.getD i dOp))) : Nat) : Int)), (opLv (L.getD i dOp)), (Value.int .u64 ((opS (L.getD i dOp)).toNat : Int)), (opRv (L.getD i dOp)), (Value.string (bs (opW (L.getD i dOp))))]) agg103 rfl (ev_hit hN35 rfl) (fun j u hu => by rw [Nat.zero_add]; exact hB46.cell hu) ?_
          refine op_move (ev_hit hN35 rfl) ?_
          refine op_fn (vs := [(ptr k12 0), (Value.agg #[(Value.int .i64 (opK (L.getD i dOp))), (Value.int .i64 (((tix 16 (opN (L.getD i dOp))) : Nat) : Int)), (opLv (L.getD i dOp)), (Value.int .u64 ((opS (L.getD i dOp)).toNat : Int)), (opRv (L.getD i dOp)), (Value.string (bs (opW (L.getD i dOp))))]), (Value.int .i64 (((tix 11 (opK (L.getD i dOp))) : Nat) : Int))]) ok58 ⟨(ev_hit hN35 rfl), ⟨(ev_hit hN35 rfl), ⟨(ev_hit hN35 rfl), trivial⟩⟩⟩ (do_ret (K := (opK (L.getD i dOp))) (n := (((tix 16 (opN (L.getD i dOp))) : Nat) : Int)) (s := ((opS (L.getD i dOp)).toNat : Int)) (l := (opL (L.getD i dOp))) (R := (opR (L.getD i dOp))) (x := (opW (L.getD i dOp))) (lo := w.heap.size) (tix 11 (opK (L.getD i dOp))) (by omega) (hU.2.2.1.ok (by omega)) (hU.2.2.1.sm (by omega)) (by first | exact hl8 | decide) (by first | exact hlg.2.1 | decide) hLi hRi (by omega) hA) ?_
          rintro _ w166 ⟨E167, rfl, F165, hl165, hN165⟩
          have bd168 := hB.lt
          have bd169 := hIN.lt
          have bd170 := hNO.lt
          have bd171 := hB46.lt
          have hA_old := hA
          have z_w166 := E167.size
          have hr := hr.keepG E167 (fun k hk => .inr (by have := hA_old.lt k hk; omega))
          have hls : ∀ x9 ∈ (L.map opLab), RdC w166 0 w.heap.size 1 x9.1 x9.2.length (x9.2.map u16v) := fun x9 hx9 => (hls x9 hx9).keepG E167 (fun k hk => .inr (by have := hA_old.lt k hk; omega))
          have hrs : ∀ x9 ∈ (L.map opRds), RdC w166 0 w.heap.size 1 x9.1 x9.2.length (x9.2.map sv) := fun x9 hx9 => (hrs x9 hx9).keepG E167 (fun k hk => .inr (by have := hA_old.lt k hk; omega))
          have hA0 := hA0.keepG E167 (fun k hk => .inr (by have := hA_old.lt k hk; omega))
          have hB := hB.keepG E167 hdj.symm
          have hIN := hIN.keepG E167 djb28FA
          have hNO := hNO.keepG E167 djb21FA
          have hNw : ∀ x9 ∈ NOW, RdC w166 0 w.heap.size 1 x9.1 x9.2.length (x9.2.map u16v) := fun x9 hx9 => (hNw x9 hx9).keepG E167 (fun k hk => .inr (by have := hA_old.lt k hk; omega))
          have hLi := hLi.keepG E167 (fun k hk => .inr (by have := hA_old.lt k hk; omega))
          have hRi := hRi.keepG E167 (fun k hk => .inr (by have := hA_old.lt k hk; omega))
          have hB46 := hB46.keepG E167 dj47
          have hNt2 := hNt2.keepG E167 (fun k hk => .inr (by have := hA_old.lt k hk; omega))
          have hb := below_stepG hb E167 hb.size (fun k hk => (hA_old.lt k hk).1)
          have dj172 : Dj FB F165 := Dj.stepF hN165 (fun k hk => (bd168 k hk).2) hdj.symm
          have dj173 : ¬ F165 b28 := ne_stepF hN165 bd169 djb28FA
          have dj174 : ¬ F165 b21 := ne_stepF hN165 bd170 djb21FA
          have dj175 : ¬ F165 b44 := ne_stepF hN165 bd171 dj47
          refine op_assign (ev_hit hN35 rfl) ?_
          refine reg_nil ?_
          refine hK164 _ _ ?_
          refine seq_any fun K176 hK176 => ?_
          refine seq_any fun K177 hK177 => ?_
          refine one_reg ?_
          refine op_move (ev_hit hN35 rfl) ?_
          refine reg_nil ?_
          refine hK177 _ _ ?_
          refine wp_cond_false (ev_hit hN35 rfl) ?_
          refine wp_skip ?_
          refine hK176 _ _ ?_
          refine seq_any fun K178 hK178 => ?_
          refine one_reg ?_
          refine op_move (ev_hit hN35 rfl) ?_
          refine reg_nil ?_
          refine hK178 _ _ ?_
          refine wp_block ?_
          refine seq_any fun K179 hK179 => ?_
          refine one_reg ?_
          refine op_eql (ev_hit hN35 rfl) rfl (fun c106 => ?_) (fun c106 => ?_)
          · -- 106T
           exfalso; omega
          · -- 106F
           refine op_assign (ev_hit hN35 rfl) ?_
           refine reg_nil ?_
           refine hK179 _ _ ?_
           refine wp_cond_false (ev_hit hN35 rfl) ?_
           refine seq_any fun K180 hK180 => ?_
           refine seq_any fun K181 hK181 => ?_
           refine one_reg ?_
           refine op_eql (ev_hit hN35 rfl) rfl (fun c132 => ?_) (fun c132 => ?_)
           · -- 132T
            exfalso; omega
           · -- 132F
            refine op_assign (ev_hit hN35 rfl) ?_
            refine reg_nil ?_
            refine hK181 _ _ ?_
            refine wp_cond_false (ev_hit hN35 rfl) ?_
            refine one_reg ?_
            refine op_eql (ev_hit hN35 rfl) rfl (fun c133 => ?_) (fun c133 => ?_)
            · -- 133T
             exfalso; omega
            · -- 133F
             refine op_assign (ev_hit hN35 rfl) ?_
             refine reg_nil ?_
             refine hK180 _ _ ?_
             refine wp_cond_false (ev_hit hN35 rfl) ?_
             refine wp_skip ?_
             refine hK38 _ _ ?_
             refine one_reg ?_
             refine op_move (ev_base hN35 rfl s35_9) ?_
             refine op_add (ev_hit hN35 rfl) rfl (add64 (by omega)) ?_
             refine op_assign (ev_hit hN35 rfl) ?_
             refine reg_nil ?_
             -- round 19F 22T 30T 38T 54T 60F 68F 86T 91F 106F 132F 133F
             have hNx : UInv aL (doM A (tix 11 (opK (L.getD i dOp))) (((tix 16 (opN (L.getD i dOp))) : Nat) : Int) (opL (L.getD i dOp)) ((opS (L.getD i dOp)).toNat : Int) (opR (L.getD i dOp)) (opW (L.getD i dOp))) (B) IN NOW (3 * i + 3) := by
               have h9 := hSe
               rw [show inK (tix 11 (opK (L.getD i dOp))) (tix 16 (opN (L.getD i dOp))) IN = IN from if_neg (by omega)] at h9
               exact h9.mono (by omega)
             exact loop_next _ hN35 hd35 ⟨(i + 1), doM A (tix 11 (opK (L.getD i dOp))) (((tix 16 (opN (L.getD i dOp))) : Nat) : Int) (opL (L.getD i dOp)) ((opS (L.getD i dOp)).toNat : Int) (opR (L.getD i dOp)) (opW (L.getD i dOp)), B, IN, NOW, F165, FB, rfl, (sl_base hN35 rfl s35_0), (sl_base hN35 rfl s35_1), (sl_base hN35 rfl s35_5), (sl_base hN35 rfl s35_6), (sl_base hN35 rfl s35_7), (sl_base hN35 rfl s35_8), (sl_hit hN35 rfl).trans (congrArg (Value.int .i64) (by omega)), (by omega), (hNx.mono (by omega)), dj172.symm, dj173, djb28FB, dj174, djb21FB, hb, (by omega), hr, hls, hrs, hA0, hl165, hB, hIN, hNO, hNw⟩ (by omega)
        · -- 86F
         rw [hI1] at c86; cases c86
     · -- 54F
      refine op_move (ev_hit hN35 rfl) ?_
      refine g_false (j := 2) (dj := 55) (b := true) rfl rfl rfl (ev_hit hN35 rfl) rfl rfl ?_
      refine g_false (j := 2) (dj := 55) (b := true) rfl rfl rfl (ev_hit hN35 rfl) rfl rfl ?_
      refine g_false (j := 2) (dj := 55) (b := true) rfl rfl rfl (ev_hit hN35 rfl) rfl rfl ?_
      refine g_false (j := 2) (dj := 55) (b := true) rfl rfl rfl (ev_hit hN35 rfl) rfl rfl ?_
      refine op_pick_f (ev_hit hN35 rfl) rfl ?_
      refine reg_nil ?_
      refine hK65 _ _ ?_
      refine wp_cond_false (ev_hit hN35 rfl) ?_
      refine wp_skip ?_
      refine hK64 _ _ ?_
      refine seq_any fun K182 hK182 => ?_
      refine seq_any fun K183 hK183 => ?_
      have hNt2 : RdC w60 0 w.heap.size 1 (NOW.getD (tix 16 (opN (L.getD i dOp))) DU).1 (NOW.getD (tix 16 (opN (L.getD i dOp))) DU).2.length ((NOW.getD (tix 16 (opN (L.getD i dOp))) DU).2.map u16v) := hNw _ (getD_mem (by first | omega | (simp only [List.length_set]; omega)))
      have hl9 : (NOW.getD (tix 16 (opN (L.getD i dOp))) DU).2.length ≤ 8 := hU.2.2.2.2.2.2.2 _ (getD_mem (by omega))
      refine reg_from mixed ?_
      intro w185 E184
      have z_w185 := E184.size
      have hr := hr.keep0 E184
      have hls : ∀ x9 ∈ (L.map opLab), RdC w185 0 w.heap.size 1 x9.1 x9.2.length (x9.2.map u16v) := fun x9 hx9 => (hls x9 hx9).keep0 E184
      have hrs : ∀ x9 ∈ (L.map opRds), RdC w185 0 w.heap.size 1 x9.1 x9.2.length (x9.2.map sv) := fun x9 hx9 => (hrs x9 hx9).keep0 E184
      have hA0 := hA0.keep0 E184
      have hA := hA.keepG (Gr.of0 E184 NoB) (fun _ _ h => h)
      have hB := hB.keepG (Gr.of0 E184 NoB) (fun _ _ h => h)
      have hIN := hIN.keep0 E184
      have hNO := hNO.keep0 E184
      have hNw : ∀ x9 ∈ NOW, RdC w185 0 w.heap.size 1 x9.1 x9.2.length (x9.2.map u16v) := fun x9 hx9 => (hNw x9 hx9).keep0 E184
      have hLi := hLi.keep0 E184
      have hRi := hRi.keep0 E184
      have hB46 := hB46.keep0 E184
      have hNt2 := hNt2.keep0 E184
      have hb := below_step0 hb E184 hb.size
      refine from_still (m := 13) 13 (hd := [_, _, _, _, _, _, _, _, _, _, _, _, _]) (by kernel_rfl) rfl rfl ?_
      refine st_step rfl (fun _ h9 => op_move (ev_hit hN35 rfl) h9) ?_
      by_cases g68 : (((tix 11 (opK (L.getD i dOp))) : Nat) : Int) = 2
      · -- 68T
       refine st_step rfl (fun _ h9 => op_cmp (b := true) (ev_hit hN35 rfl) rfl (b_eql (decide_eq_true g68)) h9) ?_
       refine st_step rfl (fun _ h9 => op_move (ev_hit hN35 rfl) h9) ?_
       refine st_g_true (j := 2) (dj := 69) (b := true) rfl rfl rfl (ev_hit hN35 rfl) ?_
       refine st_step rfl (fun _ h9 => op_move (ev_hit hN35 rfl) h9) ?_
       refine st_g_true (j := 2) (dj := 69) (b := true) rfl rfl rfl (ev_hit hN35 rfl) ?_
       refine st_step rfl (fun _ h9 => op_index_arr1 (j := (tix 16 (opN (L.getD i dOp)))) arr108 (ev_base hN35 rfl s35_8) (ev_hit hN35 rfl) (by omega) (by omega) h9) ?_
       refine st_g_true (j := 2) (dj := 69) (b := true) rfl rfl rfl (ev_hit hN35 rfl) ?_
       refine st_step rfl (fun _ h9 => op_load1 (v := (Value.bool (IN.getD (tix 16 (opN (L.getD i dOp))) false))) one4 (ev_hit hN35 rfl) (hIN.cell (row_at (d := false) (by first | omega | (simp only [List.length_set]; omega)))) h9) ?_
       refine st_step rfl (fun _ h9 => op_pick_t (ev_hit hN35 rfl) (ev_hit hN35 rfl) h9) ?_
       refine st_step rfl (fun _ h9 => op_move (ev_hit hN35 rfl) h9) ?_
       rcases Bool.eq_false_or_eq_true ((IN.getD (tix 16 (opN (L.getD i dOp))) false)) with g74 | g74
       · -- 74T
        rw [g74]
        refine st_g_true (j := 7) (dj := 74) (b := true) rfl rfl rfl (ev_hit hN35 rfl) ?_
        refine st_step rfl (fun _ h9 => op_move (ev_hit hN35 rfl) h9) ?_
        refine st_g_true (j := 7) (dj := 74) (b := true) rfl rfl rfl (ev_hit hN35 rfl) ?_
        refine st_step rfl (fun _ h9 => op_index_arr1 (j := (tix 16 (opN (L.getD i dOp)))) arr107 (ev_base hN35 rfl s35_7) (ev_hit hN35 rfl) (by omega) (by omega) h9) ?_
        refine st_g_true (j := 7) (dj := 74) (b := true) rfl rfl rfl (ev_hit hN35 rfl) ?_
        refine st_step rfl (fun _ h9 => op_load1 (v := (NOW.getD (tix 16 (opN (L.getD i dOp))) DU).1) one54 (ev_hit hN35 rfl) (hNO.cell (row_at (d := DU) (by first | omega | (simp only [List.length_set]; omega)))) h9) ?_
        refine st_g_true (j := 7) (dj := 74) (b := true) rfl rfl rfl (ev_hit hN35 rfl) ?_
        refine st_step rfl (fun _ h9 => op_field fld103_2 (ev_hit hN35 rfl) h9) ?_
        refine st_g_true (j := 7) (dj := 74) (b := true) rfl rfl rfl (ev_hit hN35 rfl) ?_
        refine st_step rfl (fun _ h9 => op_load1 (v := (opLv (L.getD i dOp))) one54 (ev_hit hN35 rfl) (hB46.cell rfl) h9) ?_
        refine st_nil ?_
        refine from_seq (tl := [_, _, _]) (by decide) (by kernel_rfl) rfl ?_
        refine g_true (j := 7) (dj := 74) (b := true) rfl rfl rfl (ev_hit hN35 rfl) ?_
        refine op_fn (vs := [(NOW.getD (tix 16 (opN (L.getD i dOp))) DU).1, (opLv (L.getD i dOp))]) ok50 ⟨(ev_hit hN35 rfl), ⟨(ev_hit hN35 rfl), trivial⟩⟩ (rflowsW_ret (NOW.getD (tix 16 (opN (L.getD i dOp))) DU).2 (opL (L.getD i dOp)) _ _ _ (by first | assumption | omega | (simp only [List.length_append, List.length_cons, List.length_nil, List.length_drop, List.length_take]; omega) | (dsimp only; omega) | decide | (simp [keyV, be8_len]; done)) (by first | assumption | omega | (simp only [List.length_append, List.length_cons, List.length_nil, List.length_drop, List.length_take]; omega) | (dsimp only; omega) | decide | (simp [keyV, be8_len]; done)) (show RdC w185 0 w185.heap.size 1 (NOW.getD (tix 16 (opN (L.getD i dOp))) DU).1 (NOW.getD (tix 16 (opN (L.getD i dOp))) DU).2.length ((NOW.getD (tix 16 (opN (L.getD i dOp))) DU).2.map u16v) from by have hh : RdC w185 0 w185.heap.size 1 _ _ _ := (hNt2.mono (L' := 0) (B' := w185.heap.size) (Nat.zero_le _) (by omega)); first | exact hh | exact hh.cast (by first | omega | (simp; try omega)) (by first | rfl | simp [u16v])) (show RdC w185 0 w185.heap.size 1 (opLv (L.getD i dOp)) (opL (L.getD i dOp)).length ((opL (L.getD i dOp)).map u16v) from by have hh : RdC w185 0 w185.heap.size 1 _ _ _ := (hLi.mono (L' := 0) (B' := w185.heap.size) (Nat.zero_le _) (by omega)); first | exact hh | exact hh.cast (by first | omega | (simp; try omega)) (by first | rfl | simp [u16v]))) ?_
        rintro _ w186 ⟨E187, rfl⟩
        have E187 := grown_of_below E187
        have z_w186 := E187.size
        have hr := hr.keep0 E187
        have hls : ∀ x9 ∈ (L.map opLab), RdC w186 0 w.heap.size 1 x9.1 x9.2.length (x9.2.map u16v) := fun x9 hx9 => (hls x9 hx9).keep0 E187
        have hrs : ∀ x9 ∈ (L.map opRds), RdC w186 0 w.heap.size 1 x9.1 x9.2.length (x9.2.map sv) := fun x9 hx9 => (hrs x9 hx9).keep0 E187
        have hA0 := hA0.keep0 E187
        have hA := hA.keepG (Gr.of0 E187 NoB) (fun _ _ h => h)
        have hB := hB.keepG (Gr.of0 E187 NoB) (fun _ _ h => h)
        have hIN := hIN.keep0 E187
        have hNO := hNO.keep0 E187
        have hNw : ∀ x9 ∈ NOW, RdC w186 0 w.heap.size 1 x9.1 x9.2.length (x9.2.map u16v) := fun x9 hx9 => (hNw x9 hx9).keep0 E187
        have hLi := hLi.keep0 E187
        have hRi := hRi.keep0 E187
        have hB46 := hB46.keep0 E187
        have hNt2 := hNt2.keep0 E187
        have hb := below_step0 hb E187 hb.size
        rcases Bool.eq_false_or_eq_true ((flowsL (NOW.getD (tix 16 (opN (L.getD i dOp))) DU).2 (opL (L.getD i dOp)))) with c80 | c80
        · -- 80T
         rw [c80]
         refine g_true (j := 7) (dj := 74) (b := true) rfl rfl rfl (ev_hit hN35 rfl) ?_
         refine op_not (ev_hit hN35 rfl) ?_
         refine op_pick_t (ev_hit hN35 rfl) (ev_hit hN35 rfl) ?_
         refine reg_nil ?_
         refine hK183 _ _ ?_
         refine wp_cond_false (ev_hit hN35 rfl) ?_
         refine wp_skip ?_
         refine hK182 _ _ ?_
         refine seq_any fun K188 hK188 => ?_
         refine one_reg ?_
         refine op_move (ev_hit hN35 rfl) ?_
         refine op_index_arr1 (j := (tix 16 (opN (L.getD i dOp)))) arr108 (ev_base hN35 rfl s35_8) (ev_hit hN35 rfl) (by omega) (by omega) ?_
         refine op_load1 (v := (Value.bool (IN.getD (tix 16 (opN (L.getD i dOp))) false))) one4 (ev_hit hN35 rfl) (hIN.cell (row_at (d := false) (by first | omega | (simp only [List.length_set]; omega)))) ?_
         rcases Bool.eq_false_or_eq_true ((IN.getD (tix 16 (opN (L.getD i dOp))) false)) with c86 | c86
         · -- 86T
          rw [c86]
          refine op_move (ev_hit hN35 rfl) ?_
          refine g_true (j := 3) (dj := 86) (b := true) rfl rfl rfl (ev_hit hN35 rfl) ?_
          refine op_move (ev_hit hN35 rfl) ?_
          refine g_true (j := 3) (dj := 86) (b := true) rfl rfl rfl (ev_hit hN35 rfl) ?_
          refine op_index_arr1 (j := (tix 16 (opN (L.getD i dOp)))) arr107 (ev_base hN35 rfl s35_7) (ev_hit hN35 rfl) (by omega) (by omega) ?_
          refine g_true (j := 3) (dj := 86) (b := true) rfl rfl rfl (ev_hit hN35 rfl) ?_
          refine op_load1 (v := (NOW.getD (tix 16 (opN (L.getD i dOp))) DU).1) one54 (ev_hit hN35 rfl) (hNO.cell (row_at (d := DU) (by first | omega | (simp only [List.length_set]; omega)))) ?_
          refine g_true (j := 3) (dj := 86) (b := true) rfl rfl rfl (ev_hit hN35 rfl) ?_
          refine op_move (ev_base hN35 rfl s35_1) ?_
          refine g_true (j := 3) (dj := 86) (b := true) rfl rfl rfl (ev_hit hN35 rfl) ?_
          refine op_fn (vs := [(NOW.getD (tix 16 (opN (L.getD i dOp))) DU).1, vA]) ok50 ⟨(ev_hit hN35 rfl), ⟨(ev_hit hN35 rfl), trivial⟩⟩ (rflowsW_ret (NOW.getD (tix 16 (opN (L.getD i dOp))) DU).2 aL _ _ _ (by first | assumption | omega | (simp only [List.length_append, List.length_cons, List.length_nil, List.length_drop, List.length_take]; omega) | (dsimp only; omega) | decide | (simp [keyV, be8_len]; done)) (by first | assumption | omega | (simp only [List.length_append, List.length_cons, List.length_nil, List.length_drop, List.length_take]; omega) | (dsimp only; omega) | decide | (simp [keyV, be8_len]; done)) (show RdC w186 0 w186.heap.size 1 (NOW.getD (tix 16 (opN (L.getD i dOp))) DU).1 (NOW.getD (tix 16 (opN (L.getD i dOp))) DU).2.length ((NOW.getD (tix 16 (opN (L.getD i dOp))) DU).2.map u16v) from by have hh : RdC w186 0 w186.heap.size 1 _ _ _ := (hNt2.mono (L' := 0) (B' := w186.heap.size) (Nat.zero_le _) (by omega)); first | exact hh | exact hh.cast (by first | omega | (simp; try omega)) (by first | rfl | simp [u16v])) (show RdC w186 0 w186.heap.size 1 vA aL.length (aL.map u16v) from by have hh : RdC w186 0 w186.heap.size 1 _ _ _ := (hA0.mono (L' := 0) (B' := w186.heap.size) (Nat.zero_le _) (by omega)); first | exact hh | exact hh.cast (by first | omega | (simp; try omega)) (by first | rfl | simp [u16v]))) ?_
          rintro _ w189 ⟨E190, rfl⟩
          have E190 := grown_of_below E190
          have z_w189 := E190.size
          have hr := hr.keep0 E190
          have hls : ∀ x9 ∈ (L.map opLab), RdC w189 0 w.heap.size 1 x9.1 x9.2.length (x9.2.map u16v) := fun x9 hx9 => (hls x9 hx9).keep0 E190
          have hrs : ∀ x9 ∈ (L.map opRds), RdC w189 0 w.heap.size 1 x9.1 x9.2.length (x9.2.map sv) := fun x9 hx9 => (hrs x9 hx9).keep0 E190
          have hA0 := hA0.keep0 E190
          have hA := hA.keepG (Gr.of0 E190 NoB) (fun _ _ h => h)
          have hB := hB.keepG (Gr.of0 E190 NoB) (fun _ _ h => h)
          have hIN := hIN.keep0 E190
          have hNO := hNO.keep0 E190
          have hNw : ∀ x9 ∈ NOW, RdC w189 0 w.heap.size 1 x9.1 x9.2.length (x9.2.map u16v) := fun x9 hx9 => (hNw x9 hx9).keep0 E190
          have hLi := hLi.keep0 E190
          have hRi := hRi.keep0 E190
          have hB46 := hB46.keep0 E190
          have hNt2 := hNt2.keep0 E190
          have hb := below_step0 hb E190 hb.size
          rcases Bool.eq_false_or_eq_true ((flowsL (NOW.getD (tix 16 (opN (L.getD i dOp))) DU).2 aL)) with c91 | c91
          · -- 91T
           rw [c91]
           refine op_pick_t (ev_hit hN35 rfl) (ev_hit hN35 rfl) ?_
           refine op_assign (ev_hit hN35 rfl) ?_
           refine reg_nil ?_
           refine hK188 _ _ ?_
           refine seq_any fun K191 hK191 => ?_
           refine one_reg ?_
           have hSM := hU.mv (t := (tix 16 (opN (L.getD i dOp)))) (s := ((opS (L.getD i dOp)).toNat : Int)) (o := opLab (L.getD i dOp)) ht16 hl8
           refine op_move (ev_base hN35 rfl s35_5) ?_
           refine op_loadA (cs := [(Value.int .i64 (opK (L.getD i dOp))), (Value.int .i64 (((tix 16 (opN (L.getD i dOp))) : Nat) : Int)), (opLv (L.getD i dOp)), (Value.int .u64 ((opS (L.getD i dOp)).toNat : Int)), (opRv (L.getD i dOp)), (Value.string (bs (opW (L.getD i dOp))))]) agg103 rfl (ev_hit hN35 rfl) (fun j u hu => by rw [Nat.zero_add]; exact hB46.cell hu) ?_
           refine op_move (ev_hit hN35 rfl) ?_
           refine op_fn (vs := [(ptr k12 0), (Value.agg #[(Value.int .i64 (opK (L.getD i dOp))), (Value.int .i64 (((tix 16 (opN (L.getD i dOp))) : Nat) : Int)), (opLv (L.getD i dOp)), (Value.int .u64 ((opS (L.getD i dOp)).toNat : Int)), (opRv (L.getD i dOp)), (Value.string (bs (opW (L.getD i dOp))))]), (Value.int .i64 (((tix 11 (opK (L.getD i dOp))) : Nat) : Int))]) ok58 ⟨(ev_hit hN35 rfl), ⟨(ev_hit hN35 rfl), ⟨(ev_hit hN35 rfl), trivial⟩⟩⟩ (do_ret (K := (opK (L.getD i dOp))) (n := (((tix 16 (opN (L.getD i dOp))) : Nat) : Int)) (s := ((opS (L.getD i dOp)).toNat : Int)) (l := (opL (L.getD i dOp))) (R := (opR (L.getD i dOp))) (x := (opW (L.getD i dOp))) (lo := w.heap.size) (tix 11 (opK (L.getD i dOp))) (by omega) (hU.2.2.1.ok (by omega)) (hU.2.2.1.sm (by omega)) (by first | exact hl8 | decide) (by first | exact hlg.2.1 | decide) hLi hRi (by omega) hA) ?_
           rintro _ w193 ⟨E194, rfl, F192, hl192, hN192⟩
           have bd195 := hB.lt
           have bd196 := hIN.lt
           have bd197 := hNO.lt
           have bd198 := hB46.lt
           have hA_old := hA
           have z_w193 := E194.size
           have hr := hr.keepG E194 (fun k hk => .inr (by have := hA_old.lt k hk; omega))
           have hls : ∀ x9 ∈ (L.map opLab), RdC w193 0 w.heap.size 1 x9.1 x9.2.length (x9.2.map u16v) := fun x9 hx9 => (hls x9 hx9).keepG E194 (fun k hk => .inr (by have := hA_old.lt k hk; omega))
           have hrs : ∀ x9 ∈ (L.map opRds), RdC w193 0 w.heap.size 1 x9.1 x9.2.length (x9.2.map sv) := fun x9 hx9 => (hrs x9 hx9).keepG E194 (fun k hk => .inr (by have := hA_old.lt k hk; omega))
           have hA0 := hA0.keepG E194 (fun k hk => .inr (by have := hA_old.lt k hk; omega))
           have hB := hB.keepG E194 hdj.symm
           have hIN := hIN.keepG E194 djb28FA
           have hNO := hNO.keepG E194 djb21FA
           have hNw : ∀ x9 ∈ NOW, RdC w193 0 w.heap.size 1 x9.1 x9.2.length (x9.2.map u16v) := fun x9 hx9 => (hNw x9 hx9).keepG E194 (fun k hk => .inr (by have := hA_old.lt k hk; omega))
           have hLi := hLi.keepG E194 (fun k hk => .inr (by have := hA_old.lt k hk; omega))
           have hRi := hRi.keepG E194 (fun k hk => .inr (by have := hA_old.lt k hk; omega))
           have hB46 := hB46.keepG E194 dj47
           have hNt2 := hNt2.keepG E194 (fun k hk => .inr (by have := hA_old.lt k hk; omega))
           have hb := below_stepG hb E194 hb.size (fun k hk => (hA_old.lt k hk).1)
           have dj199 : Dj FB F192 := Dj.stepF hN192 (fun k hk => (bd195 k hk).2) hdj.symm
           have dj200 : ¬ F192 b28 := ne_stepF hN192 bd196 djb28FA
           have dj201 : ¬ F192 b21 := ne_stepF hN192 bd197 djb21FA
           have dj202 : ¬ F192 b44 := ne_stepF hN192 bd198 dj47
           refine op_assign (ev_hit hN35 rfl) ?_
           refine reg_nil ?_
           refine hK191 _ _ ?_
           refine seq_any fun K203 hK203 => ?_
           refine seq_any fun K204 hK204 => ?_
           refine one_reg ?_
           refine op_move (ev_hit hN35 rfl) ?_
           refine reg_nil ?_
           refine hK204 _ _ ?_
           refine wp_cond_true (ev_hit hN35 rfl) ?_
           refine seq_any fun K205 hK205 => ?_
           refine one_reg ?_
           refine op_move (ev_base hN35 rfl s35_6) ?_
           refine op_loadA (cs := [(Value.int .i64 (opK (L.getD i dOp))), (Value.int .i64 (((tix 16 (opN (L.getD i dOp))) : Nat) : Int)), (opLv (L.getD i dOp)), (Value.int .u64 ((opS (L.getD i dOp)).toNat : Int)), (opRv (L.getD i dOp)), (Value.string (bs (opW (L.getD i dOp))))]) agg103 rfl (ev_hit hN35 rfl) (fun j u hu => by rw [Nat.zero_add]; exact hB46.cell hu) ?_
           refine op_move (ev_hit hN35 rfl) ?_
           refine op_fn (vs := [(ptr k15 0), (Value.agg #[(Value.int .i64 (opK (L.getD i dOp))), (Value.int .i64 (((tix 16 (opN (L.getD i dOp))) : Nat) : Int)), (opLv (L.getD i dOp)), (Value.int .u64 ((opS (L.getD i dOp)).toNat : Int)), (opRv (L.getD i dOp)), (Value.string (bs (opW (L.getD i dOp))))]), (Value.int .i64 (((tix 11 (opK (L.getD i dOp))) : Nat) : Int))]) ok58 ⟨(ev_hit hN35 rfl), ⟨(ev_hit hN35 rfl), ⟨(ev_hit hN35 rfl), trivial⟩⟩⟩ (do_ret (K := (opK (L.getD i dOp))) (n := (((tix 16 (opN (L.getD i dOp))) : Nat) : Int)) (s := ((opS (L.getD i dOp)).toNat : Int)) (l := (opL (L.getD i dOp))) (R := (opR (L.getD i dOp))) (x := (opW (L.getD i dOp))) (lo := w.heap.size) (tix 11 (opK (L.getD i dOp))) (by omega) (hU.2.2.2.1.ok (by omega)) (hU.2.2.2.1.sm (by omega)) (by first | exact hl8 | decide) (by first | exact hlg.2.1 | decide) hLi hRi (by omega) hB) ?_
           rintro _ w207 ⟨E208, rfl, F206, hl206, hN206⟩
           have bd209 := hIN.lt
           have bd210 := hNO.lt
           have bd211 := hB46.lt
           have bd212 := hl192.lt
           have hB_old := hB
           have z_w207 := E208.size
           have hr := hr.keepG E208 (fun k hk => .inr (by have := hB_old.lt k hk; omega))
           have hls : ∀ x9 ∈ (L.map opLab), RdC w207 0 w.heap.size 1 x9.1 x9.2.length (x9.2.map u16v) := fun x9 hx9 => (hls x9 hx9).keepG E208 (fun k hk => .inr (by have := hB_old.lt k hk; omega))
           have hrs : ∀ x9 ∈ (L.map opRds), RdC w207 0 w.heap.size 1 x9.1 x9.2.length (x9.2.map sv) := fun x9 hx9 => (hrs x9 hx9).keepG E208 (fun k hk => .inr (by have := hB_old.lt k hk; omega))
           have hA0 := hA0.keepG E208 (fun k hk => .inr (by have := hB_old.lt k hk; omega))
           have hIN := hIN.keepG E208 djb28FB
           have hNO := hNO.keepG E208 djb21FB
           have hNw : ∀ x9 ∈ NOW, RdC w207 0 w.heap.size 1 x9.1 x9.2.length (x9.2.map u16v) := fun x9 hx9 => (hNw x9 hx9).keepG E208 (fun k hk => .inr (by have := hB_old.lt k hk; omega))
           have hLi := hLi.keepG E208 (fun k hk => .inr (by have := hB_old.lt k hk; omega))
           have hRi := hRi.keepG E208 (fun k hk => .inr (by have := hB_old.lt k hk; omega))
           have hB46 := hB46.keepG E208 dj48
           have hNt2 := hNt2.keepG E208 (fun k hk => .inr (by have := hB_old.lt k hk; omega))
           have hl192 := hl192.keepG E208 dj199.symm
           have hb := below_stepG hb E208 hb.size (fun k hk => (hB_old.lt k hk).1)
           have dj213 : ¬ F206 b28 := ne_stepF hN206 bd209 djb28FB
           have dj214 : ¬ F206 b21 := ne_stepF hN206 bd210 djb21FB
           have dj215 : ¬ F206 b44 := ne_stepF hN206 bd211 dj48
           have dj216 : Dj F192 F206 := Dj.stepF hN206 (fun k hk => (bd212 k hk).2) dj199.symm
           refine op_move (ev_hit hN35 rfl) ?_
           refine op_neq (ev_hit hN35 rfl) (ev_hit hN35 rfl) (fun c103 => ?_) (fun c103 => ?_)
           · -- 103T
            exact absurd ((doV_2 (by omega)).trans (((hSM.2 c86 c80).2.2 c91).1.trans (doV_2 (by omega)).symm)) c103
           · -- 103F
            refine reg_nil ?_
            refine hK205 _ _ ?_
            refine wp_cond_false (ev_hit hN35 rfl) ?_
            refine wp_skip ?_
            refine hK203 _ _ ?_
            refine seq_any fun K217 hK217 => ?_
            refine one_reg ?_
            refine op_move (ev_hit hN35 rfl) ?_
            refine reg_nil ?_
            refine hK217 _ _ ?_
            refine wp_block ?_
            refine seq_any fun K218 hK218 => ?_
            refine one_reg ?_
            refine op_eql (ev_hit hN35 rfl) rfl (fun c106 => ?_) (fun c106 => ?_)
            · -- 106T
             refine op_assign (ev_hit hN35 rfl) ?_
             refine reg_nil ?_
             refine hK218 _ _ ?_
             refine wp_cond_true (ev_hit hN35 rfl) ?_
             refine seq_any fun K219 hK219 => ?_
             refine one_reg ?_
             refine op_move (ev_hit hN35 rfl) ?_
             refine op_index_arr1 (j := (tix 16 (opN (L.getD i dOp)))) arr108 (ev_base hN35 rfl s35_8) (ev_hit hN35 rfl) (by omega) (by omega) ?_
             refine op_load1 (v := (Value.bool (IN.getD (tix 16 (opN (L.getD i dOp))) false))) one4 (ev_hit hN35 rfl) (hIN.cell (row_at (d := false) (by first | omega | (simp only [List.length_set]; omega)))) ?_
             rcases Bool.eq_false_or_eq_true ((IN.getD (tix 16 (opN (L.getD i dOp))) false)) with c110 | c110
             · -- 110T
              rw [c110]
              refine op_move (ev_hit hN35 rfl) ?_
              refine g_true (j := 3) (dj := 110) (b := true) rfl rfl rfl (ev_hit hN35 rfl) ?_
              refine op_move (ev_hit hN35 rfl) ?_
              refine g_true (j := 3) (dj := 110) (b := true) rfl rfl rfl (ev_hit hN35 rfl) ?_
              refine op_eql (ev_hit hN35 rfl) rfl (fun c112 => ?_) (fun c112 => ?_)
              · -- 112T
               refine op_pick_t (ev_hit hN35 rfl) (ev_hit hN35 rfl) ?_
               refine reg_nil ?_
               refine hK219 _ _ ?_
               refine wp_cond_true (ev_hit hN35 rfl) ?_
               refine seq_any fun K220 hK220 => ?_
               refine one_reg ?_
               refine op_move (ev_hit hN35 rfl) ?_
               refine op_field fld103_2 (ev_hit hN35 rfl) ?_
               refine op_load1 (v := (opLv (L.getD i dOp))) one54 (ev_hit hN35 rfl) (hB46.cell rfl) ?_
               refine op_index_arr1 (j := (tix 16 (opN (L.getD i dOp)))) arr107 (ev_base hN35 rfl s35_7) (ev_hit hN35 rfl) (by omega) (by omega) ?_
               have hNO_old := hNO
               refine op_store_row (v := (opLv (L.getD i dOp))) size54 (ev_hit hN35 rfl) (ev_hit hN35 rfl) hLi.cla hLi.one hNO (by rw [List.length_map]; omega) ?_
               intro w221 hNO E222
               have z_w221 := E222.size
               have hr := hr.keep E222 (fun k hk => .inr (by simp at hk; omega))
               have hls : ∀ x9 ∈ (L.map opLab), RdC w221 0 w.heap.size 1 x9.1 x9.2.length (x9.2.map u16v) := fun x9 hx9 => (hls x9 hx9).keep E222 (fun k hk => .inr (by simp at hk; omega))
               have hrs : ∀ x9 ∈ (L.map opRds), RdC w221 0 w.heap.size 1 x9.1 x9.2.length (x9.2.map sv) := fun x9 hx9 => (hrs x9 hx9).keep E222 (fun k hk => .inr (by simp at hk; omega))
               have hA0 := hA0.keep E222 (fun k hk => .inr (by simp at hk; omega))
               have hIN := hIN.keep E222 (fun hh => hIN.ne hNO_old (by decide) (Option.some.inj hh))
               have hNw : ∀ x9 ∈ NOW, RdC w221 0 w.heap.size 1 x9.1 x9.2.length (x9.2.map u16v) := fun x9 hx9 => (hNw x9 hx9).keep E222 (fun k hk => .inr (by simp at hk; omega))
               have hLi := hLi.keep E222 (fun k hk => .inr (by simp at hk; omega))
               have hRi := hRi.keep E222 (fun k hk => .inr (by simp at hk; omega))
               have hB46 := hB46.keep E222 (fun hh => hB46.ne hNO_old (by decide) (Option.some.inj hh))
               have hNt2 := hNt2.keep E222 (fun k hk => .inr (by simp at hk; omega))
               have hl192 := hl192.keepG (Gr.of E222) (Dj.one dj201)
               have hl206 := hl206.keepG (Gr.of E222) (Dj.one dj214)
               have hb := below_step1 hb E222 hb.size (by omega)
               have hNO : Bx w221 b21 107 (((NOW.set (tix 16 (opN (L.getD i dOp))) (opLab (L.getD i dOp))).map Prod.fst)) := row_set hNO
               refine reg_nil ?_
               refine hK220 _ _ ?_
               refine seq_any fun K223 hK223 => ?_
               refine one_reg ?_
               have hNw3 : ∀ x9 ∈ (NOW.set (tix 16 (opN (L.getD i dOp))) (opLab (L.getD i dOp))), RdC w221 0 w.heap.size 1 x9.1 x9.2.length (x9.2.map u16v) := rall_set hNw hLi
               have hNt3 : RdC w221 0 w.heap.size 1 ((NOW.set (tix 16 (opN (L.getD i dOp))) (opLab (L.getD i dOp))).getD (tix 16 (opN (L.getD i dOp))) DU).1 ((NOW.set (tix 16 (opN (L.getD i dOp))) (opLab (L.getD i dOp))).getD (tix 16 (opN (L.getD i dOp))) DU).2.length (((NOW.set (tix 16 (opN (L.getD i dOp))) (opLab (L.getD i dOp))).getD (tix 16 (opN (L.getD i dOp))) DU).2.map u16v) := hNw3 _ (getD_mem (by first | omega | (simp only [List.length_set]; omega)))
               have hl93 : ((NOW.set (tix 16 (opN (L.getD i dOp))) (opLab (L.getD i dOp))).getD (tix 16 (opN (L.getD i dOp))) DU).2.length ≤ 8 := by rw [show (NOW.set (tix 16 (opN (L.getD i dOp))) (opLab (L.getD i dOp))).getD (tix 16 (opN (L.getD i dOp))) DU = opLab (L.getD i dOp) from by rw [getD_set (by omega)]; exact if_pos rfl]; exact hl8
               refine op_move (ev_hit hN35 rfl) ?_
               refine op_index_arr1 (j := (tix 16 (opN (L.getD i dOp)))) arr107 (ev_base hN35 rfl s35_7) (ev_hit hN35 rfl) (by omega) (by omega) ?_
               refine op_load1 (v := ((NOW.set (tix 16 (opN (L.getD i dOp))) (opLab (L.getD i dOp))).getD (tix 16 (opN (L.getD i dOp))) DU).1) one54 (ev_hit hN35 rfl) (hNO.cell (row_at (d := DU) (by first | omega | (simp only [List.length_set]; omega)))) ?_
               refine op_move (ev_base hN35 rfl s35_1) ?_
               refine op_fn (vs := [((NOW.set (tix 16 (opN (L.getD i dOp))) (opLab (L.getD i dOp))).getD (tix 16 (opN (L.getD i dOp))) DU).1, vA]) ok50 ⟨(ev_hit hN35 rfl), ⟨(ev_hit hN35 rfl), trivial⟩⟩ (rflowsW_ret ((NOW.set (tix 16 (opN (L.getD i dOp))) (opLab (L.getD i dOp))).getD (tix 16 (opN (L.getD i dOp))) DU).2 aL _ _ _ (by first | assumption | omega | (simp only [List.length_append, List.length_cons, List.length_nil, List.length_drop, List.length_take]; omega) | (dsimp only; omega) | decide | (simp [keyV, be8_len]; done)) (by first | assumption | omega | (simp only [List.length_append, List.length_cons, List.length_nil, List.length_drop, List.length_take]; omega) | (dsimp only; omega) | decide | (simp [keyV, be8_len]; done)) (show RdC w221 0 w221.heap.size 1 ((NOW.set (tix 16 (opN (L.getD i dOp))) (opLab (L.getD i dOp))).getD (tix 16 (opN (L.getD i dOp))) DU).1 ((NOW.set (tix 16 (opN (L.getD i dOp))) (opLab (L.getD i dOp))).getD (tix 16 (opN (L.getD i dOp))) DU).2.length (((NOW.set (tix 16 (opN (L.getD i dOp))) (opLab (L.getD i dOp))).getD (tix 16 (opN (L.getD i dOp))) DU).2.map u16v) from by have hh : RdC w221 0 w221.heap.size 1 _ _ _ := (hNt3.mono (L' := 0) (B' := w221.heap.size) (Nat.zero_le _) (by omega)); first | exact hh | exact hh.cast (by first | omega | (simp; try omega)) (by first | rfl | simp [u16v])) (show RdC w221 0 w221.heap.size 1 vA aL.length (aL.map u16v) from by have hh : RdC w221 0 w221.heap.size 1 _ _ _ := (hA0.mono (L' := 0) (B' := w221.heap.size) (Nat.zero_le _) (by omega)); first | exact hh | exact hh.cast (by first | omega | (simp; try omega)) (by first | rfl | simp [u16v]))) ?_
               rintro _ w224 ⟨E225, rfl⟩
               have E225 := grown_of_below E225
               have z_w224 := E225.size
               have hr := hr.keep0 E225
               have hls : ∀ x9 ∈ (L.map opLab), RdC w224 0 w.heap.size 1 x9.1 x9.2.length (x9.2.map u16v) := fun x9 hx9 => (hls x9 hx9).keep0 E225
               have hrs : ∀ x9 ∈ (L.map opRds), RdC w224 0 w.heap.size 1 x9.1 x9.2.length (x9.2.map sv) := fun x9 hx9 => (hrs x9 hx9).keep0 E225
               have hA0 := hA0.keep0 E225
               have hIN := hIN.keep0 E225
               have hLi := hLi.keep0 E225
               have hRi := hRi.keep0 E225
               have hB46 := hB46.keep0 E225
               have hl192 := hl192.keepG (Gr.of0 E225 NoB) (fun _ _ h => h)
               have hl206 := hl206.keepG (Gr.of0 E225 NoB) (fun _ _ h => h)
               have hNO := hNO.keep0 E225
               have hNw3 : ∀ x9 ∈ (NOW.set (tix 16 (opN (L.getD i dOp))) (opLab (L.getD i dOp))), RdC w224 0 w.heap.size 1 x9.1 x9.2.length (x9.2.map u16v) := fun x9 hx9 => (hNw3 x9 hx9).keep0 E225
               have hNt3 := hNt3.keep0 E225
               have hb := below_step0 hb E225 hb.size
               rcases Bool.eq_false_or_eq_true ((flowsL ((NOW.set (tix 16 (opN (L.getD i dOp))) (opLab (L.getD i dOp))).getD (tix 16 (opN (L.getD i dOp))) DU).2 aL)) with c122 | c122
               · -- 122T
                rw [c122]
                refine op_not (ev_hit hN35 rfl) ?_
                refine op_move (ev_hit hN35 rfl) ?_
                refine g_false (j := 6) (dj := 124) (b := true) rfl rfl rfl (ev_hit hN35 rfl) rfl rfl ?_
                refine op_pick_f (ev_hit hN35 rfl) rfl ?_
                refine reg_nil ?_
                refine hK223 _ _ ?_
                refine wp_cond_false (ev_hit hN35 rfl) ?_
                refine wp_skip ?_
                refine hK38 _ _ ?_
                refine one_reg ?_
                refine op_move (ev_base hN35 rfl s35_9) ?_
                refine op_add (ev_hit hN35 rfl) rfl (add64 (by omega)) ?_
                refine op_assign (ev_hit hN35 rfl) ?_
                refine reg_nil ?_
                -- round 19F 22T 30T 38T 54F 68T 74T 80T 86T 91T 103F 106T 110T 112T 122T
                have hk2 : (tix 11 (opK (L.getD i dOp))) = 2 := by omega
                have hfl : flowsL (NOW.getD (tix 16 (opN (L.getD i dOp))) DU).2 (opLab (L.getD i dOp)).2 = true := c80
                have hq1 : (NOW.set (tix 16 (opN (L.getD i dOp))) (opLab (L.getD i dOp))).getD (tix 16 (opN (L.getD i dOp))) DU = opLab (L.getD i dOp) := by rw [getD_set (by omega)]; exact if_pos rfl
                have hNx : UInv aL (doM A (tix 11 (opK (L.getD i dOp))) (((tix 16 (opN (L.getD i dOp))) : Nat) : Int) (opL (L.getD i dOp)) ((opS (L.getD i dOp)).toNat : Int) (opR (L.getD i dOp)) (opW (L.getD i dOp))) (doM B (tix 11 (opK (L.getD i dOp))) (((tix 16 (opN (L.getD i dOp))) : Nat) : Int) (opL (L.getD i dOp)) ((opS (L.getD i dOp)).toNat : Int) (opR (L.getD i dOp)) (opW (L.getD i dOp))) IN (NOW.set (tix 16 (opN (L.getD i dOp))) (opLab (L.getD i dOp))) (3 * i + 3) := by
                  rw [doM_2 hk2, doM_2 hk2]
                  exact ((((hSM.2 c86 hfl).2.2 c91).2.2 (by rw [← doV_2 (R := opR (L.getD i dOp)) (x := opW (L.getD i dOp)) hk2]; exact c112)).1 (by rw [hq1] at c122; exact c122)).mono (by omega)
                exact loop_next _ hN35 hd35 ⟨(i + 1), doM A (tix 11 (opK (L.getD i dOp))) (((tix 16 (opN (L.getD i dOp))) : Nat) : Int) (opL (L.getD i dOp)) ((opS (L.getD i dOp)).toNat : Int) (opR (L.getD i dOp)) (opW (L.getD i dOp)), doM B (tix 11 (opK (L.getD i dOp))) (((tix 16 (opN (L.getD i dOp))) : Nat) : Int) (opL (L.getD i dOp)) ((opS (L.getD i dOp)).toNat : Int) (opR (L.getD i dOp)) (opW (L.getD i dOp)), IN, (NOW.set (tix 16 (opN (L.getD i dOp))) (opLab (L.getD i dOp))), F192, F206, rfl, (sl_base hN35 rfl s35_0), (sl_base hN35 rfl s35_1), (sl_base hN35 rfl s35_5), (sl_base hN35 rfl s35_6), (sl_base hN35 rfl s35_7), (sl_base hN35 rfl s35_8), (sl_hit hN35 rfl).trans (congrArg (Value.int .i64) (by omega)), (by omega), (hNx.mono (by omega)), dj216, dj200, dj213, dj201, dj214, hb, (by omega), hr, hls, hrs, hA0, hl192, hl206, hIN, hNO, hNw3⟩ (by omega)
               · -- 122F
                rw [c122]
                refine op_not (ev_hit hN35 rfl) ?_
                refine op_move (ev_hit hN35 rfl) ?_
                refine g_true (j := 6) (dj := 124) (b := true) rfl rfl rfl (ev_hit hN35 rfl) ?_
                refine op_move (ev_hit hN35 rfl) ?_
                refine op_pick_t (ev_hit hN35 rfl) (ev_hit hN35 rfl) ?_
                refine reg_nil ?_
                refine hK223 _ _ ?_
                refine wp_cond_true (ev_hit hN35 rfl) ?_
                refine one_reg ?_
                refine op_move (ev_base hN35 rfl s35_6) ?_
                refine op_move (ev_hit hN35 rfl) ?_
                refine op_build (pv := [(1, (Value.int .i64 (((tix 16 (opN (L.getD i dOp))) : Nat) : Int)))]) (v := (Value.agg #[(Value.int .i64 0), (Value.int .i64 (((tix 16 (opN (L.getD i dOp))) : Nat) : Int)), (Value.slice none 0 0), (Value.int .u64 0), (Value.slice none 0 0), (Value.string (bs []))])) ⟨rfl, (ev_hit hN35 rfl), trivial⟩ (by kernel_rfl) ?_
                refine op_fn (vs := [(ptr k15 0), (Value.agg #[(Value.int .i64 0), (Value.int .i64 (((tix 16 (opN (L.getD i dOp))) : Nat) : Int)), (Value.slice none 0 0), (Value.int .u64 0), (Value.slice none 0 0), (Value.string (bs []))]), (Value.int .i64 9)]) ok58 ⟨(ev_hit hN35 rfl), ⟨(ev_hit hN35 rfl), ⟨rfl, trivial⟩⟩⟩ (do_ret (K := 0) (n := (((tix 16 (opN (L.getD i dOp))) : Nat) : Int)) (s := 0) (l := ([] : List UInt16)) (R := ([] : List (List UInt8))) (x := []) (lo := w.heap.size) 9 (by omega) ((hU.2.2.2.1.do (wft ht16) hl8 hlg.2.1).ok (by omega)) ((hU.2.2.2.1.do (wft ht16) hl8 hlg.2.1).sm (by omega)) (by first | exact hl8 | decide) (by first | exact hlg.2.1 | decide) (RdC.nil _ _ _ _) (RdC.nil _ _ _ _) (by omega) hl206) ?_
                rintro _ w227 ⟨E228, rfl, F226, hl226, hN226⟩
                have bd229 := hIN.lt
                have bd230 := hB46.lt
                have bd231 := hl192.lt
                have bd232 := hNO.lt
                have hl206_old := hl206
                have z_w227 := E228.size
                have hr := hr.keepG E228 (fun k hk => .inr (by have := hl206_old.lt k hk; omega))
                have hls : ∀ x9 ∈ (L.map opLab), RdC w227 0 w.heap.size 1 x9.1 x9.2.length (x9.2.map u16v) := fun x9 hx9 => (hls x9 hx9).keepG E228 (fun k hk => .inr (by have := hl206_old.lt k hk; omega))
                have hrs : ∀ x9 ∈ (L.map opRds), RdC w227 0 w.heap.size 1 x9.1 x9.2.length (x9.2.map sv) := fun x9 hx9 => (hrs x9 hx9).keepG E228 (fun k hk => .inr (by have := hl206_old.lt k hk; omega))
                have hA0 := hA0.keepG E228 (fun k hk => .inr (by have := hl206_old.lt k hk; omega))
                have hIN := hIN.keepG E228 dj213
                have hLi := hLi.keepG E228 (fun k hk => .inr (by have := hl206_old.lt k hk; omega))
                have hRi := hRi.keepG E228 (fun k hk => .inr (by have := hl206_old.lt k hk; omega))
                have hB46 := hB46.keepG E228 dj215
                have hl192 := hl192.keepG E228 dj216
                have hNO := hNO.keepG E228 dj214
                have hNw3 : ∀ x9 ∈ (NOW.set (tix 16 (opN (L.getD i dOp))) (opLab (L.getD i dOp))), RdC w227 0 w.heap.size 1 x9.1 x9.2.length (x9.2.map u16v) := fun x9 hx9 => (hNw3 x9 hx9).keepG E228 (fun k hk => .inr (by have := hl206_old.lt k hk; omega))
                have hNt3 := hNt3.keepG E228 (fun k hk => .inr (by have := hl206_old.lt k hk; omega))
                have hb := below_stepG hb E228 hb.size (fun k hk => (hl206_old.lt k hk).1)
                have dj233 : ¬ F226 b28 := ne_stepF hN226 bd229 dj213
                have dj234 : ¬ F226 b44 := ne_stepF hN226 bd230 dj215
                have dj235 : Dj F192 F226 := Dj.stepF hN226 (fun k hk => (bd231 k hk).2) dj216
                have dj236 : ¬ F226 b21 := ne_stepF hN226 bd232 dj214
                refine reg_nil ?_
                refine hK38 _ _ ?_
                refine one_reg ?_
                refine op_move (ev_base hN35 rfl s35_9) ?_
                refine op_add (ev_hit hN35 rfl) rfl (add64 (by omega)) ?_
                refine op_assign (ev_hit hN35 rfl) ?_
                refine reg_nil ?_
                -- round 19F 22T 30T 38T 54F 68T 74T 80T 86T 91T 103F 106T 110T 112T 122F
                have hk2 : (tix 11 (opK (L.getD i dOp))) = 2 := by omega
                have hfl : flowsL (NOW.getD (tix 16 (opN (L.getD i dOp))) DU).2 (opLab (L.getD i dOp)).2 = true := c80
                have hq1 : (NOW.set (tix 16 (opN (L.getD i dOp))) (opLab (L.getD i dOp))).getD (tix 16 (opN (L.getD i dOp))) DU = opLab (L.getD i dOp) := by rw [getD_set (by omega)]; exact if_pos rfl
                have hNx : UInv aL (doM A (tix 11 (opK (L.getD i dOp))) (((tix 16 (opN (L.getD i dOp))) : Nat) : Int) (opL (L.getD i dOp)) ((opS (L.getD i dOp)).toNat : Int) (opR (L.getD i dOp)) (opW (L.getD i dOp))) (doM (doM B (tix 11 (opK (L.getD i dOp))) (((tix 16 (opN (L.getD i dOp))) : Nat) : Int) (opL (L.getD i dOp)) ((opS (L.getD i dOp)).toNat : Int) (opR (L.getD i dOp)) (opW (L.getD i dOp))) 9 (((tix 16 (opN (L.getD i dOp))) : Nat) : Int) ([] : List UInt16) 0 ([] : List (List UInt8)) []) IN (NOW.set (tix 16 (opN (L.getD i dOp))) (opLab (L.getD i dOp))) (3 * i + 3) := by
                  rw [doM_2 hk2, doM_9 rfl, doM_2 hk2]
                  exact ((((hSM.2 c86 hfl).2.2 c91).2.2 (by rw [← doV_2 (R := opR (L.getD i dOp)) (x := opW (L.getD i dOp)) hk2]; exact c112)).2 (by rw [hq1] at c122; exact fun q => by rw [show flowsL (opLab (L.getD i dOp)).2 aL = false from c122] at q; cases q)).mono (by omega)
                exact loop_next _ hN35 hd35 ⟨(i + 1), doM A (tix 11 (opK (L.getD i dOp))) (((tix 16 (opN (L.getD i dOp))) : Nat) : Int) (opL (L.getD i dOp)) ((opS (L.getD i dOp)).toNat : Int) (opR (L.getD i dOp)) (opW (L.getD i dOp)), doM (doM B (tix 11 (opK (L.getD i dOp))) (((tix 16 (opN (L.getD i dOp))) : Nat) : Int) (opL (L.getD i dOp)) ((opS (L.getD i dOp)).toNat : Int) (opR (L.getD i dOp)) (opW (L.getD i dOp))) 9 (((tix 16 (opN (L.getD i dOp))) : Nat) : Int) ([] : List UInt16) 0 ([] : List (List UInt8)) [], IN, (NOW.set (tix 16 (opN (L.getD i dOp))) (opLab (L.getD i dOp))), F192, F226, rfl, (sl_base hN35 rfl s35_0), (sl_base hN35 rfl s35_1), (sl_base hN35 rfl s35_5), (sl_base hN35 rfl s35_6), (sl_base hN35 rfl s35_7), (sl_base hN35 rfl s35_8), (sl_hit hN35 rfl).trans (congrArg (Value.int .i64) (by omega)), (by omega), (hNx.mono (by omega)), dj235, dj200, dj233, dj201, dj236, hb, (by omega), hr, hls, hrs, hA0, hl192, hl226, hIN, hNO, hNw3⟩ (by omega)
              · -- 112F
               refine op_pick_t (ev_hit hN35 rfl) (ev_hit hN35 rfl) ?_
               refine reg_nil ?_
               refine hK219 _ _ ?_
               refine wp_cond_false (ev_hit hN35 rfl) ?_
               refine wp_skip ?_
               refine hK38 _ _ ?_
               refine one_reg ?_
               refine op_move (ev_base hN35 rfl s35_9) ?_
               refine op_add (ev_hit hN35 rfl) rfl (add64 (by omega)) ?_
               refine op_assign (ev_hit hN35 rfl) ?_
               refine reg_nil ?_
               -- round 19F 22T 30T 38T 54F 68T 74T 80T 86T 91T 103F 106T 110T 112F
               have hk2 : (tix 11 (opK (L.getD i dOp))) = 2 := by omega
               have hfl : flowsL (NOW.getD (tix 16 (opN (L.getD i dOp))) DU).2 (opLab (L.getD i dOp)).2 = true := c80
               have hNx : UInv aL (doM A (tix 11 (opK (L.getD i dOp))) (((tix 16 (opN (L.getD i dOp))) : Nat) : Int) (opL (L.getD i dOp)) ((opS (L.getD i dOp)).toNat : Int) (opR (L.getD i dOp)) (opW (L.getD i dOp))) (doM B (tix 11 (opK (L.getD i dOp))) (((tix 16 (opN (L.getD i dOp))) : Nat) : Int) (opL (L.getD i dOp)) ((opS (L.getD i dOp)).toNat : Int) (opR (L.getD i dOp)) (opW (L.getD i dOp))) IN NOW (3 * i + 3) := by
                 show UInv aL _ _ _ _ _; rw [doM_2 hk2, doM_2 hk2]
                 rw [show moveM A ((((tix 16 (opN (L.getD i dOp))) : Nat) : Int) : Int) (opL (L.getD i dOp)) ((opS (L.getD i dOp)).toNat : Int) = A from (hSM.2 c86 hfl).1 (by rw [← doV_2 (R := opR (L.getD i dOp)) (x := opW (L.getD i dOp)) hk2]; exact c112), show moveM B ((((tix 16 (opN (L.getD i dOp))) : Nat) : Int) : Int) (opL (L.getD i dOp)) ((opS (L.getD i dOp)).toNat : Int) = B from ((hSM.2 c86 hfl).2.2 c91).2.1 (by rw [← doV_2 (R := opR (L.getD i dOp)) (x := opW (L.getD i dOp)) hk2]; exact c112)]; exact hU.mono (by omega)
               exact loop_next _ hN35 hd35 ⟨(i + 1), doM A (tix 11 (opK (L.getD i dOp))) (((tix 16 (opN (L.getD i dOp))) : Nat) : Int) (opL (L.getD i dOp)) ((opS (L.getD i dOp)).toNat : Int) (opR (L.getD i dOp)) (opW (L.getD i dOp)), doM B (tix 11 (opK (L.getD i dOp))) (((tix 16 (opN (L.getD i dOp))) : Nat) : Int) (opL (L.getD i dOp)) ((opS (L.getD i dOp)).toNat : Int) (opR (L.getD i dOp)) (opW (L.getD i dOp)), IN, NOW, F192, F206, rfl, (sl_base hN35 rfl s35_0), (sl_base hN35 rfl s35_1), (sl_base hN35 rfl s35_5), (sl_base hN35 rfl s35_6), (sl_base hN35 rfl s35_7), (sl_base hN35 rfl s35_8), (sl_hit hN35 rfl).trans (congrArg (Value.int .i64) (by omega)), (by omega), (hNx.mono (by omega)), dj216, dj200, dj213, dj201, dj214, hb, (by omega), hr, hls, hrs, hA0, hl192, hl206, hIN, hNO, hNw⟩ (by omega)
             · -- 110F
              rw [c86] at c110; cases c110
            · -- 106F
             exfalso; omega
          · -- 91F
           rw [c91]
           refine op_pick_t (ev_hit hN35 rfl) (ev_hit hN35 rfl) ?_
           refine op_assign (ev_hit hN35 rfl) ?_
           refine reg_nil ?_
           refine hK188 _ _ ?_
           refine seq_any fun K237 hK237 => ?_
           refine one_reg ?_
           have hSM := hU.mv (t := (tix 16 (opN (L.getD i dOp)))) (s := ((opS (L.getD i dOp)).toNat : Int)) (o := opLab (L.getD i dOp)) ht16 hl8
           refine op_move (ev_base hN35 rfl s35_5) ?_
           refine op_loadA (cs := [(Value.int .i64 (opK (L.getD i dOp))), (Value.int .i64 (((tix 16 (opN (L.getD i dOp))) : Nat) : Int)), (opLv (L.getD i dOp)), (Value.int .u64 ((opS (L.getD i dOp)).toNat : Int)), (opRv (L.getD i dOp)), (Value.string (bs (opW (L.getD i dOp))))]) agg103 rfl (ev_hit hN35 rfl) (fun j u hu => by rw [Nat.zero_add]; exact hB46.cell hu) ?_
           refine op_move (ev_hit hN35 rfl) ?_
           refine op_fn (vs := [(ptr k12 0), (Value.agg #[(Value.int .i64 (opK (L.getD i dOp))), (Value.int .i64 (((tix 16 (opN (L.getD i dOp))) : Nat) : Int)), (opLv (L.getD i dOp)), (Value.int .u64 ((opS (L.getD i dOp)).toNat : Int)), (opRv (L.getD i dOp)), (Value.string (bs (opW (L.getD i dOp))))]), (Value.int .i64 (((tix 11 (opK (L.getD i dOp))) : Nat) : Int))]) ok58 ⟨(ev_hit hN35 rfl), ⟨(ev_hit hN35 rfl), ⟨(ev_hit hN35 rfl), trivial⟩⟩⟩ (do_ret (K := (opK (L.getD i dOp))) (n := (((tix 16 (opN (L.getD i dOp))) : Nat) : Int)) (s := ((opS (L.getD i dOp)).toNat : Int)) (l := (opL (L.getD i dOp))) (R := (opR (L.getD i dOp))) (x := (opW (L.getD i dOp))) (lo := w.heap.size) (tix 11 (opK (L.getD i dOp))) (by omega) (hU.2.2.1.ok (by omega)) (hU.2.2.1.sm (by omega)) (by first | exact hl8 | decide) (by first | exact hlg.2.1 | decide) hLi hRi (by omega) hA) ?_
           rintro _ w239 ⟨E240, rfl, F238, hl238, hN238⟩
           have bd241 := hB.lt
           have bd242 := hIN.lt
           have bd243 := hNO.lt
           have bd244 := hB46.lt
           have hA_old := hA
           have z_w239 := E240.size
           have hr := hr.keepG E240 (fun k hk => .inr (by have := hA_old.lt k hk; omega))
           have hls : ∀ x9 ∈ (L.map opLab), RdC w239 0 w.heap.size 1 x9.1 x9.2.length (x9.2.map u16v) := fun x9 hx9 => (hls x9 hx9).keepG E240 (fun k hk => .inr (by have := hA_old.lt k hk; omega))
           have hrs : ∀ x9 ∈ (L.map opRds), RdC w239 0 w.heap.size 1 x9.1 x9.2.length (x9.2.map sv) := fun x9 hx9 => (hrs x9 hx9).keepG E240 (fun k hk => .inr (by have := hA_old.lt k hk; omega))
           have hA0 := hA0.keepG E240 (fun k hk => .inr (by have := hA_old.lt k hk; omega))
           have hB := hB.keepG E240 hdj.symm
           have hIN := hIN.keepG E240 djb28FA
           have hNO := hNO.keepG E240 djb21FA
           have hNw : ∀ x9 ∈ NOW, RdC w239 0 w.heap.size 1 x9.1 x9.2.length (x9.2.map u16v) := fun x9 hx9 => (hNw x9 hx9).keepG E240 (fun k hk => .inr (by have := hA_old.lt k hk; omega))
           have hLi := hLi.keepG E240 (fun k hk => .inr (by have := hA_old.lt k hk; omega))
           have hRi := hRi.keepG E240 (fun k hk => .inr (by have := hA_old.lt k hk; omega))
           have hB46 := hB46.keepG E240 dj47
           have hNt2 := hNt2.keepG E240 (fun k hk => .inr (by have := hA_old.lt k hk; omega))
           have hb := below_stepG hb E240 hb.size (fun k hk => (hA_old.lt k hk).1)
           have dj245 : Dj FB F238 := Dj.stepF hN238 (fun k hk => (bd241 k hk).2) hdj.symm
           have dj246 : ¬ F238 b28 := ne_stepF hN238 bd242 djb28FA
           have dj247 : ¬ F238 b21 := ne_stepF hN238 bd243 djb21FA
           have dj248 : ¬ F238 b44 := ne_stepF hN238 bd244 dj47
           refine op_assign (ev_hit hN35 rfl) ?_
           refine reg_nil ?_
           refine hK237 _ _ ?_
           refine seq_any fun K249 hK249 => ?_
           refine seq_any fun K250 hK250 => ?_
           refine one_reg ?_
           refine op_move (ev_hit hN35 rfl) ?_
           refine reg_nil ?_
           refine hK250 _ _ ?_
           refine wp_cond_false (ev_hit hN35 rfl) ?_
           refine wp_skip ?_
           refine hK249 _ _ ?_
           refine seq_any fun K251 hK251 => ?_
           refine one_reg ?_
           refine op_move (ev_hit hN35 rfl) ?_
           refine reg_nil ?_
           refine hK251 _ _ ?_
           refine wp_block ?_
           refine seq_any fun K252 hK252 => ?_
           refine one_reg ?_
           refine op_eql (ev_hit hN35 rfl) rfl (fun c106 => ?_) (fun c106 => ?_)
           · -- 106T
            refine op_assign (ev_hit hN35 rfl) ?_
            refine reg_nil ?_
            refine hK252 _ _ ?_
            refine wp_cond_true (ev_hit hN35 rfl) ?_
            refine seq_any fun K253 hK253 => ?_
            refine one_reg ?_
            refine op_move (ev_hit hN35 rfl) ?_
            refine op_index_arr1 (j := (tix 16 (opN (L.getD i dOp)))) arr108 (ev_base hN35 rfl s35_8) (ev_hit hN35 rfl) (by omega) (by omega) ?_
            refine op_load1 (v := (Value.bool (IN.getD (tix 16 (opN (L.getD i dOp))) false))) one4 (ev_hit hN35 rfl) (hIN.cell (row_at (d := false) (by first | omega | (simp only [List.length_set]; omega)))) ?_
            rcases Bool.eq_false_or_eq_true ((IN.getD (tix 16 (opN (L.getD i dOp))) false)) with c110 | c110
            · -- 110T
             rw [c110]
             refine op_move (ev_hit hN35 rfl) ?_
             refine g_true (j := 3) (dj := 110) (b := true) rfl rfl rfl (ev_hit hN35 rfl) ?_
             refine op_move (ev_hit hN35 rfl) ?_
             refine g_true (j := 3) (dj := 110) (b := true) rfl rfl rfl (ev_hit hN35 rfl) ?_
             refine op_eql (ev_hit hN35 rfl) rfl (fun c112 => ?_) (fun c112 => ?_)
             · -- 112T
              refine op_pick_t (ev_hit hN35 rfl) (ev_hit hN35 rfl) ?_
              refine reg_nil ?_
              refine hK253 _ _ ?_
              refine wp_cond_true (ev_hit hN35 rfl) ?_
              refine seq_any fun K254 hK254 => ?_
              refine one_reg ?_
              refine op_move (ev_hit hN35 rfl) ?_
              refine op_field fld103_2 (ev_hit hN35 rfl) ?_
              refine op_load1 (v := (opLv (L.getD i dOp))) one54 (ev_hit hN35 rfl) (hB46.cell rfl) ?_
              refine op_index_arr1 (j := (tix 16 (opN (L.getD i dOp)))) arr107 (ev_base hN35 rfl s35_7) (ev_hit hN35 rfl) (by omega) (by omega) ?_
              have hNO_old := hNO
              refine op_store_row (v := (opLv (L.getD i dOp))) size54 (ev_hit hN35 rfl) (ev_hit hN35 rfl) hLi.cla hLi.one hNO (by rw [List.length_map]; omega) ?_
              intro w255 hNO E256
              have z_w255 := E256.size
              have hr := hr.keep E256 (fun k hk => .inr (by simp at hk; omega))
              have hls : ∀ x9 ∈ (L.map opLab), RdC w255 0 w.heap.size 1 x9.1 x9.2.length (x9.2.map u16v) := fun x9 hx9 => (hls x9 hx9).keep E256 (fun k hk => .inr (by simp at hk; omega))
              have hrs : ∀ x9 ∈ (L.map opRds), RdC w255 0 w.heap.size 1 x9.1 x9.2.length (x9.2.map sv) := fun x9 hx9 => (hrs x9 hx9).keep E256 (fun k hk => .inr (by simp at hk; omega))
              have hA0 := hA0.keep E256 (fun k hk => .inr (by simp at hk; omega))
              have hB := hB.keepG (Gr.of E256) (Dj.one djb21FB)
              have hIN := hIN.keep E256 (fun hh => hIN.ne hNO_old (by decide) (Option.some.inj hh))
              have hNw : ∀ x9 ∈ NOW, RdC w255 0 w.heap.size 1 x9.1 x9.2.length (x9.2.map u16v) := fun x9 hx9 => (hNw x9 hx9).keep E256 (fun k hk => .inr (by simp at hk; omega))
              have hLi := hLi.keep E256 (fun k hk => .inr (by simp at hk; omega))
              have hRi := hRi.keep E256 (fun k hk => .inr (by simp at hk; omega))
              have hB46 := hB46.keep E256 (fun hh => hB46.ne hNO_old (by decide) (Option.some.inj hh))
              have hNt2 := hNt2.keep E256 (fun k hk => .inr (by simp at hk; omega))
              have hl238 := hl238.keepG (Gr.of E256) (Dj.one dj247)
              have hb := below_step1 hb E256 hb.size (by omega)
              have hNO : Bx w255 b21 107 (((NOW.set (tix 16 (opN (L.getD i dOp))) (opLab (L.getD i dOp))).map Prod.fst)) := row_set hNO
              refine reg_nil ?_
              refine hK254 _ _ ?_
              refine seq_any fun K257 hK257 => ?_
              refine one_reg ?_
              have hNw3 : ∀ x9 ∈ (NOW.set (tix 16 (opN (L.getD i dOp))) (opLab (L.getD i dOp))), RdC w255 0 w.heap.size 1 x9.1 x9.2.length (x9.2.map u16v) := rall_set hNw hLi
              have hNt3 : RdC w255 0 w.heap.size 1 ((NOW.set (tix 16 (opN (L.getD i dOp))) (opLab (L.getD i dOp))).getD (tix 16 (opN (L.getD i dOp))) DU).1 ((NOW.set (tix 16 (opN (L.getD i dOp))) (opLab (L.getD i dOp))).getD (tix 16 (opN (L.getD i dOp))) DU).2.length (((NOW.set (tix 16 (opN (L.getD i dOp))) (opLab (L.getD i dOp))).getD (tix 16 (opN (L.getD i dOp))) DU).2.map u16v) := hNw3 _ (getD_mem (by first | omega | (simp only [List.length_set]; omega)))
              have hl93 : ((NOW.set (tix 16 (opN (L.getD i dOp))) (opLab (L.getD i dOp))).getD (tix 16 (opN (L.getD i dOp))) DU).2.length ≤ 8 := by rw [show (NOW.set (tix 16 (opN (L.getD i dOp))) (opLab (L.getD i dOp))).getD (tix 16 (opN (L.getD i dOp))) DU = opLab (L.getD i dOp) from by rw [getD_set (by omega)]; exact if_pos rfl]; exact hl8
              refine op_move (ev_hit hN35 rfl) ?_
              refine op_index_arr1 (j := (tix 16 (opN (L.getD i dOp)))) arr107 (ev_base hN35 rfl s35_7) (ev_hit hN35 rfl) (by omega) (by omega) ?_
              refine op_load1 (v := ((NOW.set (tix 16 (opN (L.getD i dOp))) (opLab (L.getD i dOp))).getD (tix 16 (opN (L.getD i dOp))) DU).1) one54 (ev_hit hN35 rfl) (hNO.cell (row_at (d := DU) (by first | omega | (simp only [List.length_set]; omega)))) ?_
              refine op_move (ev_base hN35 rfl s35_1) ?_
              refine op_fn (vs := [((NOW.set (tix 16 (opN (L.getD i dOp))) (opLab (L.getD i dOp))).getD (tix 16 (opN (L.getD i dOp))) DU).1, vA]) ok50 ⟨(ev_hit hN35 rfl), ⟨(ev_hit hN35 rfl), trivial⟩⟩ (rflowsW_ret ((NOW.set (tix 16 (opN (L.getD i dOp))) (opLab (L.getD i dOp))).getD (tix 16 (opN (L.getD i dOp))) DU).2 aL _ _ _ (by first | assumption | omega | (simp only [List.length_append, List.length_cons, List.length_nil, List.length_drop, List.length_take]; omega) | (dsimp only; omega) | decide | (simp [keyV, be8_len]; done)) (by first | assumption | omega | (simp only [List.length_append, List.length_cons, List.length_nil, List.length_drop, List.length_take]; omega) | (dsimp only; omega) | decide | (simp [keyV, be8_len]; done)) (show RdC w255 0 w255.heap.size 1 ((NOW.set (tix 16 (opN (L.getD i dOp))) (opLab (L.getD i dOp))).getD (tix 16 (opN (L.getD i dOp))) DU).1 ((NOW.set (tix 16 (opN (L.getD i dOp))) (opLab (L.getD i dOp))).getD (tix 16 (opN (L.getD i dOp))) DU).2.length (((NOW.set (tix 16 (opN (L.getD i dOp))) (opLab (L.getD i dOp))).getD (tix 16 (opN (L.getD i dOp))) DU).2.map u16v) from by have hh : RdC w255 0 w255.heap.size 1 _ _ _ := (hNt3.mono (L' := 0) (B' := w255.heap.size) (Nat.zero_le _) (by omega)); first | exact hh | exact hh.cast (by first | omega | (simp; try omega)) (by first | rfl | simp [u16v])) (show RdC w255 0 w255.heap.size 1 vA aL.length (aL.map u16v) from by have hh : RdC w255 0 w255.heap.size 1 _ _ _ := (hA0.mono (L' := 0) (B' := w255.heap.size) (Nat.zero_le _) (by omega)); first | exact hh | exact hh.cast (by first | omega | (simp; try omega)) (by first | rfl | simp [u16v]))) ?_
              rintro _ w258 ⟨E259, rfl⟩
              have E259 := grown_of_below E259
              have z_w258 := E259.size
              have hr := hr.keep0 E259
              have hls : ∀ x9 ∈ (L.map opLab), RdC w258 0 w.heap.size 1 x9.1 x9.2.length (x9.2.map u16v) := fun x9 hx9 => (hls x9 hx9).keep0 E259
              have hrs : ∀ x9 ∈ (L.map opRds), RdC w258 0 w.heap.size 1 x9.1 x9.2.length (x9.2.map sv) := fun x9 hx9 => (hrs x9 hx9).keep0 E259
              have hA0 := hA0.keep0 E259
              have hB := hB.keepG (Gr.of0 E259 NoB) (fun _ _ h => h)
              have hIN := hIN.keep0 E259
              have hLi := hLi.keep0 E259
              have hRi := hRi.keep0 E259
              have hB46 := hB46.keep0 E259
              have hl238 := hl238.keepG (Gr.of0 E259 NoB) (fun _ _ h => h)
              have hNO := hNO.keep0 E259
              have hNw3 : ∀ x9 ∈ (NOW.set (tix 16 (opN (L.getD i dOp))) (opLab (L.getD i dOp))), RdC w258 0 w.heap.size 1 x9.1 x9.2.length (x9.2.map u16v) := fun x9 hx9 => (hNw3 x9 hx9).keep0 E259
              have hNt3 := hNt3.keep0 E259
              have hb := below_step0 hb E259 hb.size
              rcases Bool.eq_false_or_eq_true ((flowsL ((NOW.set (tix 16 (opN (L.getD i dOp))) (opLab (L.getD i dOp))).getD (tix 16 (opN (L.getD i dOp))) DU).2 aL)) with c122 | c122
              · -- 122T
               rw [c122]
               refine op_not (ev_hit hN35 rfl) ?_
               refine op_move (ev_hit hN35 rfl) ?_
               refine g_false (j := 6) (dj := 124) (b := true) rfl rfl rfl (ev_hit hN35 rfl) rfl rfl ?_
               refine op_pick_f (ev_hit hN35 rfl) rfl ?_
               refine reg_nil ?_
               refine hK257 _ _ ?_
               refine wp_cond_false (ev_hit hN35 rfl) ?_
               refine wp_skip ?_
               refine hK38 _ _ ?_
               refine one_reg ?_
               refine op_move (ev_base hN35 rfl s35_9) ?_
               refine op_add (ev_hit hN35 rfl) rfl (add64 (by omega)) ?_
               refine op_assign (ev_hit hN35 rfl) ?_
               refine reg_nil ?_
               -- round 19F 22T 30T 38T 54F 68T 74T 80T 86T 91F 106T 110T 112T 122T
               have hk2 : (tix 11 (opK (L.getD i dOp))) = 2 := by omega
               have hfl : flowsL (NOW.getD (tix 16 (opN (L.getD i dOp))) DU).2 (opLab (L.getD i dOp)).2 = true := c80
               have hNx : UInv aL (doM A (tix 11 (opK (L.getD i dOp))) (((tix 16 (opN (L.getD i dOp))) : Nat) : Int) (opL (L.getD i dOp)) ((opS (L.getD i dOp)).toNat : Int) (opR (L.getD i dOp)) (opW (L.getD i dOp))) (B) IN (NOW.set (tix 16 (opN (L.getD i dOp))) (opLab (L.getD i dOp))) (3 * i + 3) := by
                 rw [doM_2 hk2]
                 exact ((hSM.2 c86 hfl).2.1 (fun q => by rw [c91] at q; cases q) (by rw [← doV_2 (R := opR (L.getD i dOp)) (x := opW (L.getD i dOp)) hk2]; exact c112)).1.mono (by omega)
               exact loop_next _ hN35 hd35 ⟨(i + 1), doM A (tix 11 (opK (L.getD i dOp))) (((tix 16 (opN (L.getD i dOp))) : Nat) : Int) (opL (L.getD i dOp)) ((opS (L.getD i dOp)).toNat : Int) (opR (L.getD i dOp)) (opW (L.getD i dOp)), B, IN, (NOW.set (tix 16 (opN (L.getD i dOp))) (opLab (L.getD i dOp))), F238, FB, rfl, (sl_base hN35 rfl s35_0), (sl_base hN35 rfl s35_1), (sl_base hN35 rfl s35_5), (sl_base hN35 rfl s35_6), (sl_base hN35 rfl s35_7), (sl_base hN35 rfl s35_8), (sl_hit hN35 rfl).trans (congrArg (Value.int .i64) (by omega)), (by omega), (hNx.mono (by omega)), dj245.symm, dj246, djb28FB, dj247, djb21FB, hb, (by omega), hr, hls, hrs, hA0, hl238, hB, hIN, hNO, hNw3⟩ (by omega)
              · -- 122F
               rw [c122]
               refine op_not (ev_hit hN35 rfl) ?_
               refine op_move (ev_hit hN35 rfl) ?_
               refine g_true (j := 6) (dj := 124) (b := true) rfl rfl rfl (ev_hit hN35 rfl) ?_
               refine op_move (ev_hit hN35 rfl) ?_
               refine op_pick_t (ev_hit hN35 rfl) (ev_hit hN35 rfl) ?_
               refine reg_nil ?_
               refine hK257 _ _ ?_
               refine wp_cond_false (ev_hit hN35 rfl) ?_
               refine wp_skip ?_
               refine hK38 _ _ ?_
               refine one_reg ?_
               refine op_move (ev_base hN35 rfl s35_9) ?_
               refine op_add (ev_hit hN35 rfl) rfl (add64 (by omega)) ?_
               refine op_assign (ev_hit hN35 rfl) ?_
               refine reg_nil ?_
               -- round 19F 22T 30T 38T 54F 68T 74T 80T 86T 91F 106T 110T 112T 122F
               have hk2 : (tix 11 (opK (L.getD i dOp))) = 2 := by omega
               have hfl : flowsL (NOW.getD (tix 16 (opN (L.getD i dOp))) DU).2 (opLab (L.getD i dOp)).2 = true := c80
               have hNx : UInv aL (doM A (tix 11 (opK (L.getD i dOp))) (((tix 16 (opN (L.getD i dOp))) : Nat) : Int) (opL (L.getD i dOp)) ((opS (L.getD i dOp)).toNat : Int) (opR (L.getD i dOp)) (opW (L.getD i dOp))) (B) IN (NOW.set (tix 16 (opN (L.getD i dOp))) (opLab (L.getD i dOp))) (3 * i + 3) := by
                 rw [doM_2 hk2]
                 exact ((hSM.2 c86 hfl).2.1 (fun q => by rw [c91] at q; cases q) (by rw [← doV_2 (R := opR (L.getD i dOp)) (x := opW (L.getD i dOp)) hk2]; exact c112)).1.mono (by omega)
               exact loop_next _ hN35 hd35 ⟨(i + 1), doM A (tix 11 (opK (L.getD i dOp))) (((tix 16 (opN (L.getD i dOp))) : Nat) : Int) (opL (L.getD i dOp)) ((opS (L.getD i dOp)).toNat : Int) (opR (L.getD i dOp)) (opW (L.getD i dOp)), B, IN, (NOW.set (tix 16 (opN (L.getD i dOp))) (opLab (L.getD i dOp))), F238, FB, rfl, (sl_base hN35 rfl s35_0), (sl_base hN35 rfl s35_1), (sl_base hN35 rfl s35_5), (sl_base hN35 rfl s35_6), (sl_base hN35 rfl s35_7), (sl_base hN35 rfl s35_8), (sl_hit hN35 rfl).trans (congrArg (Value.int .i64) (by omega)), (by omega), (hNx.mono (by omega)), dj245.symm, dj246, djb28FB, dj247, djb21FB, hb, (by omega), hr, hls, hrs, hA0, hl238, hB, hIN, hNO, hNw3⟩ (by omega)
             · -- 112F
              refine op_pick_t (ev_hit hN35 rfl) (ev_hit hN35 rfl) ?_
              refine reg_nil ?_
              refine hK253 _ _ ?_
              refine wp_cond_false (ev_hit hN35 rfl) ?_
              refine wp_skip ?_
              refine hK38 _ _ ?_
              refine one_reg ?_
              refine op_move (ev_base hN35 rfl s35_9) ?_
              refine op_add (ev_hit hN35 rfl) rfl (add64 (by omega)) ?_
              refine op_assign (ev_hit hN35 rfl) ?_
              refine reg_nil ?_
              -- round 19F 22T 30T 38T 54F 68T 74T 80T 86T 91F 106T 110T 112F
              have hk2 : (tix 11 (opK (L.getD i dOp))) = 2 := by omega
              have hfl : flowsL (NOW.getD (tix 16 (opN (L.getD i dOp))) DU).2 (opLab (L.getD i dOp)).2 = true := c80
              have hNx : UInv aL (doM A (tix 11 (opK (L.getD i dOp))) (((tix 16 (opN (L.getD i dOp))) : Nat) : Int) (opL (L.getD i dOp)) ((opS (L.getD i dOp)).toNat : Int) (opR (L.getD i dOp)) (opW (L.getD i dOp))) (B) IN NOW (3 * i + 3) := by
                show UInv aL _ _ _ _ _; rw [doM_2 hk2]
                rw [show moveM A ((((tix 16 (opN (L.getD i dOp))) : Nat) : Int) : Int) (opL (L.getD i dOp)) ((opS (L.getD i dOp)).toNat : Int) = A from (hSM.2 c86 hfl).1 (by rw [← doV_2 (R := opR (L.getD i dOp)) (x := opW (L.getD i dOp)) hk2]; exact c112)]; exact hU.mono (by omega)
              exact loop_next _ hN35 hd35 ⟨(i + 1), doM A (tix 11 (opK (L.getD i dOp))) (((tix 16 (opN (L.getD i dOp))) : Nat) : Int) (opL (L.getD i dOp)) ((opS (L.getD i dOp)).toNat : Int) (opR (L.getD i dOp)) (opW (L.getD i dOp)), B, IN, NOW, F238, FB, rfl, (sl_base hN35 rfl s35_0), (sl_base hN35 rfl s35_1), (sl_base hN35 rfl s35_5), (sl_base hN35 rfl s35_6), (sl_base hN35 rfl s35_7), (sl_base hN35 rfl s35_8), (sl_hit hN35 rfl).trans (congrArg (Value.int .i64) (by omega)), (by omega), (hNx.mono (by omega)), dj245.symm, dj246, djb28FB, dj247, djb21FB, hb, (by omega), hr, hls, hrs, hA0, hl238, hB, hIN, hNO, hNw⟩ (by omega)
            · -- 110F
             rw [c86] at c110; cases c110
           · -- 106F
            exfalso; omega
         · -- 86F
          rw [g74] at c86; cases c86
        · -- 80F
         rw [c80]
         refine g_true (j := 7) (dj := 74) (b := true) rfl rfl rfl (ev_hit hN35 rfl) ?_
         refine op_not (ev_hit hN35 rfl) ?_
         refine op_pick_t (ev_hit hN35 rfl) (ev_hit hN35 rfl) ?_
         refine reg_nil ?_
         refine hK183 _ _ ?_
         refine wp_cond_true (ev_hit hN35 rfl) ?_
         refine seq_any fun K260 hK260 => ?_
         refine one_reg ?_
         refine op_assign rfl ?_
         refine reg_nil ?_
         refine hK260 _ _ ?_
         refine wp_ret (then_ret (blk_ret (then_ret (then_ret (blk_ret (then_ret ( ?_)))))))
         refine ret1 rfl hd35 (ev_hit hN35 rfl) ⟨_, rfl, ?_⟩
         -- path 19F 22T 30T 38T 54F 68T 74T 80F
         exact ⟨hb, rfl⟩
       · -- 74F
        rw [g74]
        refine st_g_false (j := 7) (dj := 74) (b := true) rfl rfl rfl (ev_hit hN35 rfl) rfl rfl ?_
        refine st_g_false (j := 7) (dj := 74) (b := true) rfl rfl rfl (ev_hit hN35 rfl) rfl rfl ?_
        refine st_g_false (j := 7) (dj := 74) (b := true) rfl rfl rfl (ev_hit hN35 rfl) rfl rfl ?_
        refine st_g_false (j := 7) (dj := 74) (b := true) rfl rfl rfl (ev_hit hN35 rfl) rfl rfl ?_
        refine st_g_false (j := 7) (dj := 74) (b := true) rfl rfl rfl (ev_hit hN35 rfl) rfl rfl ?_
        refine st_nil ?_
        refine from_seq (tl := [_, _, _]) (by decide) (by kernel_rfl) rfl ?_
        refine g_false (j := 7) (dj := 74) (b := true) rfl rfl rfl (ev_hit hN35 rfl) rfl rfl ?_
        refine g_false (j := 7) (dj := 74) (b := true) rfl rfl rfl (ev_hit hN35 rfl) rfl rfl ?_
        refine op_pick_f (ev_hit hN35 rfl) rfl ?_
        refine reg_nil ?_
        refine hK183 _ _ ?_
        refine wp_cond_false (ev_hit hN35 rfl) ?_
        refine wp_skip ?_
        refine hK182 _ _ ?_
        refine seq_any fun K261 hK261 => ?_
        refine one_reg ?_
        refine op_move (ev_hit hN35 rfl) ?_
        refine op_index_arr1 (j := (tix 16 (opN (L.getD i dOp)))) arr108 (ev_base hN35 rfl s35_8) (ev_hit hN35 rfl) (by omega) (by omega) ?_
        refine op_load1 (v := (Value.bool (IN.getD (tix 16 (opN (L.getD i dOp))) false))) one4 (ev_hit hN35 rfl) (hIN.cell (row_at (d := false) (by first | omega | (simp only [List.length_set]; omega)))) ?_
        rcases Bool.eq_false_or_eq_true ((IN.getD (tix 16 (opN (L.getD i dOp))) false)) with c86 | c86
        · -- 86T
         rw [g74] at c86; cases c86
        · -- 86F
         rw [c86]
         refine op_move (ev_hit hN35 rfl) ?_
         refine g_false (j := 3) (dj := 86) (b := true) rfl rfl rfl (ev_hit hN35 rfl) rfl rfl ?_
         refine g_false (j := 3) (dj := 86) (b := true) rfl rfl rfl (ev_hit hN35 rfl) rfl rfl ?_
         refine g_false (j := 3) (dj := 86) (b := true) rfl rfl rfl (ev_hit hN35 rfl) rfl rfl ?_
         refine g_false (j := 3) (dj := 86) (b := true) rfl rfl rfl (ev_hit hN35 rfl) rfl rfl ?_
         refine g_false (j := 3) (dj := 86) (b := true) rfl rfl rfl (ev_hit hN35 rfl) rfl rfl ?_
         refine op_pick_f (ev_hit hN35 rfl) rfl ?_
         refine op_assign (ev_hit hN35 rfl) ?_
         refine reg_nil ?_
         refine hK261 _ _ ?_
         refine seq_any fun K262 hK262 => ?_
         refine one_reg ?_
         have hSM := hU.mv (t := (tix 16 (opN (L.getD i dOp)))) (s := ((opS (L.getD i dOp)).toNat : Int)) (o := opLab (L.getD i dOp)) ht16 hl8
         refine op_move (ev_base hN35 rfl s35_5) ?_
         refine op_loadA (cs := [(Value.int .i64 (opK (L.getD i dOp))), (Value.int .i64 (((tix 16 (opN (L.getD i dOp))) : Nat) : Int)), (opLv (L.getD i dOp)), (Value.int .u64 ((opS (L.getD i dOp)).toNat : Int)), (opRv (L.getD i dOp)), (Value.string (bs (opW (L.getD i dOp))))]) agg103 rfl (ev_hit hN35 rfl) (fun j u hu => by rw [Nat.zero_add]; exact hB46.cell hu) ?_
         refine op_move (ev_hit hN35 rfl) ?_
         refine op_fn (vs := [(ptr k12 0), (Value.agg #[(Value.int .i64 (opK (L.getD i dOp))), (Value.int .i64 (((tix 16 (opN (L.getD i dOp))) : Nat) : Int)), (opLv (L.getD i dOp)), (Value.int .u64 ((opS (L.getD i dOp)).toNat : Int)), (opRv (L.getD i dOp)), (Value.string (bs (opW (L.getD i dOp))))]), (Value.int .i64 (((tix 11 (opK (L.getD i dOp))) : Nat) : Int))]) ok58 ⟨(ev_hit hN35 rfl), ⟨(ev_hit hN35 rfl), ⟨(ev_hit hN35 rfl), trivial⟩⟩⟩ (do_ret (K := (opK (L.getD i dOp))) (n := (((tix 16 (opN (L.getD i dOp))) : Nat) : Int)) (s := ((opS (L.getD i dOp)).toNat : Int)) (l := (opL (L.getD i dOp))) (R := (opR (L.getD i dOp))) (x := (opW (L.getD i dOp))) (lo := w.heap.size) (tix 11 (opK (L.getD i dOp))) (by omega) (hU.2.2.1.ok (by omega)) (hU.2.2.1.sm (by omega)) (by first | exact hl8 | decide) (by first | exact hlg.2.1 | decide) hLi hRi (by omega) hA) ?_
         rintro _ w264 ⟨E265, rfl, F263, hl263, hN263⟩
         have bd266 := hB.lt
         have bd267 := hIN.lt
         have bd268 := hNO.lt
         have bd269 := hB46.lt
         have hA_old := hA
         have z_w264 := E265.size
         have hr := hr.keepG E265 (fun k hk => .inr (by have := hA_old.lt k hk; omega))
         have hls : ∀ x9 ∈ (L.map opLab), RdC w264 0 w.heap.size 1 x9.1 x9.2.length (x9.2.map u16v) := fun x9 hx9 => (hls x9 hx9).keepG E265 (fun k hk => .inr (by have := hA_old.lt k hk; omega))
         have hrs : ∀ x9 ∈ (L.map opRds), RdC w264 0 w.heap.size 1 x9.1 x9.2.length (x9.2.map sv) := fun x9 hx9 => (hrs x9 hx9).keepG E265 (fun k hk => .inr (by have := hA_old.lt k hk; omega))
         have hA0 := hA0.keepG E265 (fun k hk => .inr (by have := hA_old.lt k hk; omega))
         have hB := hB.keepG E265 hdj.symm
         have hIN := hIN.keepG E265 djb28FA
         have hNO := hNO.keepG E265 djb21FA
         have hNw : ∀ x9 ∈ NOW, RdC w264 0 w.heap.size 1 x9.1 x9.2.length (x9.2.map u16v) := fun x9 hx9 => (hNw x9 hx9).keepG E265 (fun k hk => .inr (by have := hA_old.lt k hk; omega))
         have hLi := hLi.keepG E265 (fun k hk => .inr (by have := hA_old.lt k hk; omega))
         have hRi := hRi.keepG E265 (fun k hk => .inr (by have := hA_old.lt k hk; omega))
         have hB46 := hB46.keepG E265 dj47
         have hNt2 := hNt2.keepG E265 (fun k hk => .inr (by have := hA_old.lt k hk; omega))
         have hb := below_stepG hb E265 hb.size (fun k hk => (hA_old.lt k hk).1)
         have dj270 : Dj FB F263 := Dj.stepF hN263 (fun k hk => (bd266 k hk).2) hdj.symm
         have dj271 : ¬ F263 b28 := ne_stepF hN263 bd267 djb28FA
         have dj272 : ¬ F263 b21 := ne_stepF hN263 bd268 djb21FA
         have dj273 : ¬ F263 b44 := ne_stepF hN263 bd269 dj47
         refine op_assign (ev_hit hN35 rfl) ?_
         refine reg_nil ?_
         refine hK262 _ _ ?_
         refine seq_any fun K274 hK274 => ?_
         refine seq_any fun K275 hK275 => ?_
         refine one_reg ?_
         refine op_move (ev_hit hN35 rfl) ?_
         refine reg_nil ?_
         refine hK275 _ _ ?_
         refine wp_cond_false (ev_hit hN35 rfl) ?_
         refine wp_skip ?_
         refine hK274 _ _ ?_
         refine seq_any fun K276 hK276 => ?_
         refine one_reg ?_
         refine op_move (ev_hit hN35 rfl) ?_
         refine reg_nil ?_
         refine hK276 _ _ ?_
         refine wp_block ?_
         refine seq_any fun K277 hK277 => ?_
         refine one_reg ?_
         refine op_eql (ev_hit hN35 rfl) rfl (fun c106 => ?_) (fun c106 => ?_)
         · -- 106T
          refine op_assign (ev_hit hN35 rfl) ?_
          refine reg_nil ?_
          refine hK277 _ _ ?_
          refine wp_cond_true (ev_hit hN35 rfl) ?_
          refine seq_any fun K278 hK278 => ?_
          refine one_reg ?_
          refine op_move (ev_hit hN35 rfl) ?_
          refine op_index_arr1 (j := (tix 16 (opN (L.getD i dOp)))) arr108 (ev_base hN35 rfl s35_8) (ev_hit hN35 rfl) (by omega) (by omega) ?_
          refine op_load1 (v := (Value.bool (IN.getD (tix 16 (opN (L.getD i dOp))) false))) one4 (ev_hit hN35 rfl) (hIN.cell (row_at (d := false) (by first | omega | (simp only [List.length_set]; omega)))) ?_
          rcases Bool.eq_false_or_eq_true ((IN.getD (tix 16 (opN (L.getD i dOp))) false)) with c110 | c110
          · -- 110T
           rw [c86] at c110; cases c110
          · -- 110F
           rw [c110]
           refine op_move (ev_hit hN35 rfl) ?_
           refine g_false (j := 3) (dj := 110) (b := true) rfl rfl rfl (ev_hit hN35 rfl) rfl rfl ?_
           refine g_false (j := 3) (dj := 110) (b := true) rfl rfl rfl (ev_hit hN35 rfl) rfl rfl ?_
           refine op_pick_f (ev_hit hN35 rfl) rfl ?_
           refine reg_nil ?_
           refine hK278 _ _ ?_
           refine wp_cond_false (ev_hit hN35 rfl) ?_
           refine wp_skip ?_
           refine hK38 _ _ ?_
           refine one_reg ?_
           refine op_move (ev_base hN35 rfl s35_9) ?_
           refine op_add (ev_hit hN35 rfl) rfl (add64 (by omega)) ?_
           refine op_assign (ev_hit hN35 rfl) ?_
           refine reg_nil ?_
           -- round 19F 22T 30T 38T 54F 68T 74F 86F 106T 110F
           have hk2 : (tix 11 (opK (L.getD i dOp))) = 2 := by omega
           have hNx : UInv aL (doM A (tix 11 (opK (L.getD i dOp))) (((tix 16 (opN (L.getD i dOp))) : Nat) : Int) (opL (L.getD i dOp)) ((opS (L.getD i dOp)).toNat : Int) (opR (L.getD i dOp)) (opW (L.getD i dOp))) (B) IN NOW (3 * i + 3) := by
             rw [doM_2 hk2, show moveM A (((tix 16 (opN (L.getD i dOp))) : Nat) : Int) (opL (L.getD i dOp)) ((opS (L.getD i dOp)).toNat : Int) = A from hSM.1 c86]; exact hU.mono (by omega)
           exact loop_next _ hN35 hd35 ⟨(i + 1), doM A (tix 11 (opK (L.getD i dOp))) (((tix 16 (opN (L.getD i dOp))) : Nat) : Int) (opL (L.getD i dOp)) ((opS (L.getD i dOp)).toNat : Int) (opR (L.getD i dOp)) (opW (L.getD i dOp)), B, IN, NOW, F263, FB, rfl, (sl_base hN35 rfl s35_0), (sl_base hN35 rfl s35_1), (sl_base hN35 rfl s35_5), (sl_base hN35 rfl s35_6), (sl_base hN35 rfl s35_7), (sl_base hN35 rfl s35_8), (sl_hit hN35 rfl).trans (congrArg (Value.int .i64) (by omega)), (by omega), (hNx.mono (by omega)), dj270.symm, dj271, djb28FB, dj272, djb21FB, hb, (by omega), hr, hls, hrs, hA0, hl263, hB, hIN, hNO, hNw⟩ (by omega)
         · -- 106F
          exfalso; omega
      · -- 68F
       refine st_step rfl (fun _ h9 => op_cmp (b := false) (ev_hit hN35 rfl) rfl (b_eql (decide_eq_false g68)) h9) ?_
       refine st_step rfl (fun _ h9 => op_move (ev_hit hN35 rfl) h9) ?_
       refine st_g_false (j := 2) (dj := 69) (b := true) rfl rfl rfl (ev_hit hN35 rfl) rfl rfl ?_
       refine st_g_false (j := 2) (dj := 69) (b := true) rfl rfl rfl (ev_hit hN35 rfl) rfl rfl ?_
       refine st_g_false (j := 2) (dj := 69) (b := true) rfl rfl rfl (ev_hit hN35 rfl) rfl rfl ?_
       refine st_step rfl (fun _ h9 => op_pick_f (ev_hit hN35 rfl) rfl h9) ?_
       refine st_step rfl (fun _ h9 => op_move (ev_hit hN35 rfl) h9) ?_
       refine st_g_false (j := 7) (dj := 74) (b := true) rfl rfl rfl (ev_hit hN35 rfl) rfl rfl ?_
       refine st_g_false (j := 7) (dj := 74) (b := true) rfl rfl rfl (ev_hit hN35 rfl) rfl rfl ?_
       refine st_g_false (j := 7) (dj := 74) (b := true) rfl rfl rfl (ev_hit hN35 rfl) rfl rfl ?_
       refine st_g_false (j := 7) (dj := 74) (b := true) rfl rfl rfl (ev_hit hN35 rfl) rfl rfl ?_
       refine st_g_false (j := 7) (dj := 74) (b := true) rfl rfl rfl (ev_hit hN35 rfl) rfl rfl ?_
       refine st_nil ?_
       refine from_seq (tl := [_, _, _]) (by decide) (by kernel_rfl) rfl ?_
       refine g_false (j := 7) (dj := 74) (b := true) rfl rfl rfl (ev_hit hN35 rfl) rfl rfl ?_
       refine g_false (j := 7) (dj := 74) (b := true) rfl rfl rfl (ev_hit hN35 rfl) rfl rfl ?_
       refine op_pick_f (ev_hit hN35 rfl) rfl ?_
       refine reg_nil ?_
       refine hK183 _ _ ?_
       refine wp_cond_false (ev_hit hN35 rfl) ?_
       refine wp_skip ?_
       refine hK182 _ _ ?_
       refine seq_any fun K279 hK279 => ?_
       refine one_reg ?_
       refine op_move (ev_hit hN35 rfl) ?_
       refine op_index_arr1 (j := (tix 16 (opN (L.getD i dOp)))) arr108 (ev_base hN35 rfl s35_8) (ev_hit hN35 rfl) (by omega) (by omega) ?_
       refine op_load1 (v := (Value.bool (IN.getD (tix 16 (opN (L.getD i dOp))) false))) one4 (ev_hit hN35 rfl) (hIN.cell (row_at (d := false) (by first | omega | (simp only [List.length_set]; omega)))) ?_
       rcases Bool.eq_false_or_eq_true ((IN.getD (tix 16 (opN (L.getD i dOp))) false)) with c86 | c86
       · -- 86T
        rw [c86]
        refine op_move (ev_hit hN35 rfl) ?_
        refine g_true (j := 3) (dj := 86) (b := true) rfl rfl rfl (ev_hit hN35 rfl) ?_
        refine op_move (ev_hit hN35 rfl) ?_
        refine g_true (j := 3) (dj := 86) (b := true) rfl rfl rfl (ev_hit hN35 rfl) ?_
        refine op_index_arr1 (j := (tix 16 (opN (L.getD i dOp)))) arr107 (ev_base hN35 rfl s35_7) (ev_hit hN35 rfl) (by omega) (by omega) ?_
        refine g_true (j := 3) (dj := 86) (b := true) rfl rfl rfl (ev_hit hN35 rfl) ?_
        refine op_load1 (v := (NOW.getD (tix 16 (opN (L.getD i dOp))) DU).1) one54 (ev_hit hN35 rfl) (hNO.cell (row_at (d := DU) (by first | omega | (simp only [List.length_set]; omega)))) ?_
        refine g_true (j := 3) (dj := 86) (b := true) rfl rfl rfl (ev_hit hN35 rfl) ?_
        refine op_move (ev_base hN35 rfl s35_1) ?_
        refine g_true (j := 3) (dj := 86) (b := true) rfl rfl rfl (ev_hit hN35 rfl) ?_
        refine op_fn (vs := [(NOW.getD (tix 16 (opN (L.getD i dOp))) DU).1, vA]) ok50 ⟨(ev_hit hN35 rfl), ⟨(ev_hit hN35 rfl), trivial⟩⟩ (rflowsW_ret (NOW.getD (tix 16 (opN (L.getD i dOp))) DU).2 aL _ _ _ (by first | assumption | omega | (simp only [List.length_append, List.length_cons, List.length_nil, List.length_drop, List.length_take]; omega) | (dsimp only; omega) | decide | (simp [keyV, be8_len]; done)) (by first | assumption | omega | (simp only [List.length_append, List.length_cons, List.length_nil, List.length_drop, List.length_take]; omega) | (dsimp only; omega) | decide | (simp [keyV, be8_len]; done)) (show RdC w185 0 w185.heap.size 1 (NOW.getD (tix 16 (opN (L.getD i dOp))) DU).1 (NOW.getD (tix 16 (opN (L.getD i dOp))) DU).2.length ((NOW.getD (tix 16 (opN (L.getD i dOp))) DU).2.map u16v) from by have hh : RdC w185 0 w185.heap.size 1 _ _ _ := (hNt2.mono (L' := 0) (B' := w185.heap.size) (Nat.zero_le _) (by omega)); first | exact hh | exact hh.cast (by first | omega | (simp; try omega)) (by first | rfl | simp [u16v])) (show RdC w185 0 w185.heap.size 1 vA aL.length (aL.map u16v) from by have hh : RdC w185 0 w185.heap.size 1 _ _ _ := (hA0.mono (L' := 0) (B' := w185.heap.size) (Nat.zero_le _) (by omega)); first | exact hh | exact hh.cast (by first | omega | (simp; try omega)) (by first | rfl | simp [u16v]))) ?_
        rintro _ w280 ⟨E281, rfl⟩
        have E281 := grown_of_below E281
        have z_w280 := E281.size
        have hr := hr.keep0 E281
        have hls : ∀ x9 ∈ (L.map opLab), RdC w280 0 w.heap.size 1 x9.1 x9.2.length (x9.2.map u16v) := fun x9 hx9 => (hls x9 hx9).keep0 E281
        have hrs : ∀ x9 ∈ (L.map opRds), RdC w280 0 w.heap.size 1 x9.1 x9.2.length (x9.2.map sv) := fun x9 hx9 => (hrs x9 hx9).keep0 E281
        have hA0 := hA0.keep0 E281
        have hA := hA.keepG (Gr.of0 E281 NoB) (fun _ _ h => h)
        have hB := hB.keepG (Gr.of0 E281 NoB) (fun _ _ h => h)
        have hIN := hIN.keep0 E281
        have hNO := hNO.keep0 E281
        have hNw : ∀ x9 ∈ NOW, RdC w280 0 w.heap.size 1 x9.1 x9.2.length (x9.2.map u16v) := fun x9 hx9 => (hNw x9 hx9).keep0 E281
        have hLi := hLi.keep0 E281
        have hRi := hRi.keep0 E281
        have hB46 := hB46.keep0 E281
        have hNt2 := hNt2.keep0 E281
        have hb := below_step0 hb E281 hb.size
        rcases Bool.eq_false_or_eq_true ((flowsL (NOW.getD (tix 16 (opN (L.getD i dOp))) DU).2 aL)) with c91 | c91
        · -- 91T
         rw [c91]
         refine op_pick_t (ev_hit hN35 rfl) (ev_hit hN35 rfl) ?_
         refine op_assign (ev_hit hN35 rfl) ?_
         refine reg_nil ?_
         refine hK279 _ _ ?_
         refine seq_any fun K282 hK282 => ?_
         refine one_reg ?_
         have hSe := hU.see (t := (tix 16 (opN (L.getD i dOp)))) (kd := (tix 11 (opK (L.getD i dOp)))) (l := opL (L.getD i dOp)) (s := ((opS (L.getD i dOp)).toNat : Int)) (R := opR (L.getD i dOp)) (x := opW (L.getD i dOp)) ht16 c86 c91 hlg.2.1 hl8 (by omega)
         refine op_move (ev_base hN35 rfl s35_5) ?_
         refine op_loadA (cs := [(Value.int .i64 (opK (L.getD i dOp))), (Value.int .i64 (((tix 16 (opN (L.getD i dOp))) : Nat) : Int)), (opLv (L.getD i dOp)), (Value.int .u64 ((opS (L.getD i dOp)).toNat : Int)), (opRv (L.getD i dOp)), (Value.string (bs (opW (L.getD i dOp))))]) agg103 rfl (ev_hit hN35 rfl) (fun j u hu => by rw [Nat.zero_add]; exact hB46.cell hu) ?_
         refine op_move (ev_hit hN35 rfl) ?_
         refine op_fn (vs := [(ptr k12 0), (Value.agg #[(Value.int .i64 (opK (L.getD i dOp))), (Value.int .i64 (((tix 16 (opN (L.getD i dOp))) : Nat) : Int)), (opLv (L.getD i dOp)), (Value.int .u64 ((opS (L.getD i dOp)).toNat : Int)), (opRv (L.getD i dOp)), (Value.string (bs (opW (L.getD i dOp))))]), (Value.int .i64 (((tix 11 (opK (L.getD i dOp))) : Nat) : Int))]) ok58 ⟨(ev_hit hN35 rfl), ⟨(ev_hit hN35 rfl), ⟨(ev_hit hN35 rfl), trivial⟩⟩⟩ (do_ret (K := (opK (L.getD i dOp))) (n := (((tix 16 (opN (L.getD i dOp))) : Nat) : Int)) (s := ((opS (L.getD i dOp)).toNat : Int)) (l := (opL (L.getD i dOp))) (R := (opR (L.getD i dOp))) (x := (opW (L.getD i dOp))) (lo := w.heap.size) (tix 11 (opK (L.getD i dOp))) (by omega) (hU.2.2.1.ok (by omega)) (hU.2.2.1.sm (by omega)) (by first | exact hl8 | decide) (by first | exact hlg.2.1 | decide) hLi hRi (by omega) hA) ?_
         rintro _ w284 ⟨E285, rfl, F283, hl283, hN283⟩
         have bd286 := hB.lt
         have bd287 := hIN.lt
         have bd288 := hNO.lt
         have bd289 := hB46.lt
         have hA_old := hA
         have z_w284 := E285.size
         have hr := hr.keepG E285 (fun k hk => .inr (by have := hA_old.lt k hk; omega))
         have hls : ∀ x9 ∈ (L.map opLab), RdC w284 0 w.heap.size 1 x9.1 x9.2.length (x9.2.map u16v) := fun x9 hx9 => (hls x9 hx9).keepG E285 (fun k hk => .inr (by have := hA_old.lt k hk; omega))
         have hrs : ∀ x9 ∈ (L.map opRds), RdC w284 0 w.heap.size 1 x9.1 x9.2.length (x9.2.map sv) := fun x9 hx9 => (hrs x9 hx9).keepG E285 (fun k hk => .inr (by have := hA_old.lt k hk; omega))
         have hA0 := hA0.keepG E285 (fun k hk => .inr (by have := hA_old.lt k hk; omega))
         have hB := hB.keepG E285 hdj.symm
         have hIN := hIN.keepG E285 djb28FA
         have hNO := hNO.keepG E285 djb21FA
         have hNw : ∀ x9 ∈ NOW, RdC w284 0 w.heap.size 1 x9.1 x9.2.length (x9.2.map u16v) := fun x9 hx9 => (hNw x9 hx9).keepG E285 (fun k hk => .inr (by have := hA_old.lt k hk; omega))
         have hLi := hLi.keepG E285 (fun k hk => .inr (by have := hA_old.lt k hk; omega))
         have hRi := hRi.keepG E285 (fun k hk => .inr (by have := hA_old.lt k hk; omega))
         have hB46 := hB46.keepG E285 dj47
         have hNt2 := hNt2.keepG E285 (fun k hk => .inr (by have := hA_old.lt k hk; omega))
         have hb := below_stepG hb E285 hb.size (fun k hk => (hA_old.lt k hk).1)
         have dj290 : Dj FB F283 := Dj.stepF hN283 (fun k hk => (bd286 k hk).2) hdj.symm
         have dj291 : ¬ F283 b28 := ne_stepF hN283 bd287 djb28FA
         have dj292 : ¬ F283 b21 := ne_stepF hN283 bd288 djb21FA
         have dj293 : ¬ F283 b44 := ne_stepF hN283 bd289 dj47
         refine op_assign (ev_hit hN35 rfl) ?_
         refine reg_nil ?_
         refine hK282 _ _ ?_
         refine seq_any fun K294 hK294 => ?_
         refine seq_any fun K295 hK295 => ?_
         refine one_reg ?_
         refine op_move (ev_hit hN35 rfl) ?_
         refine reg_nil ?_
         refine hK295 _ _ ?_
         refine wp_cond_true (ev_hit hN35 rfl) ?_
         refine seq_any fun K296 hK296 => ?_
         refine one_reg ?_
         refine op_move (ev_base hN35 rfl s35_6) ?_
         refine op_loadA (cs := [(Value.int .i64 (opK (L.getD i dOp))), (Value.int .i64 (((tix 16 (opN (L.getD i dOp))) : Nat) : Int)), (opLv (L.getD i dOp)), (Value.int .u64 ((opS (L.getD i dOp)).toNat : Int)), (opRv (L.getD i dOp)), (Value.string (bs (opW (L.getD i dOp))))]) agg103 rfl (ev_hit hN35 rfl) (fun j u hu => by rw [Nat.zero_add]; exact hB46.cell hu) ?_
         refine op_move (ev_hit hN35 rfl) ?_
         refine op_fn (vs := [(ptr k15 0), (Value.agg #[(Value.int .i64 (opK (L.getD i dOp))), (Value.int .i64 (((tix 16 (opN (L.getD i dOp))) : Nat) : Int)), (opLv (L.getD i dOp)), (Value.int .u64 ((opS (L.getD i dOp)).toNat : Int)), (opRv (L.getD i dOp)), (Value.string (bs (opW (L.getD i dOp))))]), (Value.int .i64 (((tix 11 (opK (L.getD i dOp))) : Nat) : Int))]) ok58 ⟨(ev_hit hN35 rfl), ⟨(ev_hit hN35 rfl), ⟨(ev_hit hN35 rfl), trivial⟩⟩⟩ (do_ret (K := (opK (L.getD i dOp))) (n := (((tix 16 (opN (L.getD i dOp))) : Nat) : Int)) (s := ((opS (L.getD i dOp)).toNat : Int)) (l := (opL (L.getD i dOp))) (R := (opR (L.getD i dOp))) (x := (opW (L.getD i dOp))) (lo := w.heap.size) (tix 11 (opK (L.getD i dOp))) (by omega) (hU.2.2.2.1.ok (by omega)) (hU.2.2.2.1.sm (by omega)) (by first | exact hl8 | decide) (by first | exact hlg.2.1 | decide) hLi hRi (by omega) hB) ?_
         rintro _ w298 ⟨E299, rfl, F297, hl297, hN297⟩
         have bd300 := hIN.lt
         have bd301 := hNO.lt
         have bd302 := hB46.lt
         have bd303 := hl283.lt
         have hB_old := hB
         have z_w298 := E299.size
         have hr := hr.keepG E299 (fun k hk => .inr (by have := hB_old.lt k hk; omega))
         have hls : ∀ x9 ∈ (L.map opLab), RdC w298 0 w.heap.size 1 x9.1 x9.2.length (x9.2.map u16v) := fun x9 hx9 => (hls x9 hx9).keepG E299 (fun k hk => .inr (by have := hB_old.lt k hk; omega))
         have hrs : ∀ x9 ∈ (L.map opRds), RdC w298 0 w.heap.size 1 x9.1 x9.2.length (x9.2.map sv) := fun x9 hx9 => (hrs x9 hx9).keepG E299 (fun k hk => .inr (by have := hB_old.lt k hk; omega))
         have hA0 := hA0.keepG E299 (fun k hk => .inr (by have := hB_old.lt k hk; omega))
         have hIN := hIN.keepG E299 djb28FB
         have hNO := hNO.keepG E299 djb21FB
         have hNw : ∀ x9 ∈ NOW, RdC w298 0 w.heap.size 1 x9.1 x9.2.length (x9.2.map u16v) := fun x9 hx9 => (hNw x9 hx9).keepG E299 (fun k hk => .inr (by have := hB_old.lt k hk; omega))
         have hLi := hLi.keepG E299 (fun k hk => .inr (by have := hB_old.lt k hk; omega))
         have hRi := hRi.keepG E299 (fun k hk => .inr (by have := hB_old.lt k hk; omega))
         have hB46 := hB46.keepG E299 dj48
         have hNt2 := hNt2.keepG E299 (fun k hk => .inr (by have := hB_old.lt k hk; omega))
         have hl283 := hl283.keepG E299 dj290.symm
         have hb := below_stepG hb E299 hb.size (fun k hk => (hB_old.lt k hk).1)
         have dj304 : ¬ F297 b28 := ne_stepF hN297 bd300 djb28FB
         have dj305 : ¬ F297 b21 := ne_stepF hN297 bd301 djb21FB
         have dj306 : ¬ F297 b44 := ne_stepF hN297 bd302 dj48
         have dj307 : Dj F283 F297 := Dj.stepF hN297 (fun k hk => (bd303 k hk).2) dj290.symm
         refine op_move (ev_hit hN35 rfl) ?_
         refine op_neq (ev_hit hN35 rfl) (ev_hit hN35 rfl) (fun c103 => ?_) (fun c103 => ?_)
         · -- 103T
          exact absurd hSe.1 c103
         · -- 103F
          refine reg_nil ?_
          refine hK296 _ _ ?_
          refine wp_cond_false (ev_hit hN35 rfl) ?_
          refine wp_skip ?_
          refine hK294 _ _ ?_
          refine seq_any fun K308 hK308 => ?_
          refine one_reg ?_
          refine op_move (ev_hit hN35 rfl) ?_
          refine reg_nil ?_
          refine hK308 _ _ ?_
          refine wp_block ?_
          refine seq_any fun K309 hK309 => ?_
          refine one_reg ?_
          refine op_eql (ev_hit hN35 rfl) rfl (fun c106 => ?_) (fun c106 => ?_)
          · -- 106T
           exfalso; omega
          · -- 106F
           refine op_assign (ev_hit hN35 rfl) ?_
           refine reg_nil ?_
           refine hK309 _ _ ?_
           refine wp_cond_false (ev_hit hN35 rfl) ?_
           refine seq_any fun K310 hK310 => ?_
           refine seq_any fun K311 hK311 => ?_
           refine one_reg ?_
           refine op_eql (ev_hit hN35 rfl) rfl (fun c132 => ?_) (fun c132 => ?_)
           · -- 132T
            refine op_assign (ev_hit hN35 rfl) ?_
            refine reg_nil ?_
            refine hK311 _ _ ?_
            refine wp_cond_true (ev_hit hN35 rfl) ?_
            refine wp_skip ?_
            refine hK310 _ _ ?_
            refine wp_cond_true (ev_hit hN35 rfl) ?_
            refine one_reg ?_
            refine op_move (ev_hit hN35 rfl) ?_
            refine op_index_arr1 (j := (tix 16 (opN (L.getD i dOp)))) arr108 (ev_base hN35 rfl s35_8) (ev_hit hN35 rfl) (by omega) (by omega) ?_
            have hIN_old := hIN
            refine op_store_row (v := (Value.bool false)) size4 (ev_hit hN35 rfl) rfl rfl rfl hIN (by rw [List.length_map]; omega) ?_
            intro w312 hIN E313
            have z_w312 := E313.size
            have hr := hr.keep E313 (fun k hk => .inr (by simp at hk; omega))
            have hls : ∀ x9 ∈ (L.map opLab), RdC w312 0 w.heap.size 1 x9.1 x9.2.length (x9.2.map u16v) := fun x9 hx9 => (hls x9 hx9).keep E313 (fun k hk => .inr (by simp at hk; omega))
            have hrs : ∀ x9 ∈ (L.map opRds), RdC w312 0 w.heap.size 1 x9.1 x9.2.length (x9.2.map sv) := fun x9 hx9 => (hrs x9 hx9).keep E313 (fun k hk => .inr (by simp at hk; omega))
            have hA0 := hA0.keep E313 (fun k hk => .inr (by simp at hk; omega))
            have hNO := hNO.keep E313 (fun hh => hNO.ne hIN_old (by decide) (Option.some.inj hh))
            have hNw : ∀ x9 ∈ NOW, RdC w312 0 w.heap.size 1 x9.1 x9.2.length (x9.2.map u16v) := fun x9 hx9 => (hNw x9 hx9).keep E313 (fun k hk => .inr (by simp at hk; omega))
            have hLi := hLi.keep E313 (fun k hk => .inr (by simp at hk; omega))
            have hRi := hRi.keep E313 (fun k hk => .inr (by simp at hk; omega))
            have hB46 := hB46.keep E313 (fun hh => hB46.ne hIN_old (by decide) (Option.some.inj hh))
            have hNt2 := hNt2.keep E313 (fun k hk => .inr (by simp at hk; omega))
            have hl283 := hl283.keepG (Gr.of E313) (Dj.one dj291)
            have hl297 := hl297.keepG (Gr.of E313) (Dj.one dj304)
            have hb := below_step1 hb E313 hb.size (by omega)
            have hIN : Bx w312 b28 108 (((IN.set (tix 16 (opN (L.getD i dOp))) false).map Value.bool)) := row_set hIN
            refine reg_nil ?_
            refine hK38 _ _ ?_
            refine one_reg ?_
            refine op_move (ev_base hN35 rfl s35_9) ?_
            refine op_add (ev_hit hN35 rfl) rfl (add64 (by omega)) ?_
            refine op_assign (ev_hit hN35 rfl) ?_
            refine reg_nil ?_
            -- round 19F 22T 30T 38T 54F 68F 86T 91T 103F 106F 132T
            have hNx : UInv aL (doM A (tix 11 (opK (L.getD i dOp))) (((tix 16 (opN (L.getD i dOp))) : Nat) : Int) (opL (L.getD i dOp)) ((opS (L.getD i dOp)).toNat : Int) (opR (L.getD i dOp)) (opW (L.getD i dOp))) (doM B (tix 11 (opK (L.getD i dOp))) (((tix 16 (opN (L.getD i dOp))) : Nat) : Int) (opL (L.getD i dOp)) ((opS (L.getD i dOp)).toNat : Int) (opR (L.getD i dOp)) (opW (L.getD i dOp))) (IN.set (tix 16 (opN (L.getD i dOp))) false) NOW (3 * i + 3) := by
              have h9 := hSe.2
              rw [show inK (tix 11 (opK (L.getD i dOp))) (tix 16 (opN (L.getD i dOp))) IN = (IN.set (tix 16 (opN (L.getD i dOp))) false) from if_pos (by omega)] at h9
              exact h9.mono (by omega)
            exact loop_next _ hN35 hd35 ⟨(i + 1), doM A (tix 11 (opK (L.getD i dOp))) (((tix 16 (opN (L.getD i dOp))) : Nat) : Int) (opL (L.getD i dOp)) ((opS (L.getD i dOp)).toNat : Int) (opR (L.getD i dOp)) (opW (L.getD i dOp)), doM B (tix 11 (opK (L.getD i dOp))) (((tix 16 (opN (L.getD i dOp))) : Nat) : Int) (opL (L.getD i dOp)) ((opS (L.getD i dOp)).toNat : Int) (opR (L.getD i dOp)) (opW (L.getD i dOp)), (IN.set (tix 16 (opN (L.getD i dOp))) false), NOW, F283, F297, rfl, (sl_base hN35 rfl s35_0), (sl_base hN35 rfl s35_1), (sl_base hN35 rfl s35_5), (sl_base hN35 rfl s35_6), (sl_base hN35 rfl s35_7), (sl_base hN35 rfl s35_8), (sl_hit hN35 rfl).trans (congrArg (Value.int .i64) (by omega)), (by omega), (hNx.mono (by omega)), dj307, dj291, dj304, dj292, dj305, hb, (by omega), hr, hls, hrs, hA0, hl283, hl297, hIN, hNO, hNw⟩ (by omega)
           · -- 132F
            refine op_assign (ev_hit hN35 rfl) ?_
            refine reg_nil ?_
            refine hK311 _ _ ?_
            refine wp_cond_false (ev_hit hN35 rfl) ?_
            refine one_reg ?_
            refine op_eql (ev_hit hN35 rfl) rfl (fun c133 => ?_) (fun c133 => ?_)
            · -- 133T
             refine op_assign (ev_hit hN35 rfl) ?_
             refine reg_nil ?_
             refine hK310 _ _ ?_
             refine wp_cond_true (ev_hit hN35 rfl) ?_
             refine one_reg ?_
             refine op_move (ev_hit hN35 rfl) ?_
             refine op_index_arr1 (j := (tix 16 (opN (L.getD i dOp)))) arr108 (ev_base hN35 rfl s35_8) (ev_hit hN35 rfl) (by omega) (by omega) ?_
             have hIN_old := hIN
             refine op_store_row (v := (Value.bool false)) size4 (ev_hit hN35 rfl) rfl rfl rfl hIN (by rw [List.length_map]; omega) ?_
             intro w314 hIN E315
             have z_w314 := E315.size
             have hr := hr.keep E315 (fun k hk => .inr (by simp at hk; omega))
             have hls : ∀ x9 ∈ (L.map opLab), RdC w314 0 w.heap.size 1 x9.1 x9.2.length (x9.2.map u16v) := fun x9 hx9 => (hls x9 hx9).keep E315 (fun k hk => .inr (by simp at hk; omega))
             have hrs : ∀ x9 ∈ (L.map opRds), RdC w314 0 w.heap.size 1 x9.1 x9.2.length (x9.2.map sv) := fun x9 hx9 => (hrs x9 hx9).keep E315 (fun k hk => .inr (by simp at hk; omega))
             have hA0 := hA0.keep E315 (fun k hk => .inr (by simp at hk; omega))
             have hNO := hNO.keep E315 (fun hh => hNO.ne hIN_old (by decide) (Option.some.inj hh))
             have hNw : ∀ x9 ∈ NOW, RdC w314 0 w.heap.size 1 x9.1 x9.2.length (x9.2.map u16v) := fun x9 hx9 => (hNw x9 hx9).keep E315 (fun k hk => .inr (by simp at hk; omega))
             have hLi := hLi.keep E315 (fun k hk => .inr (by simp at hk; omega))
             have hRi := hRi.keep E315 (fun k hk => .inr (by simp at hk; omega))
             have hB46 := hB46.keep E315 (fun hh => hB46.ne hIN_old (by decide) (Option.some.inj hh))
             have hNt2 := hNt2.keep E315 (fun k hk => .inr (by simp at hk; omega))
             have hl283 := hl283.keepG (Gr.of E315) (Dj.one dj291)
             have hl297 := hl297.keepG (Gr.of E315) (Dj.one dj304)
             have hb := below_step1 hb E315 hb.size (by omega)
             have hIN : Bx w314 b28 108 (((IN.set (tix 16 (opN (L.getD i dOp))) false).map Value.bool)) := row_set hIN
             refine reg_nil ?_
             refine hK38 _ _ ?_
             refine one_reg ?_
             refine op_move (ev_base hN35 rfl s35_9) ?_
             refine op_add (ev_hit hN35 rfl) rfl (add64 (by omega)) ?_
             refine op_assign (ev_hit hN35 rfl) ?_
             refine reg_nil ?_
             -- round 19F 22T 30T 38T 54F 68F 86T 91T 103F 106F 132F 133T
             have hNx : UInv aL (doM A (tix 11 (opK (L.getD i dOp))) (((tix 16 (opN (L.getD i dOp))) : Nat) : Int) (opL (L.getD i dOp)) ((opS (L.getD i dOp)).toNat : Int) (opR (L.getD i dOp)) (opW (L.getD i dOp))) (doM B (tix 11 (opK (L.getD i dOp))) (((tix 16 (opN (L.getD i dOp))) : Nat) : Int) (opL (L.getD i dOp)) ((opS (L.getD i dOp)).toNat : Int) (opR (L.getD i dOp)) (opW (L.getD i dOp))) (IN.set (tix 16 (opN (L.getD i dOp))) false) NOW (3 * i + 3) := by
               have h9 := hSe.2
               rw [show inK (tix 11 (opK (L.getD i dOp))) (tix 16 (opN (L.getD i dOp))) IN = (IN.set (tix 16 (opN (L.getD i dOp))) false) from if_pos (by omega)] at h9
               exact h9.mono (by omega)
             exact loop_next _ hN35 hd35 ⟨(i + 1), doM A (tix 11 (opK (L.getD i dOp))) (((tix 16 (opN (L.getD i dOp))) : Nat) : Int) (opL (L.getD i dOp)) ((opS (L.getD i dOp)).toNat : Int) (opR (L.getD i dOp)) (opW (L.getD i dOp)), doM B (tix 11 (opK (L.getD i dOp))) (((tix 16 (opN (L.getD i dOp))) : Nat) : Int) (opL (L.getD i dOp)) ((opS (L.getD i dOp)).toNat : Int) (opR (L.getD i dOp)) (opW (L.getD i dOp)), (IN.set (tix 16 (opN (L.getD i dOp))) false), NOW, F283, F297, rfl, (sl_base hN35 rfl s35_0), (sl_base hN35 rfl s35_1), (sl_base hN35 rfl s35_5), (sl_base hN35 rfl s35_6), (sl_base hN35 rfl s35_7), (sl_base hN35 rfl s35_8), (sl_hit hN35 rfl).trans (congrArg (Value.int .i64) (by omega)), (by omega), (hNx.mono (by omega)), dj307, dj291, dj304, dj292, dj305, hb, (by omega), hr, hls, hrs, hA0, hl283, hl297, hIN, hNO, hNw⟩ (by omega)
            · -- 133F
             refine op_assign (ev_hit hN35 rfl) ?_
             refine reg_nil ?_
             refine hK310 _ _ ?_
             refine wp_cond_false (ev_hit hN35 rfl) ?_
             refine wp_skip ?_
             refine hK38 _ _ ?_
             refine one_reg ?_
             refine op_move (ev_base hN35 rfl s35_9) ?_
             refine op_add (ev_hit hN35 rfl) rfl (add64 (by omega)) ?_
             refine op_assign (ev_hit hN35 rfl) ?_
             refine reg_nil ?_
             -- round 19F 22T 30T 38T 54F 68F 86T 91T 103F 106F 132F 133F
             have hNx : UInv aL (doM A (tix 11 (opK (L.getD i dOp))) (((tix 16 (opN (L.getD i dOp))) : Nat) : Int) (opL (L.getD i dOp)) ((opS (L.getD i dOp)).toNat : Int) (opR (L.getD i dOp)) (opW (L.getD i dOp))) (doM B (tix 11 (opK (L.getD i dOp))) (((tix 16 (opN (L.getD i dOp))) : Nat) : Int) (opL (L.getD i dOp)) ((opS (L.getD i dOp)).toNat : Int) (opR (L.getD i dOp)) (opW (L.getD i dOp))) IN NOW (3 * i + 3) := by
               have h9 := hSe.2
               rw [show inK (tix 11 (opK (L.getD i dOp))) (tix 16 (opN (L.getD i dOp))) IN = IN from if_neg (by omega)] at h9
               exact h9.mono (by omega)
             exact loop_next _ hN35 hd35 ⟨(i + 1), doM A (tix 11 (opK (L.getD i dOp))) (((tix 16 (opN (L.getD i dOp))) : Nat) : Int) (opL (L.getD i dOp)) ((opS (L.getD i dOp)).toNat : Int) (opR (L.getD i dOp)) (opW (L.getD i dOp)), doM B (tix 11 (opK (L.getD i dOp))) (((tix 16 (opN (L.getD i dOp))) : Nat) : Int) (opL (L.getD i dOp)) ((opS (L.getD i dOp)).toNat : Int) (opR (L.getD i dOp)) (opW (L.getD i dOp)), IN, NOW, F283, F297, rfl, (sl_base hN35 rfl s35_0), (sl_base hN35 rfl s35_1), (sl_base hN35 rfl s35_5), (sl_base hN35 rfl s35_6), (sl_base hN35 rfl s35_7), (sl_base hN35 rfl s35_8), (sl_hit hN35 rfl).trans (congrArg (Value.int .i64) (by omega)), (by omega), (hNx.mono (by omega)), dj307, dj291, dj304, dj292, dj305, hb, (by omega), hr, hls, hrs, hA0, hl283, hl297, hIN, hNO, hNw⟩ (by omega)
        · -- 91F
         rw [c91]
         refine op_pick_t (ev_hit hN35 rfl) (ev_hit hN35 rfl) ?_
         refine op_assign (ev_hit hN35 rfl) ?_
         refine reg_nil ?_
         refine hK279 _ _ ?_
         refine seq_any fun K316 hK316 => ?_
         refine one_reg ?_
         have hSe := hU.hide (t := (tix 16 (opN (L.getD i dOp)))) (kd := (tix 11 (opK (L.getD i dOp)))) (l := opL (L.getD i dOp)) (s := ((opS (L.getD i dOp)).toNat : Int)) (R := opR (L.getD i dOp)) (x := opW (L.getD i dOp)) ht16 (fun q => by rw [c91] at q; exact absurd q.2 (by decide)) hlg.2.1 hl8 (by omega) (fun q => absurd q (by omega))
         refine op_move (ev_base hN35 rfl s35_5) ?_
         refine op_loadA (cs := [(Value.int .i64 (opK (L.getD i dOp))), (Value.int .i64 (((tix 16 (opN (L.getD i dOp))) : Nat) : Int)), (opLv (L.getD i dOp)), (Value.int .u64 ((opS (L.getD i dOp)).toNat : Int)), (opRv (L.getD i dOp)), (Value.string (bs (opW (L.getD i dOp))))]) agg103 rfl (ev_hit hN35 rfl) (fun j u hu => by rw [Nat.zero_add]; exact hB46.cell hu) ?_
         refine op_move (ev_hit hN35 rfl) ?_
         refine op_fn (vs := [(ptr k12 0), (Value.agg #[(Value.int .i64 (opK (L.getD i dOp))), (Value.int .i64 (((tix 16 (opN (L.getD i dOp))) : Nat) : Int)), (opLv (L.getD i dOp)), (Value.int .u64 ((opS (L.getD i dOp)).toNat : Int)), (opRv (L.getD i dOp)), (Value.string (bs (opW (L.getD i dOp))))]), (Value.int .i64 (((tix 11 (opK (L.getD i dOp))) : Nat) : Int))]) ok58 ⟨(ev_hit hN35 rfl), ⟨(ev_hit hN35 rfl), ⟨(ev_hit hN35 rfl), trivial⟩⟩⟩ (do_ret (K := (opK (L.getD i dOp))) (n := (((tix 16 (opN (L.getD i dOp))) : Nat) : Int)) (s := ((opS (L.getD i dOp)).toNat : Int)) (l := (opL (L.getD i dOp))) (R := (opR (L.getD i dOp))) (x := (opW (L.getD i dOp))) (lo := w.heap.size) (tix 11 (opK (L.getD i dOp))) (by omega) (hU.2.2.1.ok (by omega)) (hU.2.2.1.sm (by omega)) (by first | exact hl8 | decide) (by first | exact hlg.2.1 | decide) hLi hRi (by omega) hA) ?_
         rintro _ w318 ⟨E319, rfl, F317, hl317, hN317⟩
         have bd320 := hB.lt
         have bd321 := hIN.lt
         have bd322 := hNO.lt
         have bd323 := hB46.lt
         have hA_old := hA
         have z_w318 := E319.size
         have hr := hr.keepG E319 (fun k hk => .inr (by have := hA_old.lt k hk; omega))
         have hls : ∀ x9 ∈ (L.map opLab), RdC w318 0 w.heap.size 1 x9.1 x9.2.length (x9.2.map u16v) := fun x9 hx9 => (hls x9 hx9).keepG E319 (fun k hk => .inr (by have := hA_old.lt k hk; omega))
         have hrs : ∀ x9 ∈ (L.map opRds), RdC w318 0 w.heap.size 1 x9.1 x9.2.length (x9.2.map sv) := fun x9 hx9 => (hrs x9 hx9).keepG E319 (fun k hk => .inr (by have := hA_old.lt k hk; omega))
         have hA0 := hA0.keepG E319 (fun k hk => .inr (by have := hA_old.lt k hk; omega))
         have hB := hB.keepG E319 hdj.symm
         have hIN := hIN.keepG E319 djb28FA
         have hNO := hNO.keepG E319 djb21FA
         have hNw : ∀ x9 ∈ NOW, RdC w318 0 w.heap.size 1 x9.1 x9.2.length (x9.2.map u16v) := fun x9 hx9 => (hNw x9 hx9).keepG E319 (fun k hk => .inr (by have := hA_old.lt k hk; omega))
         have hLi := hLi.keepG E319 (fun k hk => .inr (by have := hA_old.lt k hk; omega))
         have hRi := hRi.keepG E319 (fun k hk => .inr (by have := hA_old.lt k hk; omega))
         have hB46 := hB46.keepG E319 dj47
         have hNt2 := hNt2.keepG E319 (fun k hk => .inr (by have := hA_old.lt k hk; omega))
         have hb := below_stepG hb E319 hb.size (fun k hk => (hA_old.lt k hk).1)
         have dj324 : Dj FB F317 := Dj.stepF hN317 (fun k hk => (bd320 k hk).2) hdj.symm
         have dj325 : ¬ F317 b28 := ne_stepF hN317 bd321 djb28FA
         have dj326 : ¬ F317 b21 := ne_stepF hN317 bd322 djb21FA
         have dj327 : ¬ F317 b44 := ne_stepF hN317 bd323 dj47
         refine op_assign (ev_hit hN35 rfl) ?_
         refine reg_nil ?_
         refine hK316 _ _ ?_
         refine seq_any fun K328 hK328 => ?_
         refine seq_any fun K329 hK329 => ?_
         refine one_reg ?_
         refine op_move (ev_hit hN35 rfl) ?_
         refine reg_nil ?_
         refine hK329 _ _ ?_
         refine wp_cond_false (ev_hit hN35 rfl) ?_
         refine wp_skip ?_
         refine hK328 _ _ ?_
         refine seq_any fun K330 hK330 => ?_
         refine one_reg ?_
         refine op_move (ev_hit hN35 rfl) ?_
         refine reg_nil ?_
         refine hK330 _ _ ?_
         refine wp_block ?_
         refine seq_any fun K331 hK331 => ?_
         refine one_reg ?_
         refine op_eql (ev_hit hN35 rfl) rfl (fun c106 => ?_) (fun c106 => ?_)
         · -- 106T
          exfalso; omega
         · -- 106F
          refine op_assign (ev_hit hN35 rfl) ?_
          refine reg_nil ?_
          refine hK331 _ _ ?_
          refine wp_cond_false (ev_hit hN35 rfl) ?_
          refine seq_any fun K332 hK332 => ?_
          refine seq_any fun K333 hK333 => ?_
          refine one_reg ?_
          refine op_eql (ev_hit hN35 rfl) rfl (fun c132 => ?_) (fun c132 => ?_)
          · -- 132T
           refine op_assign (ev_hit hN35 rfl) ?_
           refine reg_nil ?_
           refine hK333 _ _ ?_
           refine wp_cond_true (ev_hit hN35 rfl) ?_
           refine wp_skip ?_
           refine hK332 _ _ ?_
           refine wp_cond_true (ev_hit hN35 rfl) ?_
           refine one_reg ?_
           refine op_move (ev_hit hN35 rfl) ?_
           refine op_index_arr1 (j := (tix 16 (opN (L.getD i dOp)))) arr108 (ev_base hN35 rfl s35_8) (ev_hit hN35 rfl) (by omega) (by omega) ?_
           have hIN_old := hIN
           refine op_store_row (v := (Value.bool false)) size4 (ev_hit hN35 rfl) rfl rfl rfl hIN (by rw [List.length_map]; omega) ?_
           intro w334 hIN E335
           have z_w334 := E335.size
           have hr := hr.keep E335 (fun k hk => .inr (by simp at hk; omega))
           have hls : ∀ x9 ∈ (L.map opLab), RdC w334 0 w.heap.size 1 x9.1 x9.2.length (x9.2.map u16v) := fun x9 hx9 => (hls x9 hx9).keep E335 (fun k hk => .inr (by simp at hk; omega))
           have hrs : ∀ x9 ∈ (L.map opRds), RdC w334 0 w.heap.size 1 x9.1 x9.2.length (x9.2.map sv) := fun x9 hx9 => (hrs x9 hx9).keep E335 (fun k hk => .inr (by simp at hk; omega))
           have hA0 := hA0.keep E335 (fun k hk => .inr (by simp at hk; omega))
           have hB := hB.keepG (Gr.of E335) (Dj.one djb28FB)
           have hNO := hNO.keep E335 (fun hh => hNO.ne hIN_old (by decide) (Option.some.inj hh))
           have hNw : ∀ x9 ∈ NOW, RdC w334 0 w.heap.size 1 x9.1 x9.2.length (x9.2.map u16v) := fun x9 hx9 => (hNw x9 hx9).keep E335 (fun k hk => .inr (by simp at hk; omega))
           have hLi := hLi.keep E335 (fun k hk => .inr (by simp at hk; omega))
           have hRi := hRi.keep E335 (fun k hk => .inr (by simp at hk; omega))
           have hB46 := hB46.keep E335 (fun hh => hB46.ne hIN_old (by decide) (Option.some.inj hh))
           have hNt2 := hNt2.keep E335 (fun k hk => .inr (by simp at hk; omega))
           have hl317 := hl317.keepG (Gr.of E335) (Dj.one dj325)
           have hb := below_step1 hb E335 hb.size (by omega)
           have hIN : Bx w334 b28 108 (((IN.set (tix 16 (opN (L.getD i dOp))) false).map Value.bool)) := row_set hIN
           refine reg_nil ?_
           refine hK38 _ _ ?_
           refine one_reg ?_
           refine op_move (ev_base hN35 rfl s35_9) ?_
           refine op_add (ev_hit hN35 rfl) rfl (add64 (by omega)) ?_
           refine op_assign (ev_hit hN35 rfl) ?_
           refine reg_nil ?_
           -- round 19F 22T 30T 38T 54F 68F 86T 91F 106F 132T
           have hNx : UInv aL (doM A (tix 11 (opK (L.getD i dOp))) (((tix 16 (opN (L.getD i dOp))) : Nat) : Int) (opL (L.getD i dOp)) ((opS (L.getD i dOp)).toNat : Int) (opR (L.getD i dOp)) (opW (L.getD i dOp))) (B) (IN.set (tix 16 (opN (L.getD i dOp))) false) NOW (3 * i + 3) := by
             have h9 := hSe
             rw [show inK (tix 11 (opK (L.getD i dOp))) (tix 16 (opN (L.getD i dOp))) IN = (IN.set (tix 16 (opN (L.getD i dOp))) false) from if_pos (by omega)] at h9
             exact h9.mono (by omega)
           exact loop_next _ hN35 hd35 ⟨(i + 1), doM A (tix 11 (opK (L.getD i dOp))) (((tix 16 (opN (L.getD i dOp))) : Nat) : Int) (opL (L.getD i dOp)) ((opS (L.getD i dOp)).toNat : Int) (opR (L.getD i dOp)) (opW (L.getD i dOp)), B, (IN.set (tix 16 (opN (L.getD i dOp))) false), NOW, F317, FB, rfl, (sl_base hN35 rfl s35_0), (sl_base hN35 rfl s35_1), (sl_base hN35 rfl s35_5), (sl_base hN35 rfl s35_6), (sl_base hN35 rfl s35_7), (sl_base hN35 rfl s35_8), (sl_hit hN35 rfl).trans (congrArg (Value.int .i64) (by omega)), (by omega), (hNx.mono (by omega)), dj324.symm, dj325, djb28FB, dj326, djb21FB, hb, (by omega), hr, hls, hrs, hA0, hl317, hB, hIN, hNO, hNw⟩ (by omega)
          · -- 132F
           refine op_assign (ev_hit hN35 rfl) ?_
           refine reg_nil ?_
           refine hK333 _ _ ?_
           refine wp_cond_false (ev_hit hN35 rfl) ?_
           refine one_reg ?_
           refine op_eql (ev_hit hN35 rfl) rfl (fun c133 => ?_) (fun c133 => ?_)
           · -- 133T
            refine op_assign (ev_hit hN35 rfl) ?_
            refine reg_nil ?_
            refine hK332 _ _ ?_
            refine wp_cond_true (ev_hit hN35 rfl) ?_
            refine one_reg ?_
            refine op_move (ev_hit hN35 rfl) ?_
            refine op_index_arr1 (j := (tix 16 (opN (L.getD i dOp)))) arr108 (ev_base hN35 rfl s35_8) (ev_hit hN35 rfl) (by omega) (by omega) ?_
            have hIN_old := hIN
            refine op_store_row (v := (Value.bool false)) size4 (ev_hit hN35 rfl) rfl rfl rfl hIN (by rw [List.length_map]; omega) ?_
            intro w336 hIN E337
            have z_w336 := E337.size
            have hr := hr.keep E337 (fun k hk => .inr (by simp at hk; omega))
            have hls : ∀ x9 ∈ (L.map opLab), RdC w336 0 w.heap.size 1 x9.1 x9.2.length (x9.2.map u16v) := fun x9 hx9 => (hls x9 hx9).keep E337 (fun k hk => .inr (by simp at hk; omega))
            have hrs : ∀ x9 ∈ (L.map opRds), RdC w336 0 w.heap.size 1 x9.1 x9.2.length (x9.2.map sv) := fun x9 hx9 => (hrs x9 hx9).keep E337 (fun k hk => .inr (by simp at hk; omega))
            have hA0 := hA0.keep E337 (fun k hk => .inr (by simp at hk; omega))
            have hB := hB.keepG (Gr.of E337) (Dj.one djb28FB)
            have hNO := hNO.keep E337 (fun hh => hNO.ne hIN_old (by decide) (Option.some.inj hh))
            have hNw : ∀ x9 ∈ NOW, RdC w336 0 w.heap.size 1 x9.1 x9.2.length (x9.2.map u16v) := fun x9 hx9 => (hNw x9 hx9).keep E337 (fun k hk => .inr (by simp at hk; omega))
            have hLi := hLi.keep E337 (fun k hk => .inr (by simp at hk; omega))
            have hRi := hRi.keep E337 (fun k hk => .inr (by simp at hk; omega))
            have hB46 := hB46.keep E337 (fun hh => hB46.ne hIN_old (by decide) (Option.some.inj hh))
            have hNt2 := hNt2.keep E337 (fun k hk => .inr (by simp at hk; omega))
            have hl317 := hl317.keepG (Gr.of E337) (Dj.one dj325)
            have hb := below_step1 hb E337 hb.size (by omega)
            have hIN : Bx w336 b28 108 (((IN.set (tix 16 (opN (L.getD i dOp))) false).map Value.bool)) := row_set hIN
            refine reg_nil ?_
            refine hK38 _ _ ?_
            refine one_reg ?_
            refine op_move (ev_base hN35 rfl s35_9) ?_
            refine op_add (ev_hit hN35 rfl) rfl (add64 (by omega)) ?_
            refine op_assign (ev_hit hN35 rfl) ?_
            refine reg_nil ?_
            -- round 19F 22T 30T 38T 54F 68F 86T 91F 106F 132F 133T
            have hNx : UInv aL (doM A (tix 11 (opK (L.getD i dOp))) (((tix 16 (opN (L.getD i dOp))) : Nat) : Int) (opL (L.getD i dOp)) ((opS (L.getD i dOp)).toNat : Int) (opR (L.getD i dOp)) (opW (L.getD i dOp))) (B) (IN.set (tix 16 (opN (L.getD i dOp))) false) NOW (3 * i + 3) := by
              have h9 := hSe
              rw [show inK (tix 11 (opK (L.getD i dOp))) (tix 16 (opN (L.getD i dOp))) IN = (IN.set (tix 16 (opN (L.getD i dOp))) false) from if_pos (by omega)] at h9
              exact h9.mono (by omega)
            exact loop_next _ hN35 hd35 ⟨(i + 1), doM A (tix 11 (opK (L.getD i dOp))) (((tix 16 (opN (L.getD i dOp))) : Nat) : Int) (opL (L.getD i dOp)) ((opS (L.getD i dOp)).toNat : Int) (opR (L.getD i dOp)) (opW (L.getD i dOp)), B, (IN.set (tix 16 (opN (L.getD i dOp))) false), NOW, F317, FB, rfl, (sl_base hN35 rfl s35_0), (sl_base hN35 rfl s35_1), (sl_base hN35 rfl s35_5), (sl_base hN35 rfl s35_6), (sl_base hN35 rfl s35_7), (sl_base hN35 rfl s35_8), (sl_hit hN35 rfl).trans (congrArg (Value.int .i64) (by omega)), (by omega), (hNx.mono (by omega)), dj324.symm, dj325, djb28FB, dj326, djb21FB, hb, (by omega), hr, hls, hrs, hA0, hl317, hB, hIN, hNO, hNw⟩ (by omega)
           · -- 133F
            refine op_assign (ev_hit hN35 rfl) ?_
            refine reg_nil ?_
            refine hK332 _ _ ?_
            refine wp_cond_false (ev_hit hN35 rfl) ?_
            refine wp_skip ?_
            refine hK38 _ _ ?_
            refine one_reg ?_
            refine op_move (ev_base hN35 rfl s35_9) ?_
            refine op_add (ev_hit hN35 rfl) rfl (add64 (by omega)) ?_
            refine op_assign (ev_hit hN35 rfl) ?_
            refine reg_nil ?_
            -- round 19F 22T 30T 38T 54F 68F 86T 91F 106F 132F 133F
            have hNx : UInv aL (doM A (tix 11 (opK (L.getD i dOp))) (((tix 16 (opN (L.getD i dOp))) : Nat) : Int) (opL (L.getD i dOp)) ((opS (L.getD i dOp)).toNat : Int) (opR (L.getD i dOp)) (opW (L.getD i dOp))) (B) IN NOW (3 * i + 3) := by
              have h9 := hSe
              rw [show inK (tix 11 (opK (L.getD i dOp))) (tix 16 (opN (L.getD i dOp))) IN = IN from if_neg (by omega)] at h9
              exact h9.mono (by omega)
            exact loop_next _ hN35 hd35 ⟨(i + 1), doM A (tix 11 (opK (L.getD i dOp))) (((tix 16 (opN (L.getD i dOp))) : Nat) : Int) (opL (L.getD i dOp)) ((opS (L.getD i dOp)).toNat : Int) (opR (L.getD i dOp)) (opW (L.getD i dOp)), B, IN, NOW, F317, FB, rfl, (sl_base hN35 rfl s35_0), (sl_base hN35 rfl s35_1), (sl_base hN35 rfl s35_5), (sl_base hN35 rfl s35_6), (sl_base hN35 rfl s35_7), (sl_base hN35 rfl s35_8), (sl_hit hN35 rfl).trans (congrArg (Value.int .i64) (by omega)), (by omega), (hNx.mono (by omega)), dj324.symm, dj325, djb28FB, dj326, djb21FB, hb, (by omega), hr, hls, hrs, hA0, hl317, hB, hIN, hNO, hNw⟩ (by omega)
       · -- 86F
        rw [c86]
        refine op_move (ev_hit hN35 rfl) ?_
        refine g_false (j := 3) (dj := 86) (b := true) rfl rfl rfl (ev_hit hN35 rfl) rfl rfl ?_
        refine g_false (j := 3) (dj := 86) (b := true) rfl rfl rfl (ev_hit hN35 rfl) rfl rfl ?_
        refine g_false (j := 3) (dj := 86) (b := true) rfl rfl rfl (ev_hit hN35 rfl) rfl rfl ?_
        refine g_false (j := 3) (dj := 86) (b := true) rfl rfl rfl (ev_hit hN35 rfl) rfl rfl ?_
        refine g_false (j := 3) (dj := 86) (b := true) rfl rfl rfl (ev_hit hN35 rfl) rfl rfl ?_
        refine op_pick_f (ev_hit hN35 rfl) rfl ?_
        refine op_assign (ev_hit hN35 rfl) ?_
        refine reg_nil ?_
        refine hK279 _ _ ?_
        refine seq_any fun K338 hK338 => ?_
        refine one_reg ?_
        have hSe := hU.hide (t := (tix 16 (opN (L.getD i dOp)))) (kd := (tix 11 (opK (L.getD i dOp)))) (l := opL (L.getD i dOp)) (s := ((opS (L.getD i dOp)).toNat : Int)) (R := opR (L.getD i dOp)) (x := opW (L.getD i dOp)) ht16 (fun q => by rw [c86] at q; exact absurd q.1 (by decide)) hlg.2.1 hl8 (by omega) (fun q => absurd q (by omega))
        refine op_move (ev_base hN35 rfl s35_5) ?_
        refine op_loadA (cs := [(Value.int .i64 (opK (L.getD i dOp))), (Value.int .i64 (((tix 16 (opN (L.getD i dOp))) : Nat) : Int)), (opLv (L.getD i dOp)), (Value.int .u64 ((opS (L.getD i dOp)).toNat : Int)), (opRv (L.getD i dOp)), (Value.string (bs (opW (L.getD i dOp))))]) agg103 rfl (ev_hit hN35 rfl) (fun j u hu => by rw [Nat.zero_add]; exact hB46.cell hu) ?_
        refine op_move (ev_hit hN35 rfl) ?_
        refine op_fn (vs := [(ptr k12 0), (Value.agg #[(Value.int .i64 (opK (L.getD i dOp))), (Value.int .i64 (((tix 16 (opN (L.getD i dOp))) : Nat) : Int)), (opLv (L.getD i dOp)), (Value.int .u64 ((opS (L.getD i dOp)).toNat : Int)), (opRv (L.getD i dOp)), (Value.string (bs (opW (L.getD i dOp))))]), (Value.int .i64 (((tix 11 (opK (L.getD i dOp))) : Nat) : Int))]) ok58 ⟨(ev_hit hN35 rfl), ⟨(ev_hit hN35 rfl), ⟨(ev_hit hN35 rfl), trivial⟩⟩⟩ (do_ret (K := (opK (L.getD i dOp))) (n := (((tix 16 (opN (L.getD i dOp))) : Nat) : Int)) (s := ((opS (L.getD i dOp)).toNat : Int)) (l := (opL (L.getD i dOp))) (R := (opR (L.getD i dOp))) (x := (opW (L.getD i dOp))) (lo := w.heap.size) (tix 11 (opK (L.getD i dOp))) (by omega) (hU.2.2.1.ok (by omega)) (hU.2.2.1.sm (by omega)) (by first | exact hl8 | decide) (by first | exact hlg.2.1 | decide) hLi hRi (by omega) hA) ?_
        rintro _ w340 ⟨E341, rfl, F339, hl339, hN339⟩
        have bd342 := hB.lt
        have bd343 := hIN.lt
        have bd344 := hNO.lt
        have bd345 := hB46.lt
        have hA_old := hA
        have z_w340 := E341.size
        have hr := hr.keepG E341 (fun k hk => .inr (by have := hA_old.lt k hk; omega))
        have hls : ∀ x9 ∈ (L.map opLab), RdC w340 0 w.heap.size 1 x9.1 x9.2.length (x9.2.map u16v) := fun x9 hx9 => (hls x9 hx9).keepG E341 (fun k hk => .inr (by have := hA_old.lt k hk; omega))
        have hrs : ∀ x9 ∈ (L.map opRds), RdC w340 0 w.heap.size 1 x9.1 x9.2.length (x9.2.map sv) := fun x9 hx9 => (hrs x9 hx9).keepG E341 (fun k hk => .inr (by have := hA_old.lt k hk; omega))
        have hA0 := hA0.keepG E341 (fun k hk => .inr (by have := hA_old.lt k hk; omega))
        have hB := hB.keepG E341 hdj.symm
        have hIN := hIN.keepG E341 djb28FA
        have hNO := hNO.keepG E341 djb21FA
        have hNw : ∀ x9 ∈ NOW, RdC w340 0 w.heap.size 1 x9.1 x9.2.length (x9.2.map u16v) := fun x9 hx9 => (hNw x9 hx9).keepG E341 (fun k hk => .inr (by have := hA_old.lt k hk; omega))
        have hLi := hLi.keepG E341 (fun k hk => .inr (by have := hA_old.lt k hk; omega))
        have hRi := hRi.keepG E341 (fun k hk => .inr (by have := hA_old.lt k hk; omega))
        have hB46 := hB46.keepG E341 dj47
        have hNt2 := hNt2.keepG E341 (fun k hk => .inr (by have := hA_old.lt k hk; omega))
        have hb := below_stepG hb E341 hb.size (fun k hk => (hA_old.lt k hk).1)
        have dj346 : Dj FB F339 := Dj.stepF hN339 (fun k hk => (bd342 k hk).2) hdj.symm
        have dj347 : ¬ F339 b28 := ne_stepF hN339 bd343 djb28FA
        have dj348 : ¬ F339 b21 := ne_stepF hN339 bd344 djb21FA
        have dj349 : ¬ F339 b44 := ne_stepF hN339 bd345 dj47
        refine op_assign (ev_hit hN35 rfl) ?_
        refine reg_nil ?_
        refine hK338 _ _ ?_
        refine seq_any fun K350 hK350 => ?_
        refine seq_any fun K351 hK351 => ?_
        refine one_reg ?_
        refine op_move (ev_hit hN35 rfl) ?_
        refine reg_nil ?_
        refine hK351 _ _ ?_
        refine wp_cond_false (ev_hit hN35 rfl) ?_
        refine wp_skip ?_
        refine hK350 _ _ ?_
        refine seq_any fun K352 hK352 => ?_
        refine one_reg ?_
        refine op_move (ev_hit hN35 rfl) ?_
        refine reg_nil ?_
        refine hK352 _ _ ?_
        refine wp_block ?_
        refine seq_any fun K353 hK353 => ?_
        refine one_reg ?_
        refine op_eql (ev_hit hN35 rfl) rfl (fun c106 => ?_) (fun c106 => ?_)
        · -- 106T
         exfalso; omega
        · -- 106F
         refine op_assign (ev_hit hN35 rfl) ?_
         refine reg_nil ?_
         refine hK353 _ _ ?_
         refine wp_cond_false (ev_hit hN35 rfl) ?_
         refine seq_any fun K354 hK354 => ?_
         refine seq_any fun K355 hK355 => ?_
         refine one_reg ?_
         refine op_eql (ev_hit hN35 rfl) rfl (fun c132 => ?_) (fun c132 => ?_)
         · -- 132T
          refine op_assign (ev_hit hN35 rfl) ?_
          refine reg_nil ?_
          refine hK355 _ _ ?_
          refine wp_cond_true (ev_hit hN35 rfl) ?_
          refine wp_skip ?_
          refine hK354 _ _ ?_
          refine wp_cond_true (ev_hit hN35 rfl) ?_
          refine one_reg ?_
          refine op_move (ev_hit hN35 rfl) ?_
          refine op_index_arr1 (j := (tix 16 (opN (L.getD i dOp)))) arr108 (ev_base hN35 rfl s35_8) (ev_hit hN35 rfl) (by omega) (by omega) ?_
          have hIN_old := hIN
          refine op_store_row (v := (Value.bool false)) size4 (ev_hit hN35 rfl) rfl rfl rfl hIN (by rw [List.length_map]; omega) ?_
          intro w356 hIN E357
          have z_w356 := E357.size
          have hr := hr.keep E357 (fun k hk => .inr (by simp at hk; omega))
          have hls : ∀ x9 ∈ (L.map opLab), RdC w356 0 w.heap.size 1 x9.1 x9.2.length (x9.2.map u16v) := fun x9 hx9 => (hls x9 hx9).keep E357 (fun k hk => .inr (by simp at hk; omega))
          have hrs : ∀ x9 ∈ (L.map opRds), RdC w356 0 w.heap.size 1 x9.1 x9.2.length (x9.2.map sv) := fun x9 hx9 => (hrs x9 hx9).keep E357 (fun k hk => .inr (by simp at hk; omega))
          have hA0 := hA0.keep E357 (fun k hk => .inr (by simp at hk; omega))
          have hB := hB.keepG (Gr.of E357) (Dj.one djb28FB)
          have hNO := hNO.keep E357 (fun hh => hNO.ne hIN_old (by decide) (Option.some.inj hh))
          have hNw : ∀ x9 ∈ NOW, RdC w356 0 w.heap.size 1 x9.1 x9.2.length (x9.2.map u16v) := fun x9 hx9 => (hNw x9 hx9).keep E357 (fun k hk => .inr (by simp at hk; omega))
          have hLi := hLi.keep E357 (fun k hk => .inr (by simp at hk; omega))
          have hRi := hRi.keep E357 (fun k hk => .inr (by simp at hk; omega))
          have hB46 := hB46.keep E357 (fun hh => hB46.ne hIN_old (by decide) (Option.some.inj hh))
          have hNt2 := hNt2.keep E357 (fun k hk => .inr (by simp at hk; omega))
          have hl339 := hl339.keepG (Gr.of E357) (Dj.one dj347)
          have hb := below_step1 hb E357 hb.size (by omega)
          have hIN : Bx w356 b28 108 (((IN.set (tix 16 (opN (L.getD i dOp))) false).map Value.bool)) := row_set hIN
          refine reg_nil ?_
          refine hK38 _ _ ?_
          refine one_reg ?_
          refine op_move (ev_base hN35 rfl s35_9) ?_
          refine op_add (ev_hit hN35 rfl) rfl (add64 (by omega)) ?_
          refine op_assign (ev_hit hN35 rfl) ?_
          refine reg_nil ?_
          -- round 19F 22T 30T 38T 54F 68F 86F 106F 132T
          have hNx : UInv aL (doM A (tix 11 (opK (L.getD i dOp))) (((tix 16 (opN (L.getD i dOp))) : Nat) : Int) (opL (L.getD i dOp)) ((opS (L.getD i dOp)).toNat : Int) (opR (L.getD i dOp)) (opW (L.getD i dOp))) (B) (IN.set (tix 16 (opN (L.getD i dOp))) false) NOW (3 * i + 3) := by
            have h9 := hSe
            rw [show inK (tix 11 (opK (L.getD i dOp))) (tix 16 (opN (L.getD i dOp))) IN = (IN.set (tix 16 (opN (L.getD i dOp))) false) from if_pos (by omega)] at h9
            exact h9.mono (by omega)
          exact loop_next _ hN35 hd35 ⟨(i + 1), doM A (tix 11 (opK (L.getD i dOp))) (((tix 16 (opN (L.getD i dOp))) : Nat) : Int) (opL (L.getD i dOp)) ((opS (L.getD i dOp)).toNat : Int) (opR (L.getD i dOp)) (opW (L.getD i dOp)), B, (IN.set (tix 16 (opN (L.getD i dOp))) false), NOW, F339, FB, rfl, (sl_base hN35 rfl s35_0), (sl_base hN35 rfl s35_1), (sl_base hN35 rfl s35_5), (sl_base hN35 rfl s35_6), (sl_base hN35 rfl s35_7), (sl_base hN35 rfl s35_8), (sl_hit hN35 rfl).trans (congrArg (Value.int .i64) (by omega)), (by omega), (hNx.mono (by omega)), dj346.symm, dj347, djb28FB, dj348, djb21FB, hb, (by omega), hr, hls, hrs, hA0, hl339, hB, hIN, hNO, hNw⟩ (by omega)
         · -- 132F
          refine op_assign (ev_hit hN35 rfl) ?_
          refine reg_nil ?_
          refine hK355 _ _ ?_
          refine wp_cond_false (ev_hit hN35 rfl) ?_
          refine one_reg ?_
          refine op_eql (ev_hit hN35 rfl) rfl (fun c133 => ?_) (fun c133 => ?_)
          · -- 133T
           refine op_assign (ev_hit hN35 rfl) ?_
           refine reg_nil ?_
           refine hK354 _ _ ?_
           refine wp_cond_true (ev_hit hN35 rfl) ?_
           refine one_reg ?_
           refine op_move (ev_hit hN35 rfl) ?_
           refine op_index_arr1 (j := (tix 16 (opN (L.getD i dOp)))) arr108 (ev_base hN35 rfl s35_8) (ev_hit hN35 rfl) (by omega) (by omega) ?_
           have hIN_old := hIN
           refine op_store_row (v := (Value.bool false)) size4 (ev_hit hN35 rfl) rfl rfl rfl hIN (by rw [List.length_map]; omega) ?_
           intro w358 hIN E359
           have z_w358 := E359.size
           have hr := hr.keep E359 (fun k hk => .inr (by simp at hk; omega))
           have hls : ∀ x9 ∈ (L.map opLab), RdC w358 0 w.heap.size 1 x9.1 x9.2.length (x9.2.map u16v) := fun x9 hx9 => (hls x9 hx9).keep E359 (fun k hk => .inr (by simp at hk; omega))
           have hrs : ∀ x9 ∈ (L.map opRds), RdC w358 0 w.heap.size 1 x9.1 x9.2.length (x9.2.map sv) := fun x9 hx9 => (hrs x9 hx9).keep E359 (fun k hk => .inr (by simp at hk; omega))
           have hA0 := hA0.keep E359 (fun k hk => .inr (by simp at hk; omega))
           have hB := hB.keepG (Gr.of E359) (Dj.one djb28FB)
           have hNO := hNO.keep E359 (fun hh => hNO.ne hIN_old (by decide) (Option.some.inj hh))
           have hNw : ∀ x9 ∈ NOW, RdC w358 0 w.heap.size 1 x9.1 x9.2.length (x9.2.map u16v) := fun x9 hx9 => (hNw x9 hx9).keep E359 (fun k hk => .inr (by simp at hk; omega))
           have hLi := hLi.keep E359 (fun k hk => .inr (by simp at hk; omega))
           have hRi := hRi.keep E359 (fun k hk => .inr (by simp at hk; omega))
           have hB46 := hB46.keep E359 (fun hh => hB46.ne hIN_old (by decide) (Option.some.inj hh))
           have hNt2 := hNt2.keep E359 (fun k hk => .inr (by simp at hk; omega))
           have hl339 := hl339.keepG (Gr.of E359) (Dj.one dj347)
           have hb := below_step1 hb E359 hb.size (by omega)
           have hIN : Bx w358 b28 108 (((IN.set (tix 16 (opN (L.getD i dOp))) false).map Value.bool)) := row_set hIN
           refine reg_nil ?_
           refine hK38 _ _ ?_
           refine one_reg ?_
           refine op_move (ev_base hN35 rfl s35_9) ?_
           refine op_add (ev_hit hN35 rfl) rfl (add64 (by omega)) ?_
           refine op_assign (ev_hit hN35 rfl) ?_
           refine reg_nil ?_
           -- round 19F 22T 30T 38T 54F 68F 86F 106F 132F 133T
           have hNx : UInv aL (doM A (tix 11 (opK (L.getD i dOp))) (((tix 16 (opN (L.getD i dOp))) : Nat) : Int) (opL (L.getD i dOp)) ((opS (L.getD i dOp)).toNat : Int) (opR (L.getD i dOp)) (opW (L.getD i dOp))) (B) (IN.set (tix 16 (opN (L.getD i dOp))) false) NOW (3 * i + 3) := by
             have h9 := hSe
             rw [show inK (tix 11 (opK (L.getD i dOp))) (tix 16 (opN (L.getD i dOp))) IN = (IN.set (tix 16 (opN (L.getD i dOp))) false) from if_pos (by omega)] at h9
             exact h9.mono (by omega)
           exact loop_next _ hN35 hd35 ⟨(i + 1), doM A (tix 11 (opK (L.getD i dOp))) (((tix 16 (opN (L.getD i dOp))) : Nat) : Int) (opL (L.getD i dOp)) ((opS (L.getD i dOp)).toNat : Int) (opR (L.getD i dOp)) (opW (L.getD i dOp)), B, (IN.set (tix 16 (opN (L.getD i dOp))) false), NOW, F339, FB, rfl, (sl_base hN35 rfl s35_0), (sl_base hN35 rfl s35_1), (sl_base hN35 rfl s35_5), (sl_base hN35 rfl s35_6), (sl_base hN35 rfl s35_7), (sl_base hN35 rfl s35_8), (sl_hit hN35 rfl).trans (congrArg (Value.int .i64) (by omega)), (by omega), (hNx.mono (by omega)), dj346.symm, dj347, djb28FB, dj348, djb21FB, hb, (by omega), hr, hls, hrs, hA0, hl339, hB, hIN, hNO, hNw⟩ (by omega)
          · -- 133F
           refine op_assign (ev_hit hN35 rfl) ?_
           refine reg_nil ?_
           refine hK354 _ _ ?_
           refine wp_cond_false (ev_hit hN35 rfl) ?_
           refine wp_skip ?_
           refine hK38 _ _ ?_
           refine one_reg ?_
           refine op_move (ev_base hN35 rfl s35_9) ?_
           refine op_add (ev_hit hN35 rfl) rfl (add64 (by omega)) ?_
           refine op_assign (ev_hit hN35 rfl) ?_
           refine reg_nil ?_
           -- round 19F 22T 30T 38T 54F 68F 86F 106F 132F 133F
           have hNx : UInv aL (doM A (tix 11 (opK (L.getD i dOp))) (((tix 16 (opN (L.getD i dOp))) : Nat) : Int) (opL (L.getD i dOp)) ((opS (L.getD i dOp)).toNat : Int) (opR (L.getD i dOp)) (opW (L.getD i dOp))) (B) IN NOW (3 * i + 3) := by
             have h9 := hSe
             rw [show inK (tix 11 (opK (L.getD i dOp))) (tix 16 (opN (L.getD i dOp))) IN = IN from if_neg (by omega)] at h9
             exact h9.mono (by omega)
           exact loop_next _ hN35 hd35 ⟨(i + 1), doM A (tix 11 (opK (L.getD i dOp))) (((tix 16 (opN (L.getD i dOp))) : Nat) : Int) (opL (L.getD i dOp)) ((opS (L.getD i dOp)).toNat : Int) (opR (L.getD i dOp)) (opW (L.getD i dOp)), B, IN, NOW, F339, FB, rfl, (sl_base hN35 rfl s35_0), (sl_base hN35 rfl s35_1), (sl_base hN35 rfl s35_5), (sl_base hN35 rfl s35_6), (sl_base hN35 rfl s35_7), (sl_base hN35 rfl s35_8), (sl_hit hN35 rfl).trans (congrArg (Value.int .i64) (by omega)), (by omega), (hNx.mono (by omega)), dj346.symm, dj347, djb28FB, dj348, djb21FB, hb, (by omega), hr, hls, hrs, hA0, hl339, hB, hIN, hNO, hNw⟩ (by omega)
    · -- 38F
     rw [c38]
     refine op_not (ev_hit hN35 rfl) ?_
     refine reg_nil ?_
     refine hK54 _ _ ?_
     refine wp_cond_true (ev_hit hN35 rfl) ?_
     refine seq_any fun K360 hK360 => ?_
     refine one_reg ?_
     refine op_assign rfl ?_
     refine reg_nil ?_
     refine hK360 _ _ ?_
     refine wp_ret (then_ret (blk_ret (then_ret (then_ret (blk_ret (then_ret ( ?_)))))))
     refine ret1 rfl hd35 (ev_hit hN35 rfl) ⟨_, rfl, ?_⟩
     -- path 19F 22T 30T 38F
     exact ⟨hb, rfl⟩
   · -- 30F
    refine reg_nil ?_
    refine hK37 _ _ ?_
    refine wp_cond_false (ev_hit hN35 rfl) ?_
    refine wp_exit (then_exit (then_exit (blk_hit ?_)))
    refine hK33 _ _ ?_
    refine seq_any fun K361 hK361 => ?_
    refine one_reg ?_
    refine op_assign rfl ?_
    refine reg_nil ?_
    refine hK361 _ _ ?_
    refine wp_ret ?_
    refine ret1 rfl hd35 (ev_hit hN35 rfl) ⟨_, rfl, ?_⟩
    -- path 19F 22T 30F
    exact ⟨hb, rfl⟩
  · -- 22F
   rw [c22]
   refine g_true (j := 3) (dj := 20) (b := false) rfl rfl rfl (ev_hit hN rfl) ?_
   refine op_not (ev_hit hN rfl) ?_
   refine op_pick_f (ev_hit hN rfl) (ev_hit hN rfl) ?_
   refine reg_nil ?_
   refine hK7 _ _ ?_
   refine wp_cond_true (ev_hit hN rfl) ?_
   refine seq_any fun K362 hK362 => ?_
   refine one_reg ?_
   refine op_assign rfl ?_
   refine reg_nil ?_
   refine hK362 _ _ ?_
   refine wp_ret (then_ret ( ?_))
   refine ret1 rfl hd (ev_hit hN rfl) ⟨_, rfl, ?_⟩
   -- path 19F 22F
   exact ⟨hb, rfl⟩

end Go.Proofs.Ytmhdbphpmgjpcaa

/- What the arguments of the laws are, told by their types. -/
namespace Go.Proofs.Ytmhdbphpmgjpcaa
open Go.Gx Go.RowKit
theorem rd_le {w : World} {L B sz n : Nat} {v : Value} {cs : List Value} (h : RdC w L B sz v n cs) : n ≤ 9223372036854775807 := by obtain ⟨_, _, _, _, hq, hm, _⟩ := h; exact Nat.le_trans hq hm
theorem cells46 : Try.prog.cellsOf 46 = 1 := by kernel_rfl
theorem flat_u16v (l : List UInt16) : l.flatMap (fun c => [u16v c]) = l.map u16v := by induction l with | nil => rfl | cons c l ih => simp [ih]
theorem dec54 {H : Type} {enc : TypeId × Value → H} {w : World} {base : Nat} {spare : Nat → Bool} {held : Bool} : Dec enc Try.prog w base spare held 54 (fun p : Value × List UInt16 => [p.1]) (fun p => RdC w 0 w.heap.size 1 p.1 p.2.length (p.2.map u16v)) :=
  (Dec.slice Try.underlying54 (by rw [cells46]; decide) (Dec.u16 Try.underlying46) (fun _ _ => by rw [cells46]; rfl)).map fun p hp => ⟨p, rfl, by have hq := hp.1; rwa [cells46, flat_u16v] at hq⟩
theorem cells54 : Try.prog.cellsOf 54 = 1 := by kernel_rfl
theorem cells3 : Try.prog.cellsOf 3 = 1 := by kernel_rfl
theorem cells9 : Try.prog.cellsOf 9 = 1 := by kernel_rfl
theorem dec26 {H : Type} {enc : TypeId × Value → H} {w : World} {base : Nat} {spare : Nat → Bool} {held : Bool} : Dec enc Try.prog w base spare held 26 (fun p : Value × List (List UInt8) => [p.1]) (fun p => RdC w 0 w.heap.size 1 p.1 p.2.length (p.2.flatMap (fun s => [.string (bs s)])) ∧ ∀ x ∈ p.2, x.length ≤ maxLen) :=
  (Dec.slice Try.underlying26 (by rw [cells9]; decide) (Dec.str Try.underlying9) (fun _ _ => by rw [cells9]; rfl)).map fun p hp => ⟨p, rfl, by have hq := hp.1; rw [cells9] at hq; exact hq, hp.2⟩
theorem cells103 : Try.prog.cellsOf 103 = 6 := by kernel_rfl
theorem cells61 : Try.prog.cellsOf 61 = 1 := by kernel_rfl
theorem cells26 : Try.prog.cellsOf 26 = 1 := by kernel_rfl
theorem len_6 {l : List Value} (h : l.length = 6) : ∃ c0 c1 c2 c3 c4 c5, l = [c0, c1, c2, c3, c4, c5] := by match l, h with | [c0, c1, c2, c3, c4, c5], _ => exact ⟨c0, c1, c2, c3, c4, c5, rfl⟩
theorem dec103 {H : Type} {enc : TypeId × Value → H} {w : World} {base : Nat} {spare : Nat → Bool} {held : Bool} : Dec enc Try.prog w base spare held 103 (fun p : (Int) × (Int) × (Value × List UInt16) × (UInt64) × (Value × List (List UInt8)) × (List UInt8) => [.int .i64 p.1, .int .i64 p.2.1, p.2.2.1.1, .int .u64 (p.2.2.2.1.toNat : Int), p.2.2.2.2.1.1, .string (bs p.2.2.2.2.2)]) (fun p => (Lit.int .i64 p.1).wf = true ∧ (Lit.int .i64 p.2.1).wf = true ∧ (RdC w 0 w.heap.size 1 p.2.2.1.1 p.2.2.1.2.length (p.2.2.1.2.map u16v)) ∧ (RdC w 0 w.heap.size 1 p.2.2.2.2.1.1 p.2.2.2.2.1.2.length (p.2.2.2.2.1.2.flatMap (fun s => [.string (bs s)])) ∧ ∀ z26 ∈ p.2.2.2.2.1.2, z26.length ≤ maxLen) ∧ p.2.2.2.2.2.length ≤ maxLen) := by
  intro fuel cs x h
  obtain ⟨xs, n, _, _, hl, hlen, hf⟩ := DataW.trod_struct Try.underlying103 h
  rw [cells103] at hl
  obtain ⟨c0, c1, c2, c3, c4, c5, rfl⟩ := len_6 hl
  have hl4 : xs.length = 6 := hlen
  have g0 : DataW.trod enc Try.prog w base spare held n 3 (([c0, c1, c2, c3, c4, c5].drop 0).take (Try.prog.cellsOf 3)) = some xs[0] := (hf 0 _ rfl).trans (List.getElem?_eq_getElem (by omega))
  have g1 : DataW.trod enc Try.prog w base spare held n 3 (([c0, c1, c2, c3, c4, c5].drop 1).take (Try.prog.cellsOf 3)) = some xs[1] := (hf 1 _ rfl).trans (List.getElem?_eq_getElem (by omega))
  have g2 : DataW.trod enc Try.prog w base spare held n 54 (([c0, c1, c2, c3, c4, c5].drop 2).take (Try.prog.cellsOf 54)) = some xs[2] := (hf 2 _ rfl).trans (List.getElem?_eq_getElem (by omega))
  have g3 : DataW.trod enc Try.prog w base spare held n 61 (([c0, c1, c2, c3, c4, c5].drop 3).take (Try.prog.cellsOf 61)) = some xs[3] := (hf 3 _ rfl).trans (List.getElem?_eq_getElem (by omega))
  have g4 : DataW.trod enc Try.prog w base spare held n 26 (([c0, c1, c2, c3, c4, c5].drop 4).take (Try.prog.cellsOf 26)) = some xs[4] := (hf 4 _ rfl).trans (List.getElem?_eq_getElem (by omega))
  have g5 : DataW.trod enc Try.prog w base spare held n 9 (([c0, c1, c2, c3, c4, c5].drop 5).take (Try.prog.cellsOf 9)) = some xs[5] := (hf 5 _ rfl).trans (List.getElem?_eq_getElem (by omega))
  obtain ⟨b0, e0, w0⟩ := (Dec.int Try.underlying3) _ _ _ g0
  obtain ⟨b1, e1, w1⟩ := (Dec.int Try.underlying3) _ _ _ g1
  obtain ⟨b2, e2, w2⟩ := dec54 _ _ _ g2
  obtain ⟨b3, e3, w3⟩ := (Dec.u64 Try.underlying61) _ _ _ g3
  obtain ⟨b4, e4, w4⟩ := dec26 _ _ _ g4
  obtain ⟨b5, e5, w5⟩ := (Dec.str Try.underlying9) _ _ _ g5
  simp only [cells3, cells54, cells61, cells26, cells9, List.drop_zero, List.drop_succ_cons, List.take_succ_cons, List.take_zero, List.cons.injEq, and_true] at e0 e1 e2 e3 e4 e5
  clear hf h g0 g1 g2 g3 g4 g5
  obtain rfl := e0
  obtain rfl := e1
  obtain rfl := e2
  obtain rfl := e3
  obtain rfl := e4
  obtain rfl := e5
  exact ⟨⟨b0, b1, b2, b3, b4, b5⟩, rfl, ⟨w0, w1, w2, w4, w5⟩⟩
theorem dec99 {H : Type} {enc : TypeId × Value → H} {w : World} {base : Nat} {spare : Nat → Bool} {held : Bool} : Dec enc Try.prog w base spare held 99 (fun p : Value × List ((Int) × (Int) × (Value × List UInt16) × (UInt64) × (Value × List (List UInt8)) × (List UInt8)) => [p.1]) (fun p => RdC w 0 w.heap.size 6 p.1 p.2.length (p.2.flatMap (fun (x9 : (Int) × (Int) × (Value × List UInt16) × (UInt64) × (Value × List (List UInt8)) × (List UInt8)) => [.int .i64 x9.1, .int .i64 x9.2.1, x9.2.2.1.1, .int .u64 (x9.2.2.2.1.toNat : Int), x9.2.2.2.2.1.1, .string (bs x9.2.2.2.2.2)])) ∧ ∀ x ∈ p.2, ((Lit.int .i64 x.1).wf = true ∧ (Lit.int .i64 x.2.1).wf = true ∧ (RdC w 0 w.heap.size 1 x.2.2.1.1 x.2.2.1.2.length (x.2.2.1.2.map u16v)) ∧ (RdC w 0 w.heap.size 1 x.2.2.2.2.1.1 x.2.2.2.2.1.2.length (x.2.2.2.2.1.2.flatMap (fun s => [.string (bs s)])) ∧ ∀ z26 ∈ x.2.2.2.2.1.2, z26.length ≤ maxLen) ∧ x.2.2.2.2.2.length ≤ maxLen)) :=
  (Dec.slice Try.underlying99 (by rw [cells103]; decide) dec103 (fun _ _ => by rw [cells103]; rfl)).map fun p hp => ⟨p, rfl, by have hq := hp.1; rw [cells103] at hq; exact hq, hp.2⟩
end Go.Proofs.Ytmhdbphpmgjpcaa
