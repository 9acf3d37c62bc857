/- Walks, written by a program: what each function of the translation hands back. -/
import Derived.Test.YtmhdbphpmgjpcaaProg
import Derived.KernelRfl
import Derived.Test.YtmhdbphpmgjpcaaB5
namespace Go.Proofs.Ytmhdbphpmgjpcaa
open Go.Gx Go.RowKit
attribute [local irreducible] wpList wpStill Code.wp Calls

theorem KernPosts_ret (bl dl : List UInt8) (v0 v1 : Value) (w : World) (hl0 : bl.length ≤ 9223372036854775807) (hl1 : dl.length ≤ 9223372036854775807) (h0 : RdC w 0 w.heap.size 1 v0 bl.length (bl.map u8v)) (h1 : RdC w 0 w.heap.size 1 v1 dl.length (dl.map u8v)) : Ret Try.prog 7 #[v0, v1] w (fun v' w' => Below w.heap.size w w' ∧ v' = .bool true) := by
 have hb := Below.refl w.heap.size w
 refine enter (N := 161) Try.func7 rfl rfl (by simp) fun a0 hN hd hA => ?_
 have s0 : a0.tmps.getD 0 undef = v0 := hA 0 (by simp)
 have s1 : a0.tmps.getD 1 undef = v1 := hA 1 (by simp)
 clear hA
 refine seq_any fun K1 hK1 => ?_
 refine one_reg ?_
 refine op_assign rfl ?_
 refine reg_nil ?_
 refine hK1 _ _ ?_
 refine seq_any fun K2 hK2 => ?_
 refine seq_any fun K3 hK3 => ?_
 refine one_reg ?_
 refine op_fn (vs := []) ok31 trivial (begun24_ret _) ?_
 rintro _ w4 ⟨E5, rfl⟩
 have E5 := grown_of_below E5
 have z_w4 := E5.size
 have h0 := h0.keep0 E5
 have h1 := h1.keep0 E5
 have hb := below_step0 hb E5 hb.size
 refine op_not (ev_hit hN rfl) ?_
 refine reg_nil ?_
 refine hK3 _ _ ?_
 refine wp_cond_false (ev_hit hN rfl) ?_
 refine wp_skip ?_
 refine hK2 _ _ ?_
 refine seq_any fun K6 hK6 => ?_
 refine seq_any fun K7 hK7 => ?_
 refine one_reg ?_
 refine op_move (ev_base hN rfl s0) ?_
 refine op_len_rd Try.underlying22 (ev_hit hN rfl) h0 ?_
 refine op_gtr (ev_hit hN rfl) rfl (fun c19 => ?_) (fun c19 => ?_)
 · -- 19T
  refine op_move (ev_hit hN rfl) ?_
  refine g_false (j := 3) (dj := 20) (b := false) rfl rfl rfl (ev_hit hN rfl) rfl rfl ?_
  refine g_false (j := 3) (dj := 20) (b := false) rfl rfl rfl (ev_hit hN rfl) rfl rfl ?_
  refine g_false (j := 3) (dj := 20) (b := false) rfl rfl rfl (ev_hit hN rfl) rfl rfl ?_
  refine op_pick_t (ev_hit hN rfl) rfl ?_
  refine reg_nil ?_
  refine hK7 _ _ ?_
  refine wp_cond_true (ev_hit hN rfl) ?_
  refine seq_any fun K8 hK8 => ?_
  refine one_reg ?_
  refine op_assign rfl ?_
  refine reg_nil ?_
  refine hK8 _ _ ?_
  refine wp_ret (then_ret ( ?_))
  refine ret1 rfl hd (ev_hit hN rfl) ⟨_, rfl, ?_⟩
  -- path 19T
  exact ⟨hb, rfl⟩
 · -- 19F
  refine op_move (ev_hit hN rfl) ?_
  refine g_true (j := 3) (dj := 20) (b := false) rfl rfl rfl (ev_hit hN rfl) ?_
  refine op_move (ev_base hN rfl s1) ?_
  refine g_true (j := 3) (dj := 20) (b := false) rfl rfl rfl (ev_hit hN rfl) ?_
  refine op_len_rd Try.underlying22 (ev_hit hN rfl) h1 ?_
  refine g_true (j := 3) (dj := 20) (b := false) rfl rfl rfl (ev_hit hN rfl) ?_
  refine op_gtr (ev_hit hN rfl) rfl (fun c23 => ?_) (fun c23 => ?_)
  · -- 23T
   refine op_pick_f (ev_hit hN rfl) (ev_hit hN rfl) ?_
   refine reg_nil ?_
   refine hK7 _ _ ?_
   refine wp_cond_true (ev_hit hN rfl) ?_
   refine seq_any fun K9 hK9 => ?_
   refine one_reg ?_
   refine op_assign rfl ?_
   refine reg_nil ?_
   refine hK9 _ _ ?_
   refine wp_ret (then_ret ( ?_))
   refine ret1 rfl hd (ev_hit hN rfl) ⟨_, rfl, ?_⟩
   -- path 19F 23T
   exact ⟨hb, rfl⟩
  · -- 23F
   refine op_pick_f (ev_hit hN rfl) (ev_hit hN rfl) ?_
   refine reg_nil ?_
   refine hK7 _ _ ?_
   refine wp_cond_false (ev_hit hN rfl) ?_
   refine wp_skip ?_
   refine hK6 _ _ ?_
   refine seq_any fun K10 hK10 => ?_
   refine one_reg ?_
   refine op_build (pv := []) (v := (Value.agg #[(Value.slice none 0 0), (Value.slice none 0 0)])) trivial (by kernel_rfl) ?_
   refine op_build (pv := []) (v := (Value.agg #[(Value.slice none 0 0), (Value.slice none 0 0)])) trivial (by kernel_rfl) ?_
   refine op_build (pv := []) (v := (Value.agg #[(Value.slice none 0 0), (Value.slice none 0 0)])) trivial (by kernel_rfl) ?_
   refine op_bslice (e := 56) (pv := [(0, (Value.agg #[(Value.slice none 0 0), (Value.slice none 0 0)])), (1, (Value.agg #[(Value.slice none 0 0), (Value.slice none 0 0)])), (2, (Value.agg #[(Value.slice none 0 0), (Value.slice none 0 0)]))]) (cs := [(Value.slice none 0 0), (Value.slice none 0 0), (Value.slice none 0 0), (Value.slice none 0 0), (Value.slice none 0 0), (Value.slice none 0 0)]) ⟨rfl, (ev_hit hN rfl), ⟨rfl, (ev_hit hN rfl), ⟨rfl, (ev_hit hN rfl), trivial⟩⟩⟩ (by kernel_rfl) ?_
   intro w11 b12 lo_b12 hi_b12 hB14 E13
   have z_w11 := E13.size
   have h0 := h0.keep0 E13
   have h1 := h1.keep0 E13
   have hb := below_step0 hb E13 hb.size
   refine op_build (pv := [(1, (Value.int .i64 5)), (0, (Value.slice (some ⟨b12, 0, none⟩) 3 3))]) (v := (Value.agg #[(Value.slice (some ⟨b12, 0, none⟩) 3 3), (Value.int .i64 5)])) ⟨rfl, rfl, ⟨rfl, (ev_hit hN rfl), trivial⟩⟩ (by kernel_rfl) ?_
   refine op_fn (vs := [(Value.agg #[(Value.slice (some ⟨b12, 0, none⟩) 3 3), (Value.int .i64 5)])]) ok32 ⟨(ev_hit hN rfl), trivial⟩ (kernNewT (show cfgOk ([((Value.slice none 0 0, []), (Value.slice none 0 0, [])), ((Value.slice none 0 0, []), (Value.slice none 0 0, [])), ((Value.slice none 0 0, []), (Value.slice none 0 0, []))] : List CSn) 5 = true by decide) (L := ([((Value.slice none 0 0, []), (Value.slice none 0 0, [])), ((Value.slice none 0 0, []), (Value.slice none 0 0, [])), ((Value.slice none 0 0, []), (Value.slice none 0 0, []))] : List CSn)) (q := 5) (by decide) (fun x hx => by simp at hx; subst hx; decide) (by first | exact ((RdC.ofBx (sz := 2) (n := 3) hB14 rfl (by decide)).mono (Nat.zero_le _) (by have := hB14.lt; omega)) | exact (((RdC.ofBx (sz := 2) (n := 3) hB14 rfl (by decide)).mono (Nat.zero_le _) (by have := hB14.lt; omega))).cast (by simp) (by simp [cells2])) (fun x hx => by simp at hx; obtain rfl := hx; exact RdC.nil _ _ _ _) (fun x hx => by simp at hx; obtain rfl := hx; exact RdC.nil _ _ _ _)) ?_
   rintro _ w16 ⟨E17, k15, F15, rfl, hk15⟩
   have lo_F15 : ∀ x, F15 x → w11.heap.size ≤ x := fun x hx => (hk15.lt x hx).1
   have dj18 : ¬ F15 b12 := fun hf => by have := lo_F15 _ hf; have := hB14.lt; omega
   have E17 := grown_of_below E17
   have z_w16 := E17.size
   have h0 := h0.keep0 E17
   have h1 := h1.keep0 E17
   have hB14 := hB14.keep0 E17
   have hb := below_step0 hb E17 hb.size
   have hk15 : KernR w16 w.heap.size k15 ([⟨[], [], []⟩, ⟨[], [], []⟩, ⟨[], [], []⟩] : List KS) ([] : List (List UInt8 × Int)) F15 := hk15.mono (by omega)
   have ok_hk15 : SOk ([⟨[], [], []⟩, ⟨[], [], []⟩, ⟨[], [], []⟩] : List KS) := (cfg_ok (show cfgOk ([((Value.slice none 0 0, []), (Value.slice none 0 0, [])), ((Value.slice none 0 0, []), (Value.slice none 0 0, [])), ((Value.slice none 0 0, []), (Value.slice none 0 0, []))] : List CSn) 5 = true by decide)).2.2.2.2
   refine op_move (ev_hit hN rfl) ?_
   refine op_extract (ev_hit hN rfl) rfl ?_
   refine op_extract (ev_hit hN rfl) rfl ?_
   refine op_assign (ev_hit hN rfl) ?_
   refine op_assign (ev_hit hN rfl) ?_
   refine reg_nil ?_
   refine hK10 _ _ ?_
   refine seq_any fun K19 hK19 => ?_
   refine seq_any fun K20 hK20 => ?_
   refine one_reg ?_
   refine op_move (ev_hit hN rfl) ?_
   refine op_bin (v := .bool false) (ev_hit hN rfl) rfl (by rw [binOp_neq]; rfl) ?_
   refine reg_nil ?_
   refine hK20 _ _ ?_
   refine wp_cond_false (ev_hit hN rfl) ?_
   refine wp_skip ?_
   refine hK19 _ _ ?_
   refine seq_any fun K21 hK21 => ?_
   refine one_reg ?_
   refine op_alloc (cs := [(Value.int .i64 0), (Value.int .i64 0), (Value.int .i64 0)]) zero78 rfl ?_
   intro w22 b23 lo_b23 hi_b23 hB25 E24
   have dj26 : ¬ F15 b23 := fun hf => by have := (hk15.lt _ hf).2; omega
   have z_w22 := E24.size
   have h0 := h0.keep0 E24
   have h1 := h1.keep0 E24
   have hB14 := hB14.keep0 E24
   have hk15 := hk15.keepG (Gr.of0 E24 NoB) (fun _ _ h => h)
   have hb := below_step0 hb E24 hb.size
   refine op_alloc (cs := [(Value.int .i64 0), (Value.int .i64 0), (Value.int .i64 0)]) zero78 rfl ?_
   intro w27 b28 lo_b28 hi_b28 hB30 E29
   have dj31 : ¬ F15 b28 := fun hf => by have := (hk15.lt _ hf).2; omega
   have z_w27 := E29.size
   have h0 := h0.keep0 E29
   have h1 := h1.keep0 E29
   have hB14 := hB14.keep0 E29
   have hk15 := hk15.keepG (Gr.of0 E29 NoB) (fun _ _ h => h)
   have hB25 := hB25.keep0 E29
   have hb := below_step0 hb E29 hb.size
   refine reg_nil ?_
   refine hK21 _ _ ?_
   refine seq_any fun K32 hK32 => ?_
   refine seq_any fun K33 hK33 => ?_
   refine one_reg ?_
   refine op_assign rfl ?_
   refine reg_nil ?_
   refine hK33 _ _ ?_
   refine wp_block ?_
   refine loop_m (fun mz_ az_ w' => ∃ (i : Nat) (S : List KS) (A B : List Nat) (FK : Nat → Prop), mz_ = bl.length - i ∧ (az_.tmps.getD 0 undef = v0) ∧ (az_.tmps.getD 1 undef = v1) ∧ (az_.tmps.getD 5 undef = (ptr k15 0)) ∧ (az_.tmps.getD 7 undef = (ptr b23 0)) ∧ (az_.tmps.getD 8 undef = (ptr b28 0)) ∧ (az_.tmps.getD 9 undef = (Value.int .i64 ((i : Nat) : Int))) ∧ (i ≤ bl.length) ∧ (SOk S) ∧ (PInv S A B i) ∧ (¬ FK b23) ∧ (¬ FK b28) ∧ (Below w.heap.size w w') ∧ (w27.heap.size ≤ w'.heap.size) ∧ (RdC w' 0 w.heap.size 1 v0 bl.length (bl.map u8v)) ∧ (RdC w' 0 w.heap.size 1 v1 dl.length (dl.map u8v)) ∧ (KernR w' w.heap.size k15 S ([] : List (List UInt8 × Int)) FK) ∧ (Bx w' b23 78 ((A.map nI))) ∧ (Bx w' b28 78 ((B.map nI)))) _ hN hd ⟨0, _, [0, 0, 0], [0, 0, 0], F15, rfl, (sl_base hN rfl s0), (sl_base hN rfl s1), (sl_hit hN rfl), (sl_hit hN rfl), (sl_hit hN rfl), (sl_hit hN rfl), (Nat.zero_le _), ok_hk15, PInv.start, dj26, dj31, hb, (Nat.le_refl _), h0, h1, hk15, hB25, hB30⟩ ?_
   rintro _ a34 w34 hN34 hd34 ⟨i, S, A, B, FK, rfl, s34_0, s34_1, s34_5, s34_7, s34_8, s34_9, hi, hok, hP, djb23, djb28, hb, zl_w34, h0, h1, hK, hA, hB⟩
   have z_w34 := hb.size
   refine seq_any fun K35 hK35 => ?_
   refine seq_any fun K36 hK36 => ?_
   refine one_reg ?_
   refine op_move (ev_base hN34 rfl s34_9) ?_
   refine op_move (ev_base hN34 rfl s34_0) ?_
   refine op_len_rd Try.underlying22 (ev_hit hN34 rfl) h0 ?_
   refine op_lss (ev_hit hN34 rfl) (ev_hit hN34 rfl) (fun c39 => ?_) (fun c39 => ?_)
   · -- 39T
    refine reg_nil ?_
    refine hK36 _ _ ?_
    refine wp_cond_true (ev_hit hN34 rfl) ?_
    refine wp_skip ?_
    refine hK35 _ _ ?_
    refine seq_any fun K37 hK37 => ?_
    refine wp_block ?_
    refine seq_any fun K38 hK38 => ?_
    refine one_reg ?_
    refine op_move (ev_base hN34 rfl s34_0) ?_
    refine op_move (ev_base hN34 rfl s34_9) ?_
    refine op_index_rd slt22 (ev_hit hN34 rfl) h0 (ev_hit hN34 rfl) (by omega) (by omega) ?_
    intro b39 o40 h0b39 h1b39 hc41
    refine op_load1 (v := (Value.int .u8 ((bl.getD i 0).toNat : Int))) one5 (ev_hit hN34 rfl) (by have := hc41 0 (Value.int .u8 ((bl.getD i 0).toNat : Int)) (by decide) (el_u8 (i := i) (by omega) (by omega)); simpa using this) ?_
    refine op_rem (r := ((((bl.getD i 0).toNat % 3) : Nat) : Int)) (ev_hit hN34 rfl) rfl (by decide) rfl ?_
    have hs3 : ((bl.getD i 0).toNat % 3) < 3 := Nat.mod_lt _ (by decide)
    have hle := hP.le hs3
    have hA3 := hP.2.1
    have hB3 := hP.2.2.1
    refine op_conv (r := ((((bl.getD i 0).toNat % 3) : Nat) : Int)) (ev_hit hN34 rfl) us5 Try.underlying3 (wrap_i64 (by omega)) ?_
    refine op_assign (ev_hit hN34 rfl) ?_
    refine reg_nil ?_
    refine hK38 _ _ ?_
    refine seq_any fun K42 hK42 => ?_
    refine one_reg ?_
    refine op_assign rfl ?_
    refine reg_nil ?_
    refine hK42 _ _ ?_
    refine seq_any fun K43 hK43 => ?_
    refine seq_any fun K44 hK44 => ?_
    refine reg_still mixed (by kernel_rfl) ?_
    intro w46 E45
    have z_w46 := E45.size
    have h0 := h0.keep0 E45
    have h1 := h1.keep0 E45
    have hK := hK.keepG (Gr.of0 E45 NoB) (fun _ _ h => h)
    have hA := hA.keep0 E45
    have hB := hB.keep0 E45
    have hb := below_step0 hb E45 hb.size
    refine st_step rfl (fun _ h9 => op_move (ev_hit hN34 rfl) h9) ?_
    refine st_step rfl (fun _ h9 => op_index_arr1 (j := ((bl.getD i 0).toNat % 3)) arr78 (ev_base hN34 rfl s34_7) (ev_hit hN34 rfl) (by omega) (by omega) h9) ?_
    refine st_step rfl (fun _ h9 => op_load1 (v := (Value.int .i64 (((A.getD ((bl.getD i 0).toNat % 3) 0) : Nat) : Int))) one3 (ev_hit hN34 rfl) (hA.cell (row_at (d := 0) (by omega))) h9) ?_
    refine st_step rfl (fun _ h9 => op_move (ev_hit hN34 rfl) h9) ?_
    refine st_step rfl (fun _ h9 => op_index_arr1 (j := ((bl.getD i 0).toNat % 3)) arr78 (ev_base hN34 rfl s34_8) (ev_hit hN34 rfl) (by omega) (by omega) h9) ?_
    refine st_step rfl (fun _ h9 => op_load1 (v := (Value.int .i64 (((B.getD ((bl.getD i 0).toNat % 3) 0) : Nat) : Int))) one3 (ev_hit hN34 rfl) (hB.cell (row_at (d := 0) (by omega))) h9) ?_
    refine st_step rfl (fun _ h9 => op_sub (ev_hit hN34 rfl) (ev_hit hN34 rfl) (sub64 (by omega)) h9) ?_
    refine st_step rfl (fun _ h9 => op_cmp (b := (decide (16 ≤ ((((A.getD ((bl.getD i 0).toNat % 3) 0) : Nat) : Int) - (((B.getD ((bl.getD i 0).toNat % 3) 0) : Nat) : Int))))) (ev_hit hN34 rfl) rfl (b_geq rfl) h9) ?_
    refine st_nil ?_
    refine hK44 _ _ ?_
    refine wp_cond_split (ev_hit hN34 rfl) (fun c55 => ?_) (fun c55 => ?_)
    · -- 55T
     have c55 := of_decide_eq_true c55
     refine one_reg ?_
     refine op_assign rfl ?_
     refine reg_nil ?_
     refine hK43 _ _ ?_
     refine seq_any fun K47 hK47 => ?_
     refine seq_any fun K48 hK48 => ?_
     refine one_reg ?_
     refine op_move (ev_base hN34 rfl s34_5) ?_
     refine op_move (ev_hit hN34 rfl) ?_
     refine op_move (ev_hit hN34 rfl) ?_
     refine op_add (r := ((97 + ((bl.getD i 0).toNat % 3) : Nat) : Int)) rfl (ev_hit hN34 rfl) ((add64 (by omega)).trans (by omega)) ?_
     refine op_conv (r := ((UInt8.ofNat (97 + ((bl.getD i 0).toNat % 3))).toNat : Int)) (ev_hit hN34 rfl) us3 Try.underlying5 (wrap_u8n _) ?_
     refine op_move (ev_hit hN34 rfl) ?_
     refine op_index_arr1 (j := ((bl.getD i 0).toNat % 3)) arr78 (ev_base hN34 rfl s34_7) (ev_hit hN34 rfl) (by omega) (by omega) ?_
     refine op_load1 (v := (Value.int .i64 (((A.getD ((bl.getD i 0).toNat % 3) 0) : Nat) : Int))) one3 (ev_hit hN34 rfl) (hA.cell (row_at (d := 0) (by omega))) ?_
     refine op_conv (r := ((UInt8.ofNat (A.getD ((bl.getD i 0).toNat % 3) 0)).toNat : Int)) (ev_hit hN34 rfl) us3 Try.underlying5 (wrap_u8n _) ?_
     refine op_bslice (e := 5) (pv := [(0, (Value.int .u8 ((UInt8.ofNat (97 + ((bl.getD i 0).toNat % 3))).toNat : Int))), (1, (Value.int .u8 ((UInt8.ofNat (A.getD ((bl.getD i 0).toNat % 3) 0)).toNat : Int)))]) (cs := [(Value.int .u8 ((UInt8.ofNat (97 + ((bl.getD i 0).toNat % 3))).toNat : Int)), (Value.int .u8 ((UInt8.ofNat (A.getD ((bl.getD i 0).toNat % 3) 0)).toNat : Int))]) ⟨rfl, (ev_hit hN34 rfl), ⟨rfl, (ev_hit hN34 rfl), trivial⟩⟩ (by kernel_rfl) ?_
     intro w49 b50 lo_b50 hi_b50 hB52 E51
     have dj53 : ¬ FK b50 := fun hf => by have := (hK.lt _ hf).2; omega
     have z_w49 := E51.size
     have h0 := h0.keep0 E51
     have h1 := h1.keep0 E51
     have hK := hK.keepG (Gr.of0 E51 NoB) (fun _ _ h => h)
     have hA := hA.keep0 E51
     have hB := hB.keep0 E51
     have hb := below_step0 hb E51 hb.size
     refine op_str_of (bl := [(UInt8.ofNat (97 + ((bl.getD i 0).toNat % 3))), (UInt8.ofNat (A.getD ((bl.getD i 0).toNat % 3) 0))]) Try.underlying22 Try.underlying5 Try.underlying9 (ev_hit hN34 rfl) (RdC.ofBx (sz := 1) (n := 2) hB52 rfl (by decide)) ?_
     refine op_fn (vs := [(ptr k15 0), (Value.int .i64 ((((bl.getD i 0).toNat % 3) : Nat) : Int)), (Value.string (bs [(UInt8.ofNat (97 + ((bl.getD i 0).toNat % 3))), (UInt8.ofNat (A.getD ((bl.getD i 0).toNat % 3) 0))]))]) ok40 ⟨(ev_hit hN34 rfl), ⟨(ev_hit hN34 rfl), ⟨(ev_hit hN34 rfl), trivial⟩⟩⟩ (SayR ((((bl.getD i 0).toNat % 3) : Nat) : Int) ([(UInt8.ofNat (97 + ((bl.getD i 0).toNat % 3))), (UInt8.ofNat (A.getD ((bl.getD i 0).toNat % 3) 0))]) (by omega) hok.1 hK) ?_
     rintro _ w55 ⟨E56, rfl, F54, hk54, hN54⟩
     have bd57 := hA.lt
     have bd58 := hB.lt
     have bd59 := hB52.lt
     have hK_old := hK
     have z_w55 := E56.size
     have h0 := h0.keepG E56 (fun k hk => .inr (by have := hK_old.lt k hk; omega))
     have h1 := h1.keepG E56 (fun k hk => .inr (by have := hK_old.lt k hk; omega))
     have hA := hA.keepG E56 djb23
     have hB := hB.keepG E56 djb28
     have hB52 := hB52.keepG E56 dj53
     have hb := below_stepG hb E56 hb.size (fun k hk => (hK_old.lt k hk).1)
     have dj60 : ¬ F54 b23 := ne_stepF hN54 bd57 djb23
     have dj61 : ¬ F54 b28 := ne_stepF hN54 bd58 djb28
     have dj62 : ¬ F54 b50 := ne_stepF hN54 bd59 dj53
     refine op_move (ev_hit hN34 rfl) ?_
     refine op_neq (ev_hit hN34 rfl) (ev_hit hN34 rfl) (fun c69 => ?_) (fun c69 => ?_)
     · -- 69T
      exact absurd ((hP.sayE hs3).trans (if_neg (by omega))) c69
     · -- 69F
      refine reg_nil ?_
      refine hK48 _ _ ?_
      refine wp_cond_false (ev_hit hN34 rfl) ?_
      refine wp_skip ?_
      refine hK47 _ _ ?_
      refine seq_any fun K63 hK63 => ?_
      refine seq_any fun K64 hK64 => ?_
      refine one_reg ?_
      refine op_move (ev_hit hN34 rfl) ?_
      refine op_bin (v := .bool false) (ev_hit hN34 rfl) rfl (by rw [binOp_eql]; rfl) ?_
      refine reg_nil ?_
      refine hK64 _ _ ?_
      refine wp_cond_false (ev_hit hN34 rfl) ?_
      refine wp_skip ?_
      refine hK63 _ _ ?_
      refine seq_any fun K65 hK65 => ?_
      refine one_reg ?_
      refine op_move (ev_base hN34 rfl s34_9) ?_
      refine op_move (ev_base hN34 rfl s34_1) ?_
      refine op_len_rd Try.underlying22 (ev_hit hN34 rfl) h1 ?_
      refine op_lss (ev_hit hN34 rfl) (ev_hit hN34 rfl) (fun c80 => ?_) (fun c80 => ?_)
      · -- 80T
       refine reg_nil ?_
       refine hK65 _ _ ?_
       refine wp_cond_true (ev_hit hN34 rfl) ?_
       refine seq_any fun K66 hK66 => ?_
       refine one_reg ?_
       refine op_move (ev_base hN34 rfl s34_1) ?_
       refine op_move (ev_base hN34 rfl s34_9) ?_
       refine op_index_rd slt22 (ev_hit hN34 rfl) h1 (ev_hit hN34 rfl) (by omega) (by omega) ?_
       intro b67 o68 h0b67 h1b67 hc69
       refine op_load1 (v := (Value.int .u8 ((dl.getD i 0).toNat : Int))) one5 (ev_hit hN34 rfl) (by have := hc69 0 (Value.int .u8 ((dl.getD i 0).toNat : Int)) (by decide) (el_u8 (i := i) (by omega) (by omega)); simpa using this) ?_
       refine op_rem (r := ((((dl.getD i 0).toNat % 4) : Nat) : Int)) (ev_hit hN34 rfl) rfl (by decide) rfl ?_
       refine op_conv (r := ((((dl.getD i 0).toNat % 4) : Nat) : Int)) (ev_hit hN34 rfl) us5 Try.underlying3 (wrap_i64 (by omega)) ?_
       refine op_assign (ev_hit hN34 rfl) ?_
       refine reg_nil ?_
       refine hK66 _ _ ?_
       refine seq_any fun K70 hK70 => ?_
       refine one_reg ?_
       refine op_move (ev_hit hN34 rfl) ?_
       refine op_lss (ev_hit hN34 rfl) rfl (fun c88 => ?_) (fun c88 => ?_)
       · -- 88T
        refine reg_nil ?_
        refine hK70 _ _ ?_
        refine wp_cond_true (ev_hit hN34 rfl) ?_
        refine seq_any fun K71 hK71 => ?_
        refine one_reg ?_
        have ht3 : ((dl.getD i 0).toNat % 4) < 3 := by omega
        have hP2 := (hP.full (x := [UInt8.ofNat (97 + ((bl.getD i 0).toNat % 3)), UInt8.ofNat (A.getD ((bl.getD i 0).toNat % 3) 0)]) hs3 (by omega))
        have hle2 := hP2.le ht3
        have hA4 := hP2.2.1
        have hB4 := hP2.2.2.1
        refine op_move (ev_base hN34 rfl s34_5) ?_
        refine op_move (ev_hit hN34 rfl) ?_
        refine op_fn (vs := [(ptr k15 0), (Value.int .i64 ((((dl.getD i 0).toNat % 4) : Nat) : Int))]) ok41 ⟨(ev_hit hN34 rfl), ⟨(ev_hit hN34 rfl), trivial⟩⟩ (HeadR ((((dl.getD i 0).toNat % 4) : Nat) : Int) (by omega) (hok.say ((((bl.getD i 0).toNat % 3) : Nat) : Int) ([(UInt8.ofNat (97 + ((bl.getD i 0).toNat % 3))), (UInt8.ofNat (A.getD ((bl.getD i 0).toNat % 3) 0))])).1 hk54) ?_
        rintro _ w73 ⟨E74, rfl, F72, hk72, hN72⟩
        have bd75 := hA.lt
        have bd76 := hB.lt
        have bd77 := hB52.lt
        have hk54_old := hk54
        have z_w73 := E74.size
        have h0 := h0.keepG E74 (fun k hk => .inr (by have := hk54_old.lt k hk; omega))
        have h1 := h1.keepG E74 (fun k hk => .inr (by have := hk54_old.lt k hk; omega))
        have hA := hA.keepG E74 dj60
        have hB := hB.keepG E74 dj61
        have hB52 := hB52.keepG E74 dj62
        have hb := below_stepG hb E74 hb.size (fun k hk => (hk54_old.lt k hk).1)
        have dj78 : ¬ F72 b23 := ne_stepF hN72 bd75 dj60
        have dj79 : ¬ F72 b28 := ne_stepF hN72 bd76 dj61
        have dj80 : ¬ F72 b50 := ne_stepF hN72 bd77 dj62
        refine op_move (ev_hit hN34 rfl) ?_
        refine op_extract (ev_hit hN34 rfl) rfl ?_
        refine op_extract (ev_hit hN34 rfl) rfl ?_
        refine op_assign (ev_hit hN34 rfl) ?_
        rcases Bool.eq_false_or_eq_true ((decide (0 < (atS (sayS S ((((bl.getD i 0).toNat % 3) : Nat) : Int) ([(UInt8.ofNat (97 + ((bl.getD i 0).toNat % 3))), (UInt8.ofNat (A.getD ((bl.getD i 0).toNat % 3) 0))])) ((((dl.getD i 0).toNat % 4) : Nat) : Int)).texts.length))) with c14 | c14
        · -- 14T
         rw [c14]
         refine op_assign (ev_hit hN34 rfl) ?_
         replace c14 := of_decide_eq_true c14
         refine reg_nil ?_
         refine hK71 _ _ ?_
         refine seq_any fun K81 hK81 => ?_
         refine seq_any fun K82 hK82 => ?_
         have hl2 : B.getD ((dl.getD i 0).toNat % 4) 0 < A.getD ((dl.getD i 0).toNat % 4) 0 := by have h9 := c14; rw [hP2.len ht3] at h9; omega
         rcases Bool.eq_false_or_eq_true ((true != (decide ((((B.getD ((dl.getD i 0).toNat % 4) 0) : Nat) : Int) < (((A.getD ((dl.getD i 0).toNat % 4) 0) : Nat) : Int))))) with g103 | g103
         · -- 103T
          exfalso; simp only [Bool.true_bne, Bool.false_bne, Bool.not_eq_true', decide_eq_false_iff_not, decide_eq_true_eq] at g103; omega
         · -- 103F
          refine reg_split (hd := [_, _, _, _, _, _, _, _, _, _, _, _, _, _, _, _, _, _, _, _, _, _]) (tl := _) 22 mixed (by kernel_rfl) rfl rfl ?_
          refine any_quiet (Φ := phiL [(fun uz _ => uz = (Value.bool true)), (fun uz _ => uz = (Value.int .i64 ((((dl.getD i 0).toNat % 4) : Nat) : Int))), (fun uz _ => uz = (ptr b23 ((dl.getD i 0).toNat % 4))), (fun uz _ => uz = (Value.int .i64 (((A.getD ((dl.getD i 0).toNat % 4) 0) : Nat) : Int))), (fun uz _ => uz = (Value.int .i64 ((((dl.getD i 0).toNat % 4) : Nat) : Int))), (fun uz _ => uz = (ptr b28 ((dl.getD i 0).toNat % 4))), (fun uz _ => uz = (Value.int .i64 (((B.getD ((dl.getD i 0).toNat % 4) 0) : Nat) : Int))), (fun uz _ => uz = (Value.bool (decide ((((B.getD ((dl.getD i 0).toNat % 4) 0) : Nat) : Int) < (((A.getD ((dl.getD i 0).toNat % 4) 0) : Nat) : Int))))), (fun uz _ => uz = (Value.bool false)), (fun uz _ => uz = (Value.bool false)), (fun uz _ => uz = (Value.bool true)), (fun uz _ => uz = (Value.bool true)), (fun uz _ => uz = (Value.string (bs ((atS (sayS S ((((bl.getD i 0).toNat % 3) : Nat) : Int) ([(UInt8.ofNat (97 + ((bl.getD i 0).toNat % 3))), (UInt8.ofNat (A.getD ((bl.getD i 0).toNat % 3) 0))])) ((((dl.getD i 0).toNat % 4) : Nat) : Int)).texts.getD 0 [])))), (fun uz _ => uz = (Value.int .i64 ((((dl.getD i 0).toNat % 4) : Nat) : Int))), (fun uz _ => uz = (Value.int .i64 ((97 + ((dl.getD i 0).toNat % 4) : Nat) : Int))), (fun uz _ => uz = (Value.int .u8 ((UInt8.ofNat (97 + ((dl.getD i 0).toNat % 4))).toNat : Int))), (fun uz _ => uz = (Value.int .i64 ((((dl.getD i 0).toNat % 4) : Nat) : Int))), (fun uz _ => uz = (ptr b28 ((dl.getD i 0).toNat % 4))), (fun uz _ => uz = (Value.int .i64 (((B.getD ((dl.getD i 0).toNat % 4) 0) : Nat) : Int))), (fun uz _ => uz = (Value.int .u8 ((UInt8.ofNat (B.getD ((dl.getD i 0).toNat % 4) 0)).toNat : Int))), (fun uz w' => ∃ (b84 : Nat), uz = (Value.slice (some ⟨b84, 0, none⟩) 2 2) ∧ w73.heap.size ≤ b84 ∧ Bx w' b84 5 [(Value.int .u8 ((UInt8.ofNat (97 + ((dl.getD i 0).toNat % 4))).toNat : Int)), (Value.int .u8 ((UInt8.ofNat (B.getD ((dl.getD i 0).toNat % 4) 0)).toNat : Int))]), (fun uz _ => uz = (Value.string (bs [(UInt8.ofNat (97 + ((dl.getD i 0).toNat % 4))), (UInt8.ofNat (B.getD ((dl.getD i 0).toNat % 4) 0))])))]) (by kernel_rfl) (by kernel_rfl) (by kernel_rfl) hN34 (StL.get (StL.eq (StL.eq (StL.eq (StL.eq (StL.eq (StL.eq (StL.eq (StL.eq (StL.eq (StL.eq (StL.eq (StL.eq (StL.eq (StL.eq (StL.eq (StL.eq (StL.eq (StL.eq (StL.eq (StL.eq (StL.cons (fun u w1 w2 E h => by obtain ⟨x0, hv, l0, f0⟩ := h; exact ⟨x0, hv, l0, f0.keep0 E⟩) (StL.eq (StL.nil _)))))))))))))))))))))))) (ObL.get (s := 22) (ObL.cons ?_ (ObL.cons ?_ (ObL.cons ?_ (ObL.cons ?_ (ObL.cons ?_ (ObL.cons ?_ (ObL.cons ?_ (ObL.cons ?_ (ObL.cons ?_ (ObL.cons ?_ (ObL.cons ?_ (ObL.cons ?_ (ObL.cons ?_ (ObL.cons ?_ (ObL.cons ?_ (ObL.cons ?_ (ObL.cons ?_ (ObL.cons ?_ (ObL.cons ?_ (ObL.cons ?_ (ObL.cons ?_ (ObL.cons ?_ (ObL.nil))))))))))))))))))))))) rfl) ?_
          ·
           intro aA wA hNA hRA hbsA hdpA
           have qA_14 := (hbsA 14 rfl).trans (sl_hit hN34 rfl)
           refine op_move (ev_base hNA rfl qA_14) ?_
           exact obN_end rfl rfl (grown_refl _ _)
          ·
           intro aA wA hNA hRA hbsA hdpA
           have qA_12 := (hbsA 12 rfl).trans (sl_hit hN34 rfl)
           refine op_move (ev_base hNA rfl qA_12) ?_
           exact obN_end rfl rfl (grown_refl _ _)
          ·
           intro aA wA hNA hRA hbsA hdpA
           have hRA : w73.grownBy wA none := hRA
           have z_wA := hRA.size
           have h0 := h0.keep0 hRA
           have h1 := h1.keep0 hRA
           have hA := hA.keep0 hRA
           have hB := hB.keep0 hRA
           have hB52 := hB52.keep0 hRA
           have hk72 := hk72.keepG (Gr.of0 hRA NoB) (fun _ _ h => h)
           have hb := below_step0 hb hRA hb.size
           have qA_7 := (hbsA 7 rfl).trans (sl_base hN34 rfl s34_7)
           have qA_96 : Sl aA 96 (Value.int .i64 ((((dl.getD i 0).toNat % 4) : Nat) : Int)) := hdpA 1 _ 96 (by kernel_rfl) rfl rfl
           clear hbsA hdpA
           refine op_index_arr1 (j := ((dl.getD i 0).toNat % 4)) arr78 (ev_base hNA rfl qA_7) (ev_base hNA rfl qA_96) (by omega) (by omega) ?_
           exact obN_end rfl rfl (grown_refl _ _)
          ·
           intro aA wA hNA hRA hbsA hdpA
           have hRA : w73.grownBy wA none := hRA
           have z_wA := hRA.size
           have h0 := h0.keep0 hRA
           have h1 := h1.keep0 hRA
           have hA := hA.keep0 hRA
           have hB := hB.keep0 hRA
           have hB52 := hB52.keep0 hRA
           have hk72 := hk72.keepG (Gr.of0 hRA NoB) (fun _ _ h => h)
           have hb := below_step0 hb hRA hb.size
           have qA_97 : Sl aA 97 (ptr b23 ((dl.getD i 0).toNat % 4)) := hdpA 2 _ 97 (by kernel_rfl) rfl rfl
           clear hbsA hdpA
           refine op_load1 (v := (Value.int .i64 (((A.getD ((dl.getD i 0).toNat % 4) 0) : Nat) : Int))) one3 (ev_base hNA rfl qA_97) (hA.cell (row_at (d := 0) (by omega))) ?_
           exact obN_end rfl rfl (grown_refl _ _)
          ·
           intro aA wA hNA hRA hbsA hdpA
           have qA_12 := (hbsA 12 rfl).trans (sl_hit hN34 rfl)
           refine op_move (ev_base hNA rfl qA_12) ?_
           exact obN_end rfl rfl (grown_refl _ _)
          ·
           intro aA wA hNA hRA hbsA hdpA
           have hRA : w73.grownBy wA none := hRA
           have z_wA := hRA.size
           have h0 := h0.keep0 hRA
           have h1 := h1.keep0 hRA
           have hA := hA.keep0 hRA
           have hB := hB.keep0 hRA
           have hB52 := hB52.keep0 hRA
           have hk72 := hk72.keepG (Gr.of0 hRA NoB) (fun _ _ h => h)
           have hb := below_step0 hb hRA hb.size
           have qA_8 := (hbsA 8 rfl).trans (sl_base hN34 rfl s34_8)
           have qA_99 : Sl aA 99 (Value.int .i64 ((((dl.getD i 0).toNat % 4) : Nat) : Int)) := hdpA 4 _ 99 (by kernel_rfl) rfl rfl
           clear hbsA hdpA
           refine op_index_arr1 (j := ((dl.getD i 0).toNat % 4)) arr78 (ev_base hNA rfl qA_8) (ev_base hNA rfl qA_99) (by omega) (by omega) ?_
           exact obN_end rfl rfl (grown_refl _ _)
          ·
           intro aA wA hNA hRA hbsA hdpA
           have hRA : w73.grownBy wA none := hRA
           have z_wA := hRA.size
           have h0 := h0.keep0 hRA
           have h1 := h1.keep0 hRA
           have hA := hA.keep0 hRA
           have hB := hB.keep0 hRA
           have hB52 := hB52.keep0 hRA
           have hk72 := hk72.keepG (Gr.of0 hRA NoB) (fun _ _ h => h)
           have hb := below_step0 hb hRA hb.size
           have qA_100 : Sl aA 100 (ptr b28 ((dl.getD i 0).toNat % 4)) := hdpA 5 _ 100 (by kernel_rfl) rfl rfl
           clear hbsA hdpA
           refine op_load1 (v := (Value.int .i64 (((B.getD ((dl.getD i 0).toNat % 4) 0) : Nat) : Int))) one3 (ev_base hNA rfl qA_100) (hB.cell (row_at (d := 0) (by omega))) ?_
           exact obN_end rfl rfl (grown_refl _ _)
          ·
           intro aA wA hNA hRA hbsA hdpA
           have qA_98 : Sl aA 98 (Value.int .i64 (((A.getD ((dl.getD i 0).toNat % 4) 0) : Nat) : Int)) := hdpA 3 _ 98 (by kernel_rfl) rfl rfl
           have qA_101 : Sl aA 101 (Value.int .i64 (((B.getD ((dl.getD i 0).toNat % 4) 0) : Nat) : Int)) := hdpA 6 _ 101 (by kernel_rfl) rfl rfl
           refine op_cmp (b := (decide ((((B.getD ((dl.getD i 0).toNat % 4) 0) : Nat) : Int) < (((A.getD ((dl.getD i 0).toNat % 4) 0) : Nat) : Int)))) (ev_base hNA rfl qA_98) (ev_base hNA rfl qA_101) (b_gtr rfl) ?_
           exact obN_end rfl rfl (grown_refl _ _)
          ·
           intro aA wA hNA hRA hbsA hdpA
           have qA_95 : Sl aA 95 (Value.bool true) := hdpA 0 _ 95 (by kernel_rfl) rfl rfl
           have qA_102 : Sl aA 102 (Value.bool (decide ((((B.getD ((dl.getD i 0).toNat % 4) 0) : Nat) : Int) < (((A.getD ((dl.getD i 0).toNat % 4) 0) : Nat) : Int)))) := hdpA 7 _ 102 (by kernel_rfl) rfl rfl
           refine op_neb Try.underlying4 (ev_base hNA rfl qA_95) (ev_base hNA rfl qA_102) ?_
           rw [g103]
           exact obN_end rfl rfl (grown_refl _ _)
          ·
           intro aA wA hNA hRA hbsA hdpA
           have qA_103 : Sl aA 103 (Value.bool false) := hdpA 8 _ 103 (by kernel_rfl) rfl rfl
           refine op_move (ev_base hNA rfl qA_103) ?_
           exact obN_end rfl rfl (grown_refl _ _)
          ·
           intro aA wA hNA hRA hbsA hdpA
           have qA_14 := (hbsA 14 rfl).trans (sl_hit hN34 rfl)
           have qA_104 : Sl aA 104 (Value.bool false) := hdpA 9 _ 104 (by kernel_rfl) rfl rfl
           refine g_true (j := 9) (dj := 104) (b := false) rfl rfl rfl (ev_base hNA rfl qA_104) ?_
           refine op_move (ev_base hNA rfl qA_14) ?_
           exact obN_end rfl rfl (grown_refl _ _)
          ·
           intro aA wA hNA hRA hbsA hdpA
           have qA_105 : Sl aA 105 (Value.bool true) := hdpA 10 _ 105 (by kernel_rfl) rfl rfl
           have qA_104 : Sl aA 104 (Value.bool false) := hdpA 9 _ 104 (by kernel_rfl) rfl rfl
           refine g_true (j := 9) (dj := 104) (b := false) rfl rfl rfl (ev_base hNA rfl qA_104) ?_
           refine op_move (ev_base hNA rfl qA_105) ?_
           exact obN_end rfl rfl (grown_refl _ _)
          ·
           intro aA wA hNA hRA hbsA hdpA
           have qA_13 := (hbsA 13 rfl).trans (sl_hit hN34 rfl)
           have qA_106 : Sl aA 106 (Value.bool true) := hdpA 11 _ 106 (by kernel_rfl) rfl rfl
           refine g_true (j := 11) (dj := 106) (b := true) rfl rfl rfl (ev_base hNA rfl qA_106) ?_
           refine op_move (ev_base hNA rfl qA_13) ?_
           exact obN_end rfl rfl (grown_refl _ _)
          ·
           intro aA wA hNA hRA hbsA hdpA
           have qA_12 := (hbsA 12 rfl).trans (sl_hit hN34 rfl)
           have qA_106 : Sl aA 106 (Value.bool true) := hdpA 11 _ 106 (by kernel_rfl) rfl rfl
           refine g_true (j := 11) (dj := 106) (b := true) rfl rfl rfl (ev_base hNA rfl qA_106) ?_
           refine op_move (ev_base hNA rfl qA_12) ?_
           exact obN_end rfl rfl (grown_refl _ _)
          ·
           intro aA wA hNA hRA hbsA hdpA
           have qA_108 : Sl aA 108 (Value.int .i64 ((((dl.getD i 0).toNat % 4) : Nat) : Int)) := hdpA 13 _ 108 (by kernel_rfl) rfl rfl
           have qA_106 : Sl aA 106 (Value.bool true) := hdpA 11 _ 106 (by kernel_rfl) rfl rfl
           refine g_true (j := 11) (dj := 106) (b := true) rfl rfl rfl (ev_base hNA rfl qA_106) ?_
           refine op_add (r := ((97 + ((dl.getD i 0).toNat % 4) : Nat) : Int)) rfl (ev_base hNA rfl qA_108) ((add64 (by omega)).trans (by omega)) ?_
           exact obN_end rfl rfl (grown_refl _ _)
          ·
           intro aA wA hNA hRA hbsA hdpA
           have hRA : w73.grownBy wA none := hRA
           have z_wA := hRA.size
           have h0 := h0.keep0 hRA
           have h1 := h1.keep0 hRA
           have hA := hA.keep0 hRA
           have hB := hB.keep0 hRA
           have hB52 := hB52.keep0 hRA
           have hk72 := hk72.keepG (Gr.of0 hRA NoB) (fun _ _ h => h)
           have hb := below_step0 hb hRA hb.size
           have qA_109 : Sl aA 109 (Value.int .i64 ((97 + ((dl.getD i 0).toNat % 4) : Nat) : Int)) := hdpA 14 _ 109 (by kernel_rfl) rfl rfl
           have qA_106 : Sl aA 106 (Value.bool true) := hdpA 11 _ 106 (by kernel_rfl) rfl rfl
           clear hbsA hdpA
           refine g_true (j := 11) (dj := 106) (b := true) rfl rfl rfl (ev_base hNA rfl qA_106) ?_
           refine op_conv (r := ((UInt8.ofNat (97 + ((dl.getD i 0).toNat % 4))).toNat : Int)) (ev_base hNA rfl qA_109) us3 Try.underlying5 (wrap_u8n _) ?_
           exact obN_end rfl rfl (grown_refl _ _)
          ·
           intro aA wA hNA hRA hbsA hdpA
           have qA_12 := (hbsA 12 rfl).trans (sl_hit hN34 rfl)
           have qA_106 : Sl aA 106 (Value.bool true) := hdpA 11 _ 106 (by kernel_rfl) rfl rfl
           refine g_true (j := 11) (dj := 106) (b := true) rfl rfl rfl (ev_base hNA rfl qA_106) ?_
           refine op_move (ev_base hNA rfl qA_12) ?_
           exact obN_end rfl rfl (grown_refl _ _)
          ·
           intro aA wA hNA hRA hbsA hdpA
           have hRA : w73.grownBy wA none := hRA
           have z_wA := hRA.size
           have h0 := h0.keep0 hRA
           have h1 := h1.keep0 hRA
           have hA := hA.keep0 hRA
           have hB := hB.keep0 hRA
           have hB52 := hB52.keep0 hRA
           have hk72 := hk72.keepG (Gr.of0 hRA NoB) (fun _ _ h => h)
           have hb := below_step0 hb hRA hb.size
           have qA_8 := (hbsA 8 rfl).trans (sl_base hN34 rfl s34_8)
           have qA_111 : Sl aA 111 (Value.int .i64 ((((dl.getD i 0).toNat % 4) : Nat) : Int)) := hdpA 16 _ 111 (by kernel_rfl) rfl rfl
           have qA_106 : Sl aA 106 (Value.bool true) := hdpA 11 _ 106 (by kernel_rfl) rfl rfl
           clear hbsA hdpA
           refine g_true (j := 11) (dj := 106) (b := true) rfl rfl rfl (ev_base hNA rfl qA_106) ?_
           refine op_index_arr1 (j := ((dl.getD i 0).toNat % 4)) arr78 (ev_base hNA rfl qA_8) (ev_base hNA rfl qA_111) (by omega) (by omega) ?_
           exact obN_end rfl rfl (grown_refl _ _)
          ·
           intro aA wA hNA hRA hbsA hdpA
           have hRA : w73.grownBy wA none := hRA
           have z_wA := hRA.size
           have h0 := h0.keep0 hRA
           have h1 := h1.keep0 hRA
           have hA := hA.keep0 hRA
           have hB := hB.keep0 hRA
           have hB52 := hB52.keep0 hRA
           have hk72 := hk72.keepG (Gr.of0 hRA NoB) (fun _ _ h => h)
           have hb := below_step0 hb hRA hb.size
           have qA_112 : Sl aA 112 (ptr b28 ((dl.getD i 0).toNat % 4)) := hdpA 17 _ 112 (by kernel_rfl) rfl rfl
           have qA_106 : Sl aA 106 (Value.bool true) := hdpA 11 _ 106 (by kernel_rfl) rfl rfl
           clear hbsA hdpA
           refine g_true (j := 11) (dj := 106) (b := true) rfl rfl rfl (ev_base hNA rfl qA_106) ?_
           refine op_load1 (v := (Value.int .i64 (((B.getD ((dl.getD i 0).toNat % 4) 0) : Nat) : Int))) one3 (ev_base hNA rfl qA_112) (hB.cell (row_at (d := 0) (by omega))) ?_
           exact obN_end rfl rfl (grown_refl _ _)
          ·
           intro aA wA hNA hRA hbsA hdpA
           have hRA : w73.grownBy wA none := hRA
           have z_wA := hRA.size
           have h0 := h0.keep0 hRA
           have h1 := h1.keep0 hRA
           have hA := hA.keep0 hRA
           have hB := hB.keep0 hRA
           have hB52 := hB52.keep0 hRA
           have hk72 := hk72.keepG (Gr.of0 hRA NoB) (fun _ _ h => h)
           have hb := below_step0 hb hRA hb.size
           have qA_113 : Sl aA 113 (Value.int .i64 (((B.getD ((dl.getD i 0).toNat % 4) 0) : Nat) : Int)) := hdpA 18 _ 113 (by kernel_rfl) rfl rfl
           have qA_106 : Sl aA 106 (Value.bool true) := hdpA 11 _ 106 (by kernel_rfl) rfl rfl
           clear hbsA hdpA
           refine g_true (j := 11) (dj := 106) (b := true) rfl rfl rfl (ev_base hNA rfl qA_106) ?_
           refine op_conv (r := ((UInt8.ofNat (B.getD ((dl.getD i 0).toNat % 4) 0)).toNat : Int)) (ev_base hNA rfl qA_113) us3 Try.underlying5 (wrap_u8n _) ?_
           exact obN_end rfl rfl (grown_refl _ _)
          ·
           intro aA wA hNA hRA hbsA hdpA
           have hRA : w73.grownBy wA none := hRA
           have z_wA := hRA.size
           have h0 := h0.keep0 hRA
           have h1 := h1.keep0 hRA
           have hA := hA.keep0 hRA
           have hB := hB.keep0 hRA
           have hB52 := hB52.keep0 hRA
           have hk72 := hk72.keepG (Gr.of0 hRA NoB) (fun _ _ h => h)
           have hb := below_step0 hb hRA hb.size
           have qA_110 : Sl aA 110 (Value.int .u8 ((UInt8.ofNat (97 + ((dl.getD i 0).toNat % 4))).toNat : Int)) := hdpA 15 _ 110 (by kernel_rfl) rfl rfl
           have qA_114 : Sl aA 114 (Value.int .u8 ((UInt8.ofNat (B.getD ((dl.getD i 0).toNat % 4) 0)).toNat : Int)) := hdpA 19 _ 114 (by kernel_rfl) rfl rfl
           have qA_106 : Sl aA 106 (Value.bool true) := hdpA 11 _ 106 (by kernel_rfl) rfl rfl
           clear hbsA hdpA
           refine g_true (j := 11) (dj := 106) (b := true) rfl rfl rfl (ev_base hNA rfl qA_106) ?_
           refine op_bslice (e := 5) (pv := [(0, (Value.int .u8 ((UInt8.ofNat (97 + ((dl.getD i 0).toNat % 4))).toNat : Int))), (1, (Value.int .u8 ((UInt8.ofNat (B.getD ((dl.getD i 0).toNat % 4) 0)).toNat : Int)))]) (cs := [(Value.int .u8 ((UInt8.ofNat (97 + ((dl.getD i 0).toNat % 4))).toNat : Int)), (Value.int .u8 ((UInt8.ofNat (B.getD ((dl.getD i 0).toNat % 4) 0)).toNat : Int))]) ⟨rfl, (ev_base hNA rfl qA_110), ⟨rfl, (ev_base hNA rfl qA_114), trivial⟩⟩ (by kernel_rfl) ?_
           intro w83 b84 lo_b84 hi_b84 hB86 E85
           have dj87 : ¬ F72 b84 := fun hf => by have := (hk72.lt _ hf).2; omega
           have z_w83 := E85.size
           have h0 := h0.keep0 E85
           have h1 := h1.keep0 E85
           have hA := hA.keep0 E85
           have hB := hB.keep0 E85
           have hB52 := hB52.keep0 E85
           have hk72 := hk72.keepG (Gr.of0 E85 NoB) (fun _ _ h => h)
           have hb := below_step0 hb E85 hb.size
           exact obN_end rfl ⟨b84, rfl, (by omega), hB86⟩ (E85)
          ·
           intro aA wA hNA hRA hbsA hdpA
           have hRA : w73.grownBy wA none := hRA
           have z_wA := hRA.size
           have h0 := h0.keep0 hRA
           have h1 := h1.keep0 hRA
           have hA := hA.keep0 hRA
           have hB := hB.keep0 hRA
           have hB52 := hB52.keep0 hRA
           have hk72 := hk72.keepG (Gr.of0 hRA NoB) (fun _ _ h => h)
           have hb := below_step0 hb hRA hb.size
           obtain ⟨b84, qA_115, loA_0, hB86⟩ := hdpA 20 _ 115 (by kernel_rfl) rfl rfl
           have hB86 : Bx wA b84 5 [(Value.int .u8 ((UInt8.ofNat (97 + ((dl.getD i 0).toNat % 4))).toNat : Int)), (Value.int .u8 ((UInt8.ofNat (B.getD ((dl.getD i 0).toNat % 4) 0)).toNat : Int))] := hB86
           have qA_106 : Sl aA 106 (Value.bool true) := hdpA 11 _ 106 (by kernel_rfl) rfl rfl
           clear hbsA hdpA
           refine g_true (j := 11) (dj := 106) (b := true) rfl rfl rfl (ev_base hNA rfl qA_106) ?_
           refine op_str_of (bl := [(UInt8.ofNat (97 + ((dl.getD i 0).toNat % 4))), (UInt8.ofNat (B.getD ((dl.getD i 0).toNat % 4) 0))]) Try.underlying22 Try.underlying5 Try.underlying9 (ev_base hNA rfl qA_115) (RdC.ofBx (sz := 1) (n := 2) hB86 rfl (by decide)) ?_
           exact obN_end rfl rfl (grown_refl _ _)
          ·
           intro a88 w88 hN88 hd88 hbs88 hph88 E88
           have hd88 := hd88.trans hd34
           have s88_0 := (hbs88 0 rfl).trans (sl_base hN34 rfl s34_0)
           have s88_1 := (hbs88 1 rfl).trans (sl_base hN34 rfl s34_1)
           have s88_5 := (hbs88 5 rfl).trans (sl_base hN34 rfl s34_5)
           have s88_7 := (hbs88 7 rfl).trans (sl_base hN34 rfl s34_7)
           have s88_8 := (hbs88 8 rfl).trans (sl_base hN34 rfl s34_8)
           have s88_9 := (hbs88 9 rfl).trans (sl_base hN34 rfl s34_9)
           have s88_12 := (hbs88 12 rfl).trans (sl_hit hN34 rfl)
           have s88_14 := (hbs88 14 rfl).trans (sl_hit hN34 rfl)
           have s88_104 : Sl a88 104 (Value.bool false) := hph88 9 _ 104 rfl rfl
           have s88_106 : Sl a88 106 (Value.bool true) := hph88 11 _ 106 rfl rfl
           have s88_107 : Sl a88 107 (Value.string (bs ((atS (sayS S ((((bl.getD i 0).toNat % 3) : Nat) : Int) ([(UInt8.ofNat (97 + ((bl.getD i 0).toNat % 3))), (UInt8.ofNat (A.getD ((bl.getD i 0).toNat % 3) 0))])) ((((dl.getD i 0).toNat % 4) : Nat) : Int)).texts.getD 0 []))) := hph88 12 _ 107 rfl rfl
           have s88_116 : Sl a88 116 (Value.string (bs [(UInt8.ofNat (97 + ((dl.getD i 0).toNat % 4))), (UInt8.ofNat (B.getD ((dl.getD i 0).toNat % 4) 0))])) := hph88 21 _ 116 rfl rfl
           clear hbs88 hph88
           have E88 : w73.grownBy w88 none := E88
           have z_w88 := E88.size
           have h0 := h0.keep0 E88
           have h1 := h1.keep0 E88
           have hA := hA.keep0 E88
           have hB := hB.keep0 E88
           have hB52 := hB52.keep0 E88
           have hk72 := hk72.keepG (Gr.of0 E88 NoB) (fun _ _ h => h)
           have hb := below_step0 hb E88 hb.size
           refine split_end ?_
           refine from_still (m := 25) 3 (hd := [_, _, _]) (by kernel_rfl) rfl rfl ?_
           refine st_g_true (j := 11) (dj := 106) (b := true) rfl rfl rfl (ev_base hN88 rfl s88_106) ?_
           by_cases g117 : ((atS (sayS S ((((bl.getD i 0).toNat % 3) : Nat) : Int) ([(UInt8.ofNat (97 + ((bl.getD i 0).toNat % 3))), (UInt8.ofNat (A.getD ((bl.getD i 0).toNat % 3) 0))])) ((((dl.getD i 0).toNat % 4) : Nat) : Int)).texts.getD 0 []) ≠ [(UInt8.ofNat (97 + ((dl.getD i 0).toNat % 4))), (UInt8.ofNat (B.getD ((dl.getD i 0).toNat % 4) 0))]
           · -- 117T
            exact absurd (hP2.head ht3 hl2) g117
           · -- 117F
            refine st_step rfl (fun _ h9 => op_sneqb (b := false) (ev_base hN88 rfl s88_107) (ev_base hN88 rfl s88_116) (decide_eq_false g117) h9) ?_
            refine st_g_true (j := 9) (dj := 104) (b := false) rfl rfl rfl (ev_base hN88 rfl s88_104) ?_
            refine st_step rfl (fun _ h9 => op_pick_t (ev_base hN88 rfl s88_106) (ev_hit hN88 rfl) h9) ?_
            refine st_step rfl (fun _ h9 => op_pick_f (ev_base hN88 rfl s88_104) (ev_hit hN88 rfl) h9) ?_
            refine st_nil ?_
            refine from_one (k' := 26) (by kernel_rfl) rfl rfl ?_
            refine op_move (ev_hit hN88 rfl) ?_
            refine from_next ?_
            refine from_norm ?_
            refine from_ord (l := [_]) 27 [26] (fun _ _ _ h => h.1) (by kernel_rfl) (by kernel_rfl) rfl rfl ?_
            refine g_true (j := 25) (dj := 120) (b := false) rfl rfl rfl (ev_hit hN88 rfl) ?_
            refine op_move (ev_base hN88 rfl s88_5) ?_
            refine from_next ?_
            refine from_ord (l := [_]) 28 [27] (fun _ _ _ h => h.1) (by kernel_rfl) (by kernel_rfl) rfl rfl ?_
            refine g_true (j := 25) (dj := 120) (b := false) rfl rfl rfl (ev_hit hN88 rfl) ?_
            refine op_move (ev_base hN88 rfl s88_12) ?_
            refine from_next ?_
            refine from_ord (l := [_, _]) 30 [29, 28] (fun _ _ _ h => h.1) (by kernel_rfl) (by kernel_rfl) rfl rfl ?_
            refine g_true (j := 25) (dj := 120) (b := false) rfl rfl rfl (ev_hit hN88 rfl) ?_
            refine op_move (ev_base hN88 rfl s88_14) ?_
            refine g_true (j := 25) (dj := 120) (b := false) rfl rfl rfl (ev_hit hN88 rfl) ?_
            refine op_fn (vs := [(ptr k15 0), (Value.int .i64 ((((dl.getD i 0).toNat % 4) : Nat) : Int))]) ok42 ⟨(ev_hit hN88 rfl), ⟨(ev_hit hN88 rfl), trivial⟩⟩ (DoneR ((((dl.getD i 0).toNat % 4) : Nat) : Int) (by omega) (hok.say ((((bl.getD i 0).toNat % 3) : Nat) : Int) ([(UInt8.ofNat (97 + ((bl.getD i 0).toNat % 3))), (UInt8.ofNat (A.getD ((bl.getD i 0).toNat % 3) 0))])).1 hk72) ?_
            rintro _ w90 ⟨E91, rfl, F89, hk89, hN89⟩
            have bd92 := hA.lt
            have bd93 := hB.lt
            have bd94 := hB52.lt
            have hk72_old := hk72
            have z_w90 := E91.size
            have h0 := h0.keepG E91 (fun k hk => .inr (by have := hk72_old.lt k hk; omega))
            have h1 := h1.keepG E91 (fun k hk => .inr (by have := hk72_old.lt k hk; omega))
            have hA := hA.keepG E91 dj78
            have hB := hB.keepG E91 dj79
            have hB52 := hB52.keepG E91 dj80
            have hb := below_stepG hb E91 hb.size (fun k hk => (hk72_old.lt k hk).1)
            have dj95 : ¬ F89 b23 := ne_stepF hN89 bd92 dj78
            have dj96 : ¬ F89 b28 := ne_stepF hN89 bd93 dj79
            have dj97 : ¬ F89 b50 := ne_stepF hN89 bd94 dj80
            refine from_next ?_
            refine from_seq (tl := [_, _]) (by decide) (by kernel_rfl) rfl ?_
            refine g_true (j := 25) (dj := 120) (b := false) rfl rfl rfl (ev_hit hN88 rfl) ?_
            refine op_neb Try.underlying4 (ev_hit hN88 rfl) (ev_hit hN88 rfl) ?_
            refine op_pick_f (ev_hit hN88 rfl) (ev_hit hN88 rfl) ?_
            refine reg_nil ?_
            refine ⟨rfl, ?_⟩
            refine hK82 _ _ ?_
            refine wp_cond_split (ev_hit hN88 rfl) (fun c126 => ?_) (fun c126 => ?_)
            · -- 126T
             rw [decide_eq_true c14] at c126; exact absurd c126 (by decide)
            · -- 126F
             refine wp_skip ?_
             refine hK81 _ _ ?_
             refine seq_any fun K98 hK98 => ?_
             refine one_reg ?_
             refine op_move (ev_base hN88 rfl s88_14) ?_
             refine reg_nil ?_
             refine hK98 _ _ ?_
             refine wp_cond_true (ev_hit hN88 rfl) ?_
             refine one_reg ?_
             refine op_move (ev_base hN88 rfl s88_12) ?_
             refine op_index_arr1 (j := ((dl.getD i 0).toNat % 4)) arr78 (ev_base hN88 rfl s88_8) (ev_hit hN88 rfl) (by omega) (by omega) ?_
             refine op_load1 (v := (Value.int .i64 (((B.getD ((dl.getD i 0).toNat % 4) 0) : Nat) : Int))) one3 (ev_hit hN88 rfl) (hB.cell (row_at (d := 0) (by omega))) ?_
             refine op_add (r := ((B.getD ((dl.getD i 0).toNat % 4) 0 + 1 : Nat) : Int)) (ev_hit hN88 rfl) rfl ((add64 (by omega)).trans (by omega)) ?_
             refine op_index_arr1 (j := ((dl.getD i 0).toNat % 4)) arr78 (ev_base hN88 rfl s88_8) (ev_hit hN88 rfl) (by omega) (by omega) ?_
             have hB_old := hB
             refine op_store_row (v := (Value.int .i64 ((B.getD ((dl.getD i 0).toNat % 4) 0 + 1 : Nat) : Int))) size3 (ev_hit hN88 rfl) (ev_hit hN88 rfl) rfl rfl hB (by rw [List.length_map]; omega) ?_
             intro w99 hB E100
             have z_w99 := E100.size
             have h0 := h0.keep E100 (fun k hk => .inr (by simp at hk; omega))
             have h1 := h1.keep E100 (fun k hk => .inr (by simp at hk; omega))
             have hA := hA.keep E100 (by simp; omega)
             have hB52 := hB52.keep E100 (by simp; omega)
             have hk89 := hk89.keepG (Gr.of E100) (Dj.one dj96)
             have hb := below_step1 hb E100 hb.size (by omega)
             have hB : Bx w99 b28 78 (((B.set ((dl.getD i 0).toNat % 4) (B.getD ((dl.getD i 0).toNat % 4) 0 + 1)).map nI)) := row_set hB
             refine reg_nil ?_
             refine hK37 _ _ ?_
             refine one_reg ?_
             refine op_move (ev_base hN88 rfl s88_9) ?_
             refine op_add (ev_hit hN88 rfl) rfl (add64 (by omega)) ?_
             refine op_assign (ev_hit hN88 rfl) ?_
             refine reg_nil ?_
             -- round 19F 23F 39T 55T 69F 80T 88T 14T 103F 117F 126F
             exact loop_next _ hN88 hd88 ⟨(i + 1), doneS (sayS S ((((bl.getD i 0).toNat % 3) : Nat) : Int) ([(UInt8.ofNat (97 + ((bl.getD i 0).toNat % 3))), (UInt8.ofNat (A.getD ((bl.getD i 0).toNat % 3) 0))])) ((((dl.getD i 0).toNat % 4) : Nat) : Int), A, (B.set ((dl.getD i 0).toNat % 4) (B.getD ((dl.getD i 0).toNat % 4) 0 + 1)), F89, rfl, (sl_base hN88 rfl s88_0), (sl_base hN88 rfl s88_1), (sl_base hN88 rfl s88_5), (sl_base hN88 rfl s88_7), (sl_base hN88 rfl s88_8), (sl_hit hN88 rfl).trans (congrArg (Value.int .i64) (by omega)), (by omega), ((hok.say ((((bl.getD i 0).toNat % 3) : Nat) : Int) ([(UInt8.ofNat (97 + ((bl.getD i 0).toNat % 3))), (UInt8.ofNat (A.getD ((bl.getD i 0).toNat % 3) 0))])).done ((((dl.getD i 0).toNat % 4) : Nat) : Int)), (hP2.done ht3 hl2), dj95, dj96, hb, (by omega), h0, h1, hk89, hA, hB⟩ (by omega)
        · -- 14F
         rw [c14]
         refine op_assign (ev_hit hN34 rfl) ?_
         replace c14 := of_decide_eq_false c14
         refine reg_nil ?_
         refine hK71 _ _ ?_
         refine seq_any fun K101 hK101 => ?_
         refine seq_any fun K102 hK102 => ?_
         have hl2 : ¬ B.getD ((dl.getD i 0).toNat % 4) 0 < A.getD ((dl.getD i 0).toNat % 4) 0 := by have h9 := c14; rw [hP2.len ht3] at h9; omega
         rcases Bool.eq_false_or_eq_true ((false != (decide ((((B.getD ((dl.getD i 0).toNat % 4) 0) : Nat) : Int) < (((A.getD ((dl.getD i 0).toNat % 4) 0) : Nat) : Int))))) with g103 | g103
         · -- 103T
          exfalso; simp only [Bool.true_bne, Bool.false_bne, Bool.not_eq_true', decide_eq_false_iff_not, decide_eq_true_eq] at g103; omega
         · -- 103F
          refine reg_split (hd := [_, _, _, _, _, _, _, _, _, _, _, _, _, _, _, _, _, _, _, _, _, _]) (tl := _) 22 mixed (by kernel_rfl) rfl rfl ?_
          refine any_quiet (Φ := phiL [(fun uz _ => uz = (Value.bool false)), (fun uz _ => uz = (Value.int .i64 ((((dl.getD i 0).toNat % 4) : Nat) : Int))), (fun uz _ => uz = (ptr b23 ((dl.getD i 0).toNat % 4))), (fun uz _ => uz = (Value.int .i64 (((A.getD ((dl.getD i 0).toNat % 4) 0) : Nat) : Int))), (fun uz _ => uz = (Value.int .i64 ((((dl.getD i 0).toNat % 4) : Nat) : Int))), (fun uz _ => uz = (ptr b28 ((dl.getD i 0).toNat % 4))), (fun uz _ => uz = (Value.int .i64 (((B.getD ((dl.getD i 0).toNat % 4) 0) : Nat) : Int))), (fun uz _ => uz = (Value.bool (decide ((((B.getD ((dl.getD i 0).toNat % 4) 0) : Nat) : Int) < (((A.getD ((dl.getD i 0).toNat % 4) 0) : Nat) : Int))))), (fun uz _ => uz = (Value.bool false)), (fun uz _ => uz = (Value.bool false)), (fun uz _ => uz = (Value.bool false)), (fun uz _ => uz = (Value.bool false)), (fun uz _ => uz = undef), (fun uz _ => uz = undef), (fun uz _ => uz = undef), (fun uz _ => uz = undef), (fun uz _ => uz = undef), (fun uz _ => uz = undef), (fun uz _ => uz = undef), (fun uz _ => uz = undef), (fun uz _ => uz = undef), (fun uz _ => uz = undef)]) (by kernel_rfl) (by kernel_rfl) (by kernel_rfl) hN34 (StL.get (StL.eq (StL.eq (StL.eq (StL.eq (StL.eq (StL.eq (StL.eq (StL.eq (StL.eq (StL.eq (StL.eq (StL.eq (StL.eq (StL.eq (StL.eq (StL.eq (StL.eq (StL.eq (StL.eq (StL.eq (StL.eq (StL.eq (StL.nil _)))))))))))))))))))))))) (ObL.get (s := 22) (ObL.cons ?_ (ObL.cons ?_ (ObL.cons ?_ (ObL.cons ?_ (ObL.cons ?_ (ObL.cons ?_ (ObL.cons ?_ (ObL.cons ?_ (ObL.cons ?_ (ObL.cons ?_ (ObL.cons ?_ (ObL.cons ?_ (ObL.cons ?_ (ObL.cons ?_ (ObL.cons ?_ (ObL.cons ?_ (ObL.cons ?_ (ObL.cons ?_ (ObL.cons ?_ (ObL.cons ?_ (ObL.cons ?_ (ObL.cons ?_ (ObL.nil))))))))))))))))))))))) rfl) ?_
          ·
           intro aA wA hNA hRA hbsA hdpA
           have qA_14 := (hbsA 14 rfl).trans (sl_hit hN34 rfl)
           refine op_move (ev_base hNA rfl qA_14) ?_
           exact obN_end rfl rfl (grown_refl _ _)
          ·
           intro aA wA hNA hRA hbsA hdpA
           have qA_12 := (hbsA 12 rfl).trans (sl_hit hN34 rfl)
           refine op_move (ev_base hNA rfl qA_12) ?_
           exact obN_end rfl rfl (grown_refl _ _)
          ·
           intro aA wA hNA hRA hbsA hdpA
           have hRA : w73.grownBy wA none := hRA
           have z_wA := hRA.size
           have h0 := h0.keep0 hRA
           have h1 := h1.keep0 hRA
           have hA := hA.keep0 hRA
           have hB := hB.keep0 hRA
           have hB52 := hB52.keep0 hRA
           have hk72 := hk72.keepG (Gr.of0 hRA NoB) (fun _ _ h => h)
           have hb := below_step0 hb hRA hb.size
           have qA_7 := (hbsA 7 rfl).trans (sl_base hN34 rfl s34_7)
           have qA_96 : Sl aA 96 (Value.int .i64 ((((dl.getD i 0).toNat % 4) : Nat) : Int)) := hdpA 1 _ 96 (by kernel_rfl) rfl rfl
           clear hbsA hdpA
           refine op_index_arr1 (j := ((dl.getD i 0).toNat % 4)) arr78 (ev_base hNA rfl qA_7) (ev_base hNA rfl qA_96) (by omega) (by omega) ?_
           exact obN_end rfl rfl (grown_refl _ _)
          ·
           intro aA wA hNA hRA hbsA hdpA
           have hRA : w73.grownBy wA none := hRA
           have z_wA := hRA.size
           have h0 := h0.keep0 hRA
           have h1 := h1.keep0 hRA
           have hA := hA.keep0 hRA
           have hB := hB.keep0 hRA
           have hB52 := hB52.keep0 hRA
           have hk72 := hk72.keepG (Gr.of0 hRA NoB) (fun _ _ h => h)
           have hb := below_step0 hb hRA hb.size
           have qA_97 : Sl aA 97 (ptr b23 ((dl.getD i 0).toNat % 4)) := hdpA 2 _ 97 (by kernel_rfl) rfl rfl
           clear hbsA hdpA
           refine op_load1 (v := (Value.int .i64 (((A.getD ((dl.getD i 0).toNat % 4) 0) : Nat) : Int))) one3 (ev_base hNA rfl qA_97) (hA.cell (row_at (d := 0) (by omega))) ?_
           exact obN_end rfl rfl (grown_refl _ _)
          ·
           intro aA wA hNA hRA hbsA hdpA
           have qA_12 := (hbsA 12 rfl).trans (sl_hit hN34 rfl)
           refine op_move (ev_base hNA rfl qA_12) ?_
           exact obN_end rfl rfl (grown_refl _ _)
          ·
           intro aA wA hNA hRA hbsA hdpA
           have hRA : w73.grownBy wA none := hRA
           have z_wA := hRA.size
           have h0 := h0.keep0 hRA
           have h1 := h1.keep0 hRA
           have hA := hA.keep0 hRA
           have hB := hB.keep0 hRA
           have hB52 := hB52.keep0 hRA
           have hk72 := hk72.keepG (Gr.of0 hRA NoB) (fun _ _ h => h)
           have hb := below_step0 hb hRA hb.size
           have qA_8 := (hbsA 8 rfl).trans (sl_base hN34 rfl s34_8)
           have qA_99 : Sl aA 99 (Value.int .i64 ((((dl.getD i 0).toNat % 4) : Nat) : Int)) := hdpA 4 _ 99 (by kernel_rfl) rfl rfl
           clear hbsA hdpA
           refine op_index_arr1 (j := ((dl.getD i 0).toNat % 4)) arr78 (ev_base hNA rfl qA_8) (ev_base hNA rfl qA_99) (by omega) (by omega) ?_
           exact obN_end rfl rfl (grown_refl _ _)
          ·
           intro aA wA hNA hRA hbsA hdpA
           have hRA : w73.grownBy wA none := hRA
           have z_wA := hRA.size
           have h0 := h0.keep0 hRA
           have h1 := h1.keep0 hRA
           have hA := hA.keep0 hRA
           have hB := hB.keep0 hRA
           have hB52 := hB52.keep0 hRA
           have hk72 := hk72.keepG (Gr.of0 hRA NoB) (fun _ _ h => h)
           have hb := below_step0 hb hRA hb.size
           have qA_100 : Sl aA 100 (ptr b28 ((dl.getD i 0).toNat % 4)) := hdpA 5 _ 100 (by kernel_rfl) rfl rfl
           clear hbsA hdpA
           refine op_load1 (v := (Value.int .i64 (((B.getD ((dl.getD i 0).toNat % 4) 0) : Nat) : Int))) one3 (ev_base hNA rfl qA_100) (hB.cell (row_at (d := 0) (by omega))) ?_
           exact obN_end rfl rfl (grown_refl _ _)
          ·
           intro aA wA hNA hRA hbsA hdpA
           have qA_98 : Sl aA 98 (Value.int .i64 (((A.getD ((dl.getD i 0).toNat % 4) 0) : Nat) : Int)) := hdpA 3 _ 98 (by kernel_rfl) rfl rfl
           have qA_101 : Sl aA 101 (Value.int .i64 (((B.getD ((dl.getD i 0).toNat % 4) 0) : Nat) : Int)) := hdpA 6 _ 101 (by kernel_rfl) rfl rfl
           refine op_cmp (b := (decide ((((B.getD ((dl.getD i 0).toNat % 4) 0) : Nat) : Int) < (((A.getD ((dl.getD i 0).toNat % 4) 0) : Nat) : Int)))) (ev_base hNA rfl qA_98) (ev_base hNA rfl qA_101) (b_gtr rfl) ?_
           exact obN_end rfl rfl (grown_refl _ _)
          ·
           intro aA wA hNA hRA hbsA hdpA
           have qA_95 : Sl aA 95 (Value.bool false) := hdpA 0 _ 95 (by kernel_rfl) rfl rfl
           have qA_102 : Sl aA 102 (Value.bool (decide ((((B.getD ((dl.getD i 0).toNat % 4) 0) : Nat) : Int) < (((A.getD ((dl.getD i 0).toNat % 4) 0) : Nat) : Int)))) := hdpA 7 _ 102 (by kernel_rfl) rfl rfl
           refine op_neb Try.underlying4 (ev_base hNA rfl qA_95) (ev_base hNA rfl qA_102) ?_
           rw [g103]
           exact obN_end rfl rfl (grown_refl _ _)
          ·
           intro aA wA hNA hRA hbsA hdpA
           have qA_103 : Sl aA 103 (Value.bool false) := hdpA 8 _ 103 (by kernel_rfl) rfl rfl
           refine op_move (ev_base hNA rfl qA_103) ?_
           exact obN_end rfl rfl (grown_refl _ _)
          ·
           intro aA wA hNA hRA hbsA hdpA
           have qA_14 := (hbsA 14 rfl).trans (sl_hit hN34 rfl)
           have qA_104 : Sl aA 104 (Value.bool false) := hdpA 9 _ 104 (by kernel_rfl) rfl rfl
           refine g_true (j := 9) (dj := 104) (b := false) rfl rfl rfl (ev_base hNA rfl qA_104) ?_
           refine op_move (ev_base hNA rfl qA_14) ?_
           exact obN_end rfl rfl (grown_refl _ _)
          ·
           intro aA wA hNA hRA hbsA hdpA
           have qA_105 : Sl aA 105 (Value.bool false) := hdpA 10 _ 105 (by kernel_rfl) rfl rfl
           have qA_104 : Sl aA 104 (Value.bool false) := hdpA 9 _ 104 (by kernel_rfl) rfl rfl
           refine g_true (j := 9) (dj := 104) (b := false) rfl rfl rfl (ev_base hNA rfl qA_104) ?_
           refine op_move (ev_base hNA rfl qA_105) ?_
           exact obN_end rfl rfl (grown_refl _ _)
          ·
           intro aA wA hNA hRA hbsA hdpA
           have qA_13 := (hbsA 13 rfl).trans (sl_hit hN34 rfl)
           have qA_106 : Sl aA 106 (Value.bool false) := hdpA 11 _ 106 (by kernel_rfl) rfl rfl
           refine g_false (j := 11) (dj := 106) (b := true) rfl rfl rfl (ev_base hNA rfl qA_106) rfl rfl ?_
           exact obN_end rfl rfl (grown_refl _ _)
          ·
           intro aA wA hNA hRA hbsA hdpA
           have qA_12 := (hbsA 12 rfl).trans (sl_hit hN34 rfl)
           have qA_106 : Sl aA 106 (Value.bool false) := hdpA 11 _ 106 (by kernel_rfl) rfl rfl
           refine g_false (j := 11) (dj := 106) (b := true) rfl rfl rfl (ev_base hNA rfl qA_106) rfl rfl ?_
           exact obN_end rfl rfl (grown_refl _ _)
          ·
           intro aA wA hNA hRA hbsA hdpA
           have qA_108 : Sl aA 108 undef := hdpA 13 _ 108 (by kernel_rfl) rfl rfl
           have qA_106 : Sl aA 106 (Value.bool false) := hdpA 11 _ 106 (by kernel_rfl) rfl rfl
           refine g_false (j := 11) (dj := 106) (b := true) rfl rfl rfl (ev_base hNA rfl qA_106) rfl rfl ?_
           exact obN_end rfl rfl (grown_refl _ _)
          ·
           intro aA wA hNA hRA hbsA hdpA
           have hRA : w73.grownBy wA none := hRA
           have z_wA := hRA.size
           have h0 := h0.keep0 hRA
           have h1 := h1.keep0 hRA
           have hA := hA.keep0 hRA
           have hB := hB.keep0 hRA
           have hB52 := hB52.keep0 hRA
           have hk72 := hk72.keepG (Gr.of0 hRA NoB) (fun _ _ h => h)
           have hb := below_step0 hb hRA hb.size
           have qA_109 : Sl aA 109 undef := hdpA 14 _ 109 (by kernel_rfl) rfl rfl
           have qA_106 : Sl aA 106 (Value.bool false) := hdpA 11 _ 106 (by kernel_rfl) rfl rfl
           clear hbsA hdpA
           refine g_false (j := 11) (dj := 106) (b := true) rfl rfl rfl (ev_base hNA rfl qA_106) rfl rfl ?_
           exact obN_end rfl rfl (grown_refl _ _)
          ·
           intro aA wA hNA hRA hbsA hdpA
           have qA_12 := (hbsA 12 rfl).trans (sl_hit hN34 rfl)
           have qA_106 : Sl aA 106 (Value.bool false) := hdpA 11 _ 106 (by kernel_rfl) rfl rfl
           refine g_false (j := 11) (dj := 106) (b := true) rfl rfl rfl (ev_base hNA rfl qA_106) rfl rfl ?_
           exact obN_end rfl rfl (grown_refl _ _)
          ·
           intro aA wA hNA hRA hbsA hdpA
           have hRA : w73.grownBy wA none := hRA
           have z_wA := hRA.size
           have h0 := h0.keep0 hRA
           have h1 := h1.keep0 hRA
           have hA := hA.keep0 hRA
           have hB := hB.keep0 hRA
           have hB52 := hB52.keep0 hRA
           have hk72 := hk72.keepG (Gr.of0 hRA NoB) (fun _ _ h => h)
           have hb := below_step0 hb hRA hb.size
           have qA_8 := (hbsA 8 rfl).trans (sl_base hN34 rfl s34_8)
           have qA_111 : Sl aA 111 undef := hdpA 16 _ 111 (by kernel_rfl) rfl rfl
           have qA_106 : Sl aA 106 (Value.bool false) := hdpA 11 _ 106 (by kernel_rfl) rfl rfl
           clear hbsA hdpA
           refine g_false (j := 11) (dj := 106) (b := true) rfl rfl rfl (ev_base hNA rfl qA_106) rfl rfl ?_
           exact obN_end rfl rfl (grown_refl _ _)
          ·
           intro aA wA hNA hRA hbsA hdpA
           have hRA : w73.grownBy wA none := hRA
           have z_wA := hRA.size
           have h0 := h0.keep0 hRA
           have h1 := h1.keep0 hRA
           have hA := hA.keep0 hRA
           have hB := hB.keep0 hRA
           have hB52 := hB52.keep0 hRA
           have hk72 := hk72.keepG (Gr.of0 hRA NoB) (fun _ _ h => h)
           have hb := below_step0 hb hRA hb.size
           have qA_112 : Sl aA 112 undef := hdpA 17 _ 112 (by kernel_rfl) rfl rfl
           have qA_106 : Sl aA 106 (Value.bool false) := hdpA 11 _ 106 (by kernel_rfl) rfl rfl
           clear hbsA hdpA
           refine g_false (j := 11) (dj := 106) (b := true) rfl rfl rfl (ev_base hNA rfl qA_106) rfl rfl ?_
           exact obN_end rfl rfl (grown_refl _ _)
          ·
           intro aA wA hNA hRA hbsA hdpA
           have hRA : w73.grownBy wA none := hRA
           have z_wA := hRA.size
           have h0 := h0.keep0 hRA
           have h1 := h1.keep0 hRA
           have hA := hA.keep0 hRA
           have hB := hB.keep0 hRA
           have hB52 := hB52.keep0 hRA
           have hk72 := hk72.keepG (Gr.of0 hRA NoB) (fun _ _ h => h)
           have hb := below_step0 hb hRA hb.size
           have qA_113 : Sl aA 113 undef := hdpA 18 _ 113 (by kernel_rfl) rfl rfl
           have qA_106 : Sl aA 106 (Value.bool false) := hdpA 11 _ 106 (by kernel_rfl) rfl rfl
           clear hbsA hdpA
           refine g_false (j := 11) (dj := 106) (b := true) rfl rfl rfl (ev_base hNA rfl qA_106) rfl rfl ?_
           exact obN_end rfl rfl (grown_refl _ _)
          ·
           intro aA wA hNA hRA hbsA hdpA
           have hRA : w73.grownBy wA none := hRA
           have z_wA := hRA.size
           have h0 := h0.keep0 hRA
           have h1 := h1.keep0 hRA
           have hA := hA.keep0 hRA
           have hB := hB.keep0 hRA
           have hB52 := hB52.keep0 hRA
           have hk72 := hk72.keepG (Gr.of0 hRA NoB) (fun _ _ h => h)
           have hb := below_step0 hb hRA hb.size
           have qA_110 : Sl aA 110 undef := hdpA 15 _ 110 (by kernel_rfl) rfl rfl
           have qA_114 : Sl aA 114 undef := hdpA 19 _ 114 (by kernel_rfl) rfl rfl
           have qA_106 : Sl aA 106 (Value.bool false) := hdpA 11 _ 106 (by kernel_rfl) rfl rfl
           clear hbsA hdpA
           refine g_false (j := 11) (dj := 106) (b := true) rfl rfl rfl (ev_base hNA rfl qA_106) rfl rfl ?_
           exact obN_end rfl rfl (grown_refl _ _)
          ·
           intro aA wA hNA hRA hbsA hdpA
           have hRA : w73.grownBy wA none := hRA
           have z_wA := hRA.size
           have h0 := h0.keep0 hRA
           have h1 := h1.keep0 hRA
           have hA := hA.keep0 hRA
           have hB := hB.keep0 hRA
           have hB52 := hB52.keep0 hRA
           have hk72 := hk72.keepG (Gr.of0 hRA NoB) (fun _ _ h => h)
           have hb := below_step0 hb hRA hb.size
           have qA_115 : Sl aA 115 undef := hdpA 20 _ 115 (by kernel_rfl) rfl rfl
           have qA_106 : Sl aA 106 (Value.bool false) := hdpA 11 _ 106 (by kernel_rfl) rfl rfl
           clear hbsA hdpA
           refine g_false (j := 11) (dj := 106) (b := true) rfl rfl rfl (ev_base hNA rfl qA_106) rfl rfl ?_
           exact obN_end rfl rfl (grown_refl _ _)
          ·
           intro a103 w103 hN103 hd103 hbs103 hph103 E103
           have hd103 := hd103.trans hd34
           have s103_0 := (hbs103 0 rfl).trans (sl_base hN34 rfl s34_0)
           have s103_1 := (hbs103 1 rfl).trans (sl_base hN34 rfl s34_1)
           have s103_5 := (hbs103 5 rfl).trans (sl_base hN34 rfl s34_5)
           have s103_7 := (hbs103 7 rfl).trans (sl_base hN34 rfl s34_7)
           have s103_8 := (hbs103 8 rfl).trans (sl_base hN34 rfl s34_8)
           have s103_9 := (hbs103 9 rfl).trans (sl_base hN34 rfl s34_9)
           have s103_12 := (hbs103 12 rfl).trans (sl_hit hN34 rfl)
           have s103_14 := (hbs103 14 rfl).trans (sl_hit hN34 rfl)
           have s103_104 : Sl a103 104 (Value.bool false) := hph103 9 _ 104 rfl rfl
           have s103_106 : Sl a103 106 (Value.bool false) := hph103 11 _ 106 rfl rfl
           have s103_107 : Sl a103 107 undef := hph103 12 _ 107 rfl rfl
           have s103_116 : Sl a103 116 undef := hph103 21 _ 116 rfl rfl
           clear hbs103 hph103
           have E103 : w73.grownBy w103 none := E103
           have z_w103 := E103.size
           have h0 := h0.keep0 E103
           have h1 := h1.keep0 E103
           have hA := hA.keep0 E103
           have hB := hB.keep0 E103
           have hB52 := hB52.keep0 E103
           have hk72 := hk72.keepG (Gr.of0 E103 NoB) (fun _ _ h => h)
           have hb := below_step0 hb E103 hb.size
           refine split_end ?_
           refine from_still (m := 25) 3 (hd := [_, _, _]) (by kernel_rfl) rfl rfl ?_
           refine st_g_false (j := 11) (dj := 106) (b := true) rfl rfl rfl (ev_base hN103 rfl s103_106) rfl rfl ?_
           refine st_g_true (j := 9) (dj := 104) (b := false) rfl rfl rfl (ev_base hN103 rfl s103_104) ?_
           refine st_step rfl (fun _ h9 => op_pick_f (ev_base hN103 rfl s103_106) rfl h9) ?_
           refine st_step rfl (fun _ h9 => op_pick_f (ev_base hN103 rfl s103_104) (ev_hit hN103 rfl) h9) ?_
           refine st_nil ?_
           refine from_one (k' := 26) (by kernel_rfl) rfl rfl ?_
           refine op_move (ev_hit hN103 rfl) ?_
           refine from_next ?_
           refine from_norm ?_
           refine from_ord (l := [_]) 27 [26] (fun _ _ _ h => h.1) (by kernel_rfl) (by kernel_rfl) rfl rfl ?_
           refine g_true (j := 25) (dj := 120) (b := false) rfl rfl rfl (ev_hit hN103 rfl) ?_
           refine op_move (ev_base hN103 rfl s103_5) ?_
           refine from_next ?_
           refine from_ord (l := [_]) 28 [27] (fun _ _ _ h => h.1) (by kernel_rfl) (by kernel_rfl) rfl rfl ?_
           refine g_true (j := 25) (dj := 120) (b := false) rfl rfl rfl (ev_hit hN103 rfl) ?_
           refine op_move (ev_base hN103 rfl s103_12) ?_
           refine from_next ?_
           refine from_ord (l := [_, _]) 30 [29, 28] (fun _ _ _ h => h.1) (by kernel_rfl) (by kernel_rfl) rfl rfl ?_
           refine g_true (j := 25) (dj := 120) (b := false) rfl rfl rfl (ev_hit hN103 rfl) ?_
           refine op_move (ev_base hN103 rfl s103_14) ?_
           refine g_true (j := 25) (dj := 120) (b := false) rfl rfl rfl (ev_hit hN103 rfl) ?_
           refine op_fn (vs := [(ptr k15 0), (Value.int .i64 ((((dl.getD i 0).toNat % 4) : Nat) : Int))]) ok42 ⟨(ev_hit hN103 rfl), ⟨(ev_hit hN103 rfl), trivial⟩⟩ (DoneR ((((dl.getD i 0).toNat % 4) : Nat) : Int) (by omega) (hok.say ((((bl.getD i 0).toNat % 3) : Nat) : Int) ([(UInt8.ofNat (97 + ((bl.getD i 0).toNat % 3))), (UInt8.ofNat (A.getD ((bl.getD i 0).toNat % 3) 0))])).1 hk72) ?_
           rintro _ w105 ⟨E106, rfl, F104, hk104, hN104⟩
           have bd107 := hA.lt
           have bd108 := hB.lt
           have bd109 := hB52.lt
           have hk72_old := hk72
           have z_w105 := E106.size
           have h0 := h0.keepG E106 (fun k hk => .inr (by have := hk72_old.lt k hk; omega))
           have h1 := h1.keepG E106 (fun k hk => .inr (by have := hk72_old.lt k hk; omega))
           have hA := hA.keepG E106 dj78
           have hB := hB.keepG E106 dj79
           have hB52 := hB52.keepG E106 dj80
           have hb := below_stepG hb E106 hb.size (fun k hk => (hk72_old.lt k hk).1)
           have dj110 : ¬ F104 b23 := ne_stepF hN104 bd107 dj78
           have dj111 : ¬ F104 b28 := ne_stepF hN104 bd108 dj79
           have dj112 : ¬ F104 b50 := ne_stepF hN104 bd109 dj80
           refine from_next ?_
           refine from_seq (tl := [_, _]) (by decide) (by kernel_rfl) rfl ?_
           refine g_true (j := 25) (dj := 120) (b := false) rfl rfl rfl (ev_hit hN103 rfl) ?_
           refine op_neb Try.underlying4 (ev_hit hN103 rfl) (ev_hit hN103 rfl) ?_
           refine op_pick_f (ev_hit hN103 rfl) (ev_hit hN103 rfl) ?_
           refine reg_nil ?_
           refine ⟨rfl, ?_⟩
           refine hK102 _ _ ?_
           refine wp_cond_split (ev_hit hN103 rfl) (fun c126 => ?_) (fun c126 => ?_)
           · -- 126T
            rw [decide_eq_false c14] at c126; exact absurd c126 (by decide)
           · -- 126F
            refine wp_skip ?_
            refine hK101 _ _ ?_
            refine seq_any fun K113 hK113 => ?_
            refine one_reg ?_
            refine op_move (ev_base hN103 rfl s103_14) ?_
            refine reg_nil ?_
            refine hK113 _ _ ?_
            refine wp_cond_false (ev_hit hN103 rfl) ?_
            refine wp_skip ?_
            refine hK37 _ _ ?_
            refine one_reg ?_
            refine op_move (ev_base hN103 rfl s103_9) ?_
            refine op_add (ev_hit hN103 rfl) rfl (add64 (by omega)) ?_
            refine op_assign (ev_hit hN103 rfl) ?_
            refine reg_nil ?_
            -- round 19F 23F 39T 55T 69F 80T 88T 14F 103F 126F
            exact loop_next _ hN103 hd103 ⟨(i + 1), doneS (sayS S ((((bl.getD i 0).toNat % 3) : Nat) : Int) ([(UInt8.ofNat (97 + ((bl.getD i 0).toNat % 3))), (UInt8.ofNat (A.getD ((bl.getD i 0).toNat % 3) 0))])) ((((dl.getD i 0).toNat % 4) : Nat) : Int), A, B, F104, rfl, (sl_base hN103 rfl s103_0), (sl_base hN103 rfl s103_1), (sl_base hN103 rfl s103_5), (sl_base hN103 rfl s103_7), (sl_base hN103 rfl s103_8), (sl_hit hN103 rfl).trans (congrArg (Value.int .i64) (by omega)), (by omega), ((hok.say ((((bl.getD i 0).toNat % 3) : Nat) : Int) ([(UInt8.ofNat (97 + ((bl.getD i 0).toNat % 3))), (UInt8.ofNat (A.getD ((bl.getD i 0).toNat % 3) 0))])).done ((((dl.getD i 0).toNat % 4) : Nat) : Int)), (hP2.none ht3 hl2), dj110, dj111, hb, (by omega), h0, h1, hk104, hA, hB⟩ (by omega)
       · -- 88F
        refine reg_nil ?_
        refine hK70 _ _ ?_
        refine wp_cond_false (ev_hit hN34 rfl) ?_
        refine wp_skip ?_
        refine hK37 _ _ ?_
        refine one_reg ?_
        refine op_move (ev_base hN34 rfl s34_9) ?_
        refine op_add (ev_hit hN34 rfl) rfl (add64 (by omega)) ?_
        refine op_assign (ev_hit hN34 rfl) ?_
        refine reg_nil ?_
        -- round 19F 23F 39T 55T 69F 80T 88F
        exact loop_next _ hN34 hd34 ⟨(i + 1), sayS S ((((bl.getD i 0).toNat % 3) : Nat) : Int) ([(UInt8.ofNat (97 + ((bl.getD i 0).toNat % 3))), (UInt8.ofNat (A.getD ((bl.getD i 0).toNat % 3) 0))]), A, B, F54, rfl, (sl_base hN34 rfl s34_0), (sl_base hN34 rfl s34_1), (sl_base hN34 rfl s34_5), (sl_base hN34 rfl s34_7), (sl_base hN34 rfl s34_8), (sl_hit hN34 rfl).trans (congrArg (Value.int .i64) (by omega)), (by omega), (hok.say ((((bl.getD i 0).toNat % 3) : Nat) : Int) ([(UInt8.ofNat (97 + ((bl.getD i 0).toNat % 3))), (UInt8.ofNat (A.getD ((bl.getD i 0).toNat % 3) 0))])), (hP.full (x := [UInt8.ofNat (97 + ((bl.getD i 0).toNat % 3)), UInt8.ofNat (A.getD ((bl.getD i 0).toNat % 3) 0)]) hs3 (by omega)), dj60, dj61, hb, (by omega), h0, h1, hk54, hA, hB⟩ (by omega)
      · -- 80F
       refine reg_nil ?_
       refine hK65 _ _ ?_
       refine wp_cond_false (ev_hit hN34 rfl) ?_
       refine wp_skip ?_
       refine hK37 _ _ ?_
       refine one_reg ?_
       refine op_move (ev_base hN34 rfl s34_9) ?_
       refine op_add (ev_hit hN34 rfl) rfl (add64 (by omega)) ?_
       refine op_assign (ev_hit hN34 rfl) ?_
       refine reg_nil ?_
       -- round 19F 23F 39T 55T 69F 80F
       exact loop_next _ hN34 hd34 ⟨(i + 1), sayS S ((((bl.getD i 0).toNat % 3) : Nat) : Int) ([(UInt8.ofNat (97 + ((bl.getD i 0).toNat % 3))), (UInt8.ofNat (A.getD ((bl.getD i 0).toNat % 3) 0))]), A, B, F54, rfl, (sl_base hN34 rfl s34_0), (sl_base hN34 rfl s34_1), (sl_base hN34 rfl s34_5), (sl_base hN34 rfl s34_7), (sl_base hN34 rfl s34_8), (sl_hit hN34 rfl).trans (congrArg (Value.int .i64) (by omega)), (by omega), (hok.say ((((bl.getD i 0).toNat % 3) : Nat) : Int) ([(UInt8.ofNat (97 + ((bl.getD i 0).toNat % 3))), (UInt8.ofNat (A.getD ((bl.getD i 0).toNat % 3) 0))])), (hP.full (x := [UInt8.ofNat (97 + ((bl.getD i 0).toNat % 3)), UInt8.ofNat (A.getD ((bl.getD i 0).toNat % 3) 0)]) hs3 (by omega)), dj60, dj61, hb, (by omega), h0, h1, hk54, hA, hB⟩ (by omega)
    · -- 55F
     have c55 := of_decide_eq_false c55
     refine wp_skip ?_
     refine hK43 _ _ ?_
     refine seq_any fun K114 hK114 => ?_
     refine seq_any fun K115 hK115 => ?_
     refine one_reg ?_
     refine op_move (ev_base hN34 rfl s34_5) ?_
     refine op_move (ev_hit hN34 rfl) ?_
     refine op_move (ev_hit hN34 rfl) ?_
     refine op_add (r := ((97 + ((bl.getD i 0).toNat % 3) : Nat) : Int)) rfl (ev_hit hN34 rfl) ((add64 (by omega)).trans (by omega)) ?_
     refine op_conv (r := ((UInt8.ofNat (97 + ((bl.getD i 0).toNat % 3))).toNat : Int)) (ev_hit hN34 rfl) us3 Try.underlying5 (wrap_u8n _) ?_
     refine op_move (ev_hit hN34 rfl) ?_
     refine op_index_arr1 (j := ((bl.getD i 0).toNat % 3)) arr78 (ev_base hN34 rfl s34_7) (ev_hit hN34 rfl) (by omega) (by omega) ?_
     refine op_load1 (v := (Value.int .i64 (((A.getD ((bl.getD i 0).toNat % 3) 0) : Nat) : Int))) one3 (ev_hit hN34 rfl) (hA.cell (row_at (d := 0) (by omega))) ?_
     refine op_conv (r := ((UInt8.ofNat (A.getD ((bl.getD i 0).toNat % 3) 0)).toNat : Int)) (ev_hit hN34 rfl) us3 Try.underlying5 (wrap_u8n _) ?_
     refine op_bslice (e := 5) (pv := [(0, (Value.int .u8 ((UInt8.ofNat (97 + ((bl.getD i 0).toNat % 3))).toNat : Int))), (1, (Value.int .u8 ((UInt8.ofNat (A.getD ((bl.getD i 0).toNat % 3) 0)).toNat : Int)))]) (cs := [(Value.int .u8 ((UInt8.ofNat (97 + ((bl.getD i 0).toNat % 3))).toNat : Int)), (Value.int .u8 ((UInt8.ofNat (A.getD ((bl.getD i 0).toNat % 3) 0)).toNat : Int))]) ⟨rfl, (ev_hit hN34 rfl), ⟨rfl, (ev_hit hN34 rfl), trivial⟩⟩ (by kernel_rfl) ?_
     intro w116 b117 lo_b117 hi_b117 hB119 E118
     have dj120 : ¬ FK b117 := fun hf => by have := (hK.lt _ hf).2; omega
     have z_w116 := E118.size
     have h0 := h0.keep0 E118
     have h1 := h1.keep0 E118
     have hK := hK.keepG (Gr.of0 E118 NoB) (fun _ _ h => h)
     have hA := hA.keep0 E118
     have hB := hB.keep0 E118
     have hb := below_step0 hb E118 hb.size
     refine op_str_of (bl := [(UInt8.ofNat (97 + ((bl.getD i 0).toNat % 3))), (UInt8.ofNat (A.getD ((bl.getD i 0).toNat % 3) 0))]) Try.underlying22 Try.underlying5 Try.underlying9 (ev_hit hN34 rfl) (RdC.ofBx (sz := 1) (n := 2) hB119 rfl (by decide)) ?_
     refine op_fn (vs := [(ptr k15 0), (Value.int .i64 ((((bl.getD i 0).toNat % 3) : Nat) : Int)), (Value.string (bs [(UInt8.ofNat (97 + ((bl.getD i 0).toNat % 3))), (UInt8.ofNat (A.getD ((bl.getD i 0).toNat % 3) 0))]))]) ok40 ⟨(ev_hit hN34 rfl), ⟨(ev_hit hN34 rfl), ⟨(ev_hit hN34 rfl), trivial⟩⟩⟩ (SayR ((((bl.getD i 0).toNat % 3) : Nat) : Int) ([(UInt8.ofNat (97 + ((bl.getD i 0).toNat % 3))), (UInt8.ofNat (A.getD ((bl.getD i 0).toNat % 3) 0))]) (by omega) hok.1 hK) ?_
     rintro _ w122 ⟨E123, rfl, F121, hk121, hN121⟩
     have bd124 := hA.lt
     have bd125 := hB.lt
     have bd126 := hB119.lt
     have hK_old := hK
     have z_w122 := E123.size
     have h0 := h0.keepG E123 (fun k hk => .inr (by have := hK_old.lt k hk; omega))
     have h1 := h1.keepG E123 (fun k hk => .inr (by have := hK_old.lt k hk; omega))
     have hA := hA.keepG E123 djb23
     have hB := hB.keepG E123 djb28
     have hB119 := hB119.keepG E123 dj120
     have hb := below_stepG hb E123 hb.size (fun k hk => (hK_old.lt k hk).1)
     have dj127 : ¬ F121 b23 := ne_stepF hN121 bd124 djb23
     have dj128 : ¬ F121 b28 := ne_stepF hN121 bd125 djb28
     have dj129 : ¬ F121 b117 := ne_stepF hN121 bd126 dj120
     refine op_move (ev_hit hN34 rfl) ?_
     refine op_neq (ev_hit hN34 rfl) (ev_hit hN34 rfl) (fun c69 => ?_) (fun c69 => ?_)
     · -- 69T
      exact absurd ((hP.sayE hs3).trans (if_pos (by omega))) c69
     · -- 69F
      refine reg_nil ?_
      refine hK115 _ _ ?_
      refine wp_cond_false (ev_hit hN34 rfl) ?_
      refine wp_skip ?_
      refine hK114 _ _ ?_
      refine seq_any fun K130 hK130 => ?_
      refine seq_any fun K131 hK131 => ?_
      refine one_reg ?_
      refine op_move (ev_hit hN34 rfl) ?_
      refine op_bin (v := .bool true) (ev_hit hN34 rfl) rfl (by rw [binOp_eql]; rfl) ?_
      refine reg_nil ?_
      refine hK131 _ _ ?_
      refine wp_cond_true (ev_hit hN34 rfl) ?_
      refine one_reg ?_
      refine op_move (ev_hit hN34 rfl) ?_
      refine op_index_arr1 (j := ((bl.getD i 0).toNat % 3)) arr78 (ev_base hN34 rfl s34_7) (ev_hit hN34 rfl) (by omega) (by omega) ?_
      refine op_load1 (v := (Value.int .i64 (((A.getD ((bl.getD i 0).toNat % 3) 0) : Nat) : Int))) one3 (ev_hit hN34 rfl) (hA.cell (row_at (d := 0) (by omega))) ?_
      refine op_add (r := ((A.getD ((bl.getD i 0).toNat % 3) 0 + 1 : Nat) : Int)) (ev_hit hN34 rfl) rfl ((add64 (by omega)).trans (by omega)) ?_
      refine op_index_arr1 (j := ((bl.getD i 0).toNat % 3)) arr78 (ev_base hN34 rfl s34_7) (ev_hit hN34 rfl) (by omega) (by omega) ?_
      have hA_old := hA
      refine op_store_row (v := (Value.int .i64 ((A.getD ((bl.getD i 0).toNat % 3) 0 + 1 : Nat) : Int))) size3 (ev_hit hN34 rfl) (ev_hit hN34 rfl) rfl rfl hA (by rw [List.length_map]; omega) ?_
      intro w132 hA E133
      have z_w132 := E133.size
      have h0 := h0.keep E133 (fun k hk => .inr (by simp at hk; omega))
      have h1 := h1.keep E133 (fun k hk => .inr (by simp at hk; omega))
      have hB := hB.keep E133 (by simp; omega)
      have hB119 := hB119.keep E133 (by simp; omega)
      have hk121 := hk121.keepG (Gr.of E133) (Dj.one dj127)
      have hb := below_step1 hb E133 hb.size (by omega)
      have hA : Bx w132 b23 78 (((A.set ((bl.getD i 0).toNat % 3) (A.getD ((bl.getD i 0).toNat % 3) 0 + 1)).map nI)) := row_set hA
      refine reg_nil ?_
      refine hK130 _ _ ?_
      refine seq_any fun K134 hK134 => ?_
      refine one_reg ?_
      refine op_move (ev_base hN34 rfl s34_9) ?_
      refine op_move (ev_base hN34 rfl s34_1) ?_
      refine op_len_rd Try.underlying22 (ev_hit hN34 rfl) h1 ?_
      refine op_lss (ev_hit hN34 rfl) (ev_hit hN34 rfl) (fun c80 => ?_) (fun c80 => ?_)
      · -- 80T
       refine reg_nil ?_
       refine hK134 _ _ ?_
       refine wp_cond_true (ev_hit hN34 rfl) ?_
       refine seq_any fun K135 hK135 => ?_
       refine one_reg ?_
       refine op_move (ev_base hN34 rfl s34_1) ?_
       refine op_move (ev_base hN34 rfl s34_9) ?_
       refine op_index_rd slt22 (ev_hit hN34 rfl) h1 (ev_hit hN34 rfl) (by omega) (by omega) ?_
       intro b136 o137 h0b136 h1b136 hc138
       refine op_load1 (v := (Value.int .u8 ((dl.getD i 0).toNat : Int))) one5 (ev_hit hN34 rfl) (by have := hc138 0 (Value.int .u8 ((dl.getD i 0).toNat : Int)) (by decide) (el_u8 (i := i) (by omega) (by omega)); simpa using this) ?_
       refine op_rem (r := ((((dl.getD i 0).toNat % 4) : Nat) : Int)) (ev_hit hN34 rfl) rfl (by decide) rfl ?_
       refine op_conv (r := ((((dl.getD i 0).toNat % 4) : Nat) : Int)) (ev_hit hN34 rfl) us5 Try.underlying3 (wrap_i64 (by omega)) ?_
       refine op_assign (ev_hit hN34 rfl) ?_
       refine reg_nil ?_
       refine hK135 _ _ ?_
       refine seq_any fun K139 hK139 => ?_
       refine one_reg ?_
       refine op_move (ev_hit hN34 rfl) ?_
       refine op_lss (ev_hit hN34 rfl) rfl (fun c88 => ?_) (fun c88 => ?_)
       · -- 88T
        refine reg_nil ?_
        refine hK139 _ _ ?_
        refine wp_cond_true (ev_hit hN34 rfl) ?_
        refine seq_any fun K140 hK140 => ?_
        refine one_reg ?_
        have ht3 : ((dl.getD i 0).toNat % 4) < 3 := by omega
        have hP2 := (hP.say hs3 (by omega))
        have hle2 := hP2.le ht3
        have hA4 := hP2.2.1
        have hB4 := hP2.2.2.1
        refine op_move (ev_base hN34 rfl s34_5) ?_
        refine op_move (ev_hit hN34 rfl) ?_
        refine op_fn (vs := [(ptr k15 0), (Value.int .i64 ((((dl.getD i 0).toNat % 4) : Nat) : Int))]) ok41 ⟨(ev_hit hN34 rfl), ⟨(ev_hit hN34 rfl), trivial⟩⟩ (HeadR ((((dl.getD i 0).toNat % 4) : Nat) : Int) (by omega) (hok.say ((((bl.getD i 0).toNat % 3) : Nat) : Int) ([(UInt8.ofNat (97 + ((bl.getD i 0).toNat % 3))), (UInt8.ofNat (A.getD ((bl.getD i 0).toNat % 3) 0))])).1 hk121) ?_
        rintro _ w142 ⟨E143, rfl, F141, hk141, hN141⟩
        have bd144 := hB.lt
        have bd145 := hB119.lt
        have bd146 := hA.lt
        have hk121_old := hk121
        have z_w142 := E143.size
        have h0 := h0.keepG E143 (fun k hk => .inr (by have := hk121_old.lt k hk; omega))
        have h1 := h1.keepG E143 (fun k hk => .inr (by have := hk121_old.lt k hk; omega))
        have hB := hB.keepG E143 dj128
        have hB119 := hB119.keepG E143 dj129
        have hA := hA.keepG E143 dj127
        have hb := below_stepG hb E143 hb.size (fun k hk => (hk121_old.lt k hk).1)
        have dj147 : ¬ F141 b28 := ne_stepF hN141 bd144 dj128
        have dj148 : ¬ F141 b117 := ne_stepF hN141 bd145 dj129
        have dj149 : ¬ F141 b23 := ne_stepF hN141 bd146 dj127
        refine op_move (ev_hit hN34 rfl) ?_
        refine op_extract (ev_hit hN34 rfl) rfl ?_
        refine op_extract (ev_hit hN34 rfl) rfl ?_
        refine op_assign (ev_hit hN34 rfl) ?_
        rcases Bool.eq_false_or_eq_true ((decide (0 < (atS (sayS S ((((bl.getD i 0).toNat % 3) : Nat) : Int) ([(UInt8.ofNat (97 + ((bl.getD i 0).toNat % 3))), (UInt8.ofNat (A.getD ((bl.getD i 0).toNat % 3) 0))])) ((((dl.getD i 0).toNat % 4) : Nat) : Int)).texts.length))) with c14 | c14
        · -- 14T
         rw [c14]
         refine op_assign (ev_hit hN34 rfl) ?_
         replace c14 := of_decide_eq_true c14
         refine reg_nil ?_
         refine hK140 _ _ ?_
         refine seq_any fun K150 hK150 => ?_
         refine seq_any fun K151 hK151 => ?_
         have hl2 : B.getD ((dl.getD i 0).toNat % 4) 0 < (A.set ((bl.getD i 0).toNat % 3) (A.getD ((bl.getD i 0).toNat % 3) 0 + 1)).getD ((dl.getD i 0).toNat % 4) 0 := by have h9 := c14; rw [hP2.len ht3] at h9; omega
         rcases Bool.eq_false_or_eq_true ((true != (decide ((((B.getD ((dl.getD i 0).toNat % 4) 0) : Nat) : Int) < ((((A.set ((bl.getD i 0).toNat % 3) (A.getD ((bl.getD i 0).toNat % 3) 0 + 1)).getD ((dl.getD i 0).toNat % 4) 0) : Nat) : Int))))) with g103 | g103
         · -- 103T
          exfalso; simp only [Bool.true_bne, Bool.false_bne, Bool.not_eq_true', decide_eq_false_iff_not, decide_eq_true_eq] at g103; omega
         · -- 103F
          refine reg_split (hd := [_, _, _, _, _, _, _, _, _, _, _, _, _, _, _, _, _, _, _, _, _, _]) (tl := _) 22 mixed (by kernel_rfl) rfl rfl ?_
          refine any_quiet (Φ := phiL [(fun uz _ => uz = (Value.bool true)), (fun uz _ => uz = (Value.int .i64 ((((dl.getD i 0).toNat % 4) : Nat) : Int))), (fun uz _ => uz = (ptr b23 ((dl.getD i 0).toNat % 4))), (fun uz _ => uz = (Value.int .i64 ((((A.set ((bl.getD i 0).toNat % 3) (A.getD ((bl.getD i 0).toNat % 3) 0 + 1)).getD ((dl.getD i 0).toNat % 4) 0) : Nat) : Int))), (fun uz _ => uz = (Value.int .i64 ((((dl.getD i 0).toNat % 4) : Nat) : Int))), (fun uz _ => uz = (ptr b28 ((dl.getD i 0).toNat % 4))), (fun uz _ => uz = (Value.int .i64 (((B.getD ((dl.getD i 0).toNat % 4) 0) : Nat) : Int))), (fun uz _ => uz = (Value.bool (decide ((((B.getD ((dl.getD i 0).toNat % 4) 0) : Nat) : Int) < ((((A.set ((bl.getD i 0).toNat % 3) (A.getD ((bl.getD i 0).toNat % 3) 0 + 1)).getD ((dl.getD i 0).toNat % 4) 0) : Nat) : Int))))), (fun uz _ => uz = (Value.bool false)), (fun uz _ => uz = (Value.bool false)), (fun uz _ => uz = (Value.bool true)), (fun uz _ => uz = (Value.bool true)), (fun uz _ => uz = (Value.string (bs ((atS (sayS S ((((bl.getD i 0).toNat % 3) : Nat) : Int) ([(UInt8.ofNat (97 + ((bl.getD i 0).toNat % 3))), (UInt8.ofNat (A.getD ((bl.getD i 0).toNat % 3) 0))])) ((((dl.getD i 0).toNat % 4) : Nat) : Int)).texts.getD 0 [])))), (fun uz _ => uz = (Value.int .i64 ((((dl.getD i 0).toNat % 4) : Nat) : Int))), (fun uz _ => uz = (Value.int .i64 ((97 + ((dl.getD i 0).toNat % 4) : Nat) : Int))), (fun uz _ => uz = (Value.int .u8 ((UInt8.ofNat (97 + ((dl.getD i 0).toNat % 4))).toNat : Int))), (fun uz _ => uz = (Value.int .i64 ((((dl.getD i 0).toNat % 4) : Nat) : Int))), (fun uz _ => uz = (ptr b28 ((dl.getD i 0).toNat % 4))), (fun uz _ => uz = (Value.int .i64 (((B.getD ((dl.getD i 0).toNat % 4) 0) : Nat) : Int))), (fun uz _ => uz = (Value.int .u8 ((UInt8.ofNat (B.getD ((dl.getD i 0).toNat % 4) 0)).toNat : Int))), (fun uz w' => ∃ (b153 : Nat), uz = (Value.slice (some ⟨b153, 0, none⟩) 2 2) ∧ w142.heap.size ≤ b153 ∧ Bx w' b153 5 [(Value.int .u8 ((UInt8.ofNat (97 + ((dl.getD i 0).toNat % 4))).toNat : Int)), (Value.int .u8 ((UInt8.ofNat (B.getD ((dl.getD i 0).toNat % 4) 0)).toNat : Int))]), (fun uz _ => uz = (Value.string (bs [(UInt8.ofNat (97 + ((dl.getD i 0).toNat % 4))), (UInt8.ofNat (B.getD ((dl.getD i 0).toNat % 4) 0))])))]) (by kernel_rfl) (by kernel_rfl) (by kernel_rfl) hN34 (StL.get (StL.eq (StL.eq (StL.eq (StL.eq (StL.eq (StL.eq (StL.eq (StL.eq (StL.eq (StL.eq (StL.eq (StL.eq (StL.eq (StL.eq (StL.eq (StL.eq (StL.eq (StL.eq (StL.eq (StL.eq (StL.cons (fun u w1 w2 E h => by obtain ⟨x0, hv, l0, f0⟩ := h; exact ⟨x0, hv, l0, f0.keep0 E⟩) (StL.eq (StL.nil _)))))))))))))))))))))))) (ObL.get (s := 22) (ObL.cons ?_ (ObL.cons ?_ (ObL.cons ?_ (ObL.cons ?_ (ObL.cons ?_ (ObL.cons ?_ (ObL.cons ?_ (ObL.cons ?_ (ObL.cons ?_ (ObL.cons ?_ (ObL.cons ?_ (ObL.cons ?_ (ObL.cons ?_ (ObL.cons ?_ (ObL.cons ?_ (ObL.cons ?_ (ObL.cons ?_ (ObL.cons ?_ (ObL.cons ?_ (ObL.cons ?_ (ObL.cons ?_ (ObL.cons ?_ (ObL.nil))))))))))))))))))))))) rfl) ?_
          ·
           intro aA wA hNA hRA hbsA hdpA
           have qA_14 := (hbsA 14 rfl).trans (sl_hit hN34 rfl)
           refine op_move (ev_base hNA rfl qA_14) ?_
           exact obN_end rfl rfl (grown_refl _ _)
          ·
           intro aA wA hNA hRA hbsA hdpA
           have qA_12 := (hbsA 12 rfl).trans (sl_hit hN34 rfl)
           refine op_move (ev_base hNA rfl qA_12) ?_
           exact obN_end rfl rfl (grown_refl _ _)
          ·
           intro aA wA hNA hRA hbsA hdpA
           have hRA : w142.grownBy wA none := hRA
           have z_wA := hRA.size
           have h0 := h0.keep0 hRA
           have h1 := h1.keep0 hRA
           have hB := hB.keep0 hRA
           have hB119 := hB119.keep0 hRA
           have hA := hA.keep0 hRA
           have hk141 := hk141.keepG (Gr.of0 hRA NoB) (fun _ _ h => h)
           have hb := below_step0 hb hRA hb.size
           have qA_7 := (hbsA 7 rfl).trans (sl_base hN34 rfl s34_7)
           have qA_96 : Sl aA 96 (Value.int .i64 ((((dl.getD i 0).toNat % 4) : Nat) : Int)) := hdpA 1 _ 96 (by kernel_rfl) rfl rfl
           clear hbsA hdpA
           refine op_index_arr1 (j := ((dl.getD i 0).toNat % 4)) arr78 (ev_base hNA rfl qA_7) (ev_base hNA rfl qA_96) (by omega) (by omega) ?_
           exact obN_end rfl rfl (grown_refl _ _)
          ·
           intro aA wA hNA hRA hbsA hdpA
           have hRA : w142.grownBy wA none := hRA
           have z_wA := hRA.size
           have h0 := h0.keep0 hRA
           have h1 := h1.keep0 hRA
           have hB := hB.keep0 hRA
           have hB119 := hB119.keep0 hRA
           have hA := hA.keep0 hRA
           have hk141 := hk141.keepG (Gr.of0 hRA NoB) (fun _ _ h => h)
           have hb := below_step0 hb hRA hb.size
           have qA_97 : Sl aA 97 (ptr b23 ((dl.getD i 0).toNat % 4)) := hdpA 2 _ 97 (by kernel_rfl) rfl rfl
           clear hbsA hdpA
           refine op_load1 (v := (Value.int .i64 ((((A.set ((bl.getD i 0).toNat % 3) (A.getD ((bl.getD i 0).toNat % 3) 0 + 1)).getD ((dl.getD i 0).toNat % 4) 0) : Nat) : Int))) one3 (ev_base hNA rfl qA_97) (hA.cell (row_at (d := 0) (by omega))) ?_
           exact obN_end rfl rfl (grown_refl _ _)
          ·
           intro aA wA hNA hRA hbsA hdpA
           have qA_12 := (hbsA 12 rfl).trans (sl_hit hN34 rfl)
           refine op_move (ev_base hNA rfl qA_12) ?_
           exact obN_end rfl rfl (grown_refl _ _)
          ·
           intro aA wA hNA hRA hbsA hdpA
           have hRA : w142.grownBy wA none := hRA
           have z_wA := hRA.size
           have h0 := h0.keep0 hRA
           have h1 := h1.keep0 hRA
           have hB := hB.keep0 hRA
           have hB119 := hB119.keep0 hRA
           have hA := hA.keep0 hRA
           have hk141 := hk141.keepG (Gr.of0 hRA NoB) (fun _ _ h => h)
           have hb := below_step0 hb hRA hb.size
           have qA_8 := (hbsA 8 rfl).trans (sl_base hN34 rfl s34_8)
           have qA_99 : Sl aA 99 (Value.int .i64 ((((dl.getD i 0).toNat % 4) : Nat) : Int)) := hdpA 4 _ 99 (by kernel_rfl) rfl rfl
           clear hbsA hdpA
           refine op_index_arr1 (j := ((dl.getD i 0).toNat % 4)) arr78 (ev_base hNA rfl qA_8) (ev_base hNA rfl qA_99) (by omega) (by omega) ?_
           exact obN_end rfl rfl (grown_refl _ _)
          ·
           intro aA wA hNA hRA hbsA hdpA
           have hRA : w142.grownBy wA none := hRA
           have z_wA := hRA.size
           have h0 := h0.keep0 hRA
           have h1 := h1.keep0 hRA
           have hB := hB.keep0 hRA
           have hB119 := hB119.keep0 hRA
           have hA := hA.keep0 hRA
           have hk141 := hk141.keepG (Gr.of0 hRA NoB) (fun _ _ h => h)
           have hb := below_step0 hb hRA hb.size
           have qA_100 : Sl aA 100 (ptr b28 ((dl.getD i 0).toNat % 4)) := hdpA 5 _ 100 (by kernel_rfl) rfl rfl
           clear hbsA hdpA
           refine op_load1 (v := (Value.int .i64 (((B.getD ((dl.getD i 0).toNat % 4) 0) : Nat) : Int))) one3 (ev_base hNA rfl qA_100) (hB.cell (row_at (d := 0) (by omega))) ?_
           exact obN_end rfl rfl (grown_refl _ _)
          ·
           intro aA wA hNA hRA hbsA hdpA
           have qA_98 : Sl aA 98 (Value.int .i64 ((((A.set ((bl.getD i 0).toNat % 3) (A.getD ((bl.getD i 0).toNat % 3) 0 + 1)).getD ((dl.getD i 0).toNat % 4) 0) : Nat) : Int)) := hdpA 3 _ 98 (by kernel_rfl) rfl rfl
           have qA_101 : Sl aA 101 (Value.int .i64 (((B.getD ((dl.getD i 0).toNat % 4) 0) : Nat) : Int)) := hdpA 6 _ 101 (by kernel_rfl) rfl rfl
           refine op_cmp (b := (decide ((((B.getD ((dl.getD i 0).toNat % 4) 0) : Nat) : Int) < ((((A.set ((bl.getD i 0).toNat % 3) (A.getD ((bl.getD i 0).toNat % 3) 0 + 1)).getD ((dl.getD i 0).toNat % 4) 0) : Nat) : Int)))) (ev_base hNA rfl qA_98) (ev_base hNA rfl qA_101) (b_gtr rfl) ?_
           exact obN_end rfl rfl (grown_refl _ _)
          ·
           intro aA wA hNA hRA hbsA hdpA
           have qA_95 : Sl aA 95 (Value.bool true) := hdpA 0 _ 95 (by kernel_rfl) rfl rfl
           have qA_102 : Sl aA 102 (Value.bool (decide ((((B.getD ((dl.getD i 0).toNat % 4) 0) : Nat) : Int) < ((((A.set ((bl.getD i 0).toNat % 3) (A.getD ((bl.getD i 0).toNat % 3) 0 + 1)).getD ((dl.getD i 0).toNat % 4) 0) : Nat) : Int)))) := hdpA 7 _ 102 (by kernel_rfl) rfl rfl
           refine op_neb Try.underlying4 (ev_base hNA rfl qA_95) (ev_base hNA rfl qA_102) ?_
           rw [g103]
           exact obN_end rfl rfl (grown_refl _ _)
          ·
           intro aA wA hNA hRA hbsA hdpA
           have qA_103 : Sl aA 103 (Value.bool false) := hdpA 8 _ 103 (by kernel_rfl) rfl rfl
           refine op_move (ev_base hNA rfl qA_103) ?_
           exact obN_end rfl rfl (grown_refl _ _)
          ·
           intro aA wA hNA hRA hbsA hdpA
           have qA_14 := (hbsA 14 rfl).trans (sl_hit hN34 rfl)
           have qA_104 : Sl aA 104 (Value.bool false) := hdpA 9 _ 104 (by kernel_rfl) rfl rfl
           refine g_true (j := 9) (dj := 104) (b := false) rfl rfl rfl (ev_base hNA rfl qA_104) ?_
           refine op_move (ev_base hNA rfl qA_14) ?_
           exact obN_end rfl rfl (grown_refl _ _)
          ·
           intro aA wA hNA hRA hbsA hdpA
           have qA_105 : Sl aA 105 (Value.bool true) := hdpA 10 _ 105 (by kernel_rfl) rfl rfl
           have qA_104 : Sl aA 104 (Value.bool false) := hdpA 9 _ 104 (by kernel_rfl) rfl rfl
           refine g_true (j := 9) (dj := 104) (b := false) rfl rfl rfl (ev_base hNA rfl qA_104) ?_
           refine op_move (ev_base hNA rfl qA_105) ?_
           exact obN_end rfl rfl (grown_refl _ _)
          ·
           intro aA wA hNA hRA hbsA hdpA
           have qA_13 := (hbsA 13 rfl).trans (sl_hit hN34 rfl)
           have qA_106 : Sl aA 106 (Value.bool true) := hdpA 11 _ 106 (by kernel_rfl) rfl rfl
           refine g_true (j := 11) (dj := 106) (b := true) rfl rfl rfl (ev_base hNA rfl qA_106) ?_
           refine op_move (ev_base hNA rfl qA_13) ?_
           exact obN_end rfl rfl (grown_refl _ _)
          ·
           intro aA wA hNA hRA hbsA hdpA
           have qA_12 := (hbsA 12 rfl).trans (sl_hit hN34 rfl)
           have qA_106 : Sl aA 106 (Value.bool true) := hdpA 11 _ 106 (by kernel_rfl) rfl rfl
           refine g_true (j := 11) (dj := 106) (b := true) rfl rfl rfl (ev_base hNA rfl qA_106) ?_
           refine op_move (ev_base hNA rfl qA_12) ?_
           exact obN_end rfl rfl (grown_refl _ _)
          ·
           intro aA wA hNA hRA hbsA hdpA
           have qA_108 : Sl aA 108 (Value.int .i64 ((((dl.getD i 0).toNat % 4) : Nat) : Int)) := hdpA 13 _ 108 (by kernel_rfl) rfl rfl
           have qA_106 : Sl aA 106 (Value.bool true) := hdpA 11 _ 106 (by kernel_rfl) rfl rfl
           refine g_true (j := 11) (dj := 106) (b := true) rfl rfl rfl (ev_base hNA rfl qA_106) ?_
           refine op_add (r := ((97 + ((dl.getD i 0).toNat % 4) : Nat) : Int)) rfl (ev_base hNA rfl qA_108) ((add64 (by omega)).trans (by omega)) ?_
           exact obN_end rfl rfl (grown_refl _ _)
          ·
           intro aA wA hNA hRA hbsA hdpA
           have hRA : w142.grownBy wA none := hRA
           have z_wA := hRA.size
           have h0 := h0.keep0 hRA
           have h1 := h1.keep0 hRA
           have hB := hB.keep0 hRA
           have hB119 := hB119.keep0 hRA
           have hA := hA.keep0 hRA
           have hk141 := hk141.keepG (Gr.of0 hRA NoB) (fun _ _ h => h)
           have hb := below_step0 hb hRA hb.size
           have qA_109 : Sl aA 109 (Value.int .i64 ((97 + ((dl.getD i 0).toNat % 4) : Nat) : Int)) := hdpA 14 _ 109 (by kernel_rfl) rfl rfl
           have qA_106 : Sl aA 106 (Value.bool true) := hdpA 11 _ 106 (by kernel_rfl) rfl rfl
           clear hbsA hdpA
           refine g_true (j := 11) (dj := 106) (b := true) rfl rfl rfl (ev_base hNA rfl qA_106) ?_
           refine op_conv (r := ((UInt8.ofNat (97 + ((dl.getD i 0).toNat % 4))).toNat : Int)) (ev_base hNA rfl qA_109) us3 Try.underlying5 (wrap_u8n _) ?_
           exact obN_end rfl rfl (grown_refl _ _)
          ·
           intro aA wA hNA hRA hbsA hdpA
           have qA_12 := (hbsA 12 rfl).trans (sl_hit hN34 rfl)
           have qA_106 : Sl aA 106 (Value.bool true) := hdpA 11 _ 106 (by kernel_rfl) rfl rfl
           refine g_true (j := 11) (dj := 106) (b := true) rfl rfl rfl (ev_base hNA rfl qA_106) ?_
           refine op_move (ev_base hNA rfl qA_12) ?_
           exact obN_end rfl rfl (grown_refl _ _)
          ·
           intro aA wA hNA hRA hbsA hdpA
           have hRA : w142.grownBy wA none := hRA
           have z_wA := hRA.size
           have h0 := h0.keep0 hRA
           have h1 := h1.keep0 hRA
           have hB := hB.keep0 hRA
           have hB119 := hB119.keep0 hRA
           have hA := hA.keep0 hRA
           have hk141 := hk141.keepG (Gr.of0 hRA NoB) (fun _ _ h => h)
           have hb := below_step0 hb hRA hb.size
           have qA_8 := (hbsA 8 rfl).trans (sl_base hN34 rfl s34_8)
           have qA_111 : Sl aA 111 (Value.int .i64 ((((dl.getD i 0).toNat % 4) : Nat) : Int)) := hdpA 16 _ 111 (by kernel_rfl) rfl rfl
           have qA_106 : Sl aA 106 (Value.bool true) := hdpA 11 _ 106 (by kernel_rfl) rfl rfl
           clear hbsA hdpA
           refine g_true (j := 11) (dj := 106) (b := true) rfl rfl rfl (ev_base hNA rfl qA_106) ?_
           refine op_index_arr1 (j := ((dl.getD i 0).toNat % 4)) arr78 (ev_base hNA rfl qA_8) (ev_base hNA rfl qA_111) (by omega) (by omega) ?_
           exact obN_end rfl rfl (grown_refl _ _)
          ·
           intro aA wA hNA hRA hbsA hdpA
           have hRA : w142.grownBy wA none := hRA
           have z_wA := hRA.size
           have h0 := h0.keep0 hRA
           have h1 := h1.keep0 hRA
           have hB := hB.keep0 hRA
           have hB119 := hB119.keep0 hRA
           have hA := hA.keep0 hRA
           have hk141 := hk141.keepG (Gr.of0 hRA NoB) (fun _ _ h => h)
           have hb := below_step0 hb hRA hb.size
           have qA_112 : Sl aA 112 (ptr b28 ((dl.getD i 0).toNat % 4)) := hdpA 17 _ 112 (by kernel_rfl) rfl rfl
           have qA_106 : Sl aA 106 (Value.bool true) := hdpA 11 _ 106 (by kernel_rfl) rfl rfl
           clear hbsA hdpA
           refine g_true (j := 11) (dj := 106) (b := true) rfl rfl rfl (ev_base hNA rfl qA_106) ?_
           refine op_load1 (v := (Value.int .i64 (((B.getD ((dl.getD i 0).toNat % 4) 0) : Nat) : Int))) one3 (ev_base hNA rfl qA_112) (hB.cell (row_at (d := 0) (by omega))) ?_
           exact obN_end rfl rfl (grown_refl _ _)
          ·
           intro aA wA hNA hRA hbsA hdpA
           have hRA : w142.grownBy wA none := hRA
           have z_wA := hRA.size
           have h0 := h0.keep0 hRA
           have h1 := h1.keep0 hRA
           have hB := hB.keep0 hRA
           have hB119 := hB119.keep0 hRA
           have hA := hA.keep0 hRA
           have hk141 := hk141.keepG (Gr.of0 hRA NoB) (fun _ _ h => h)
           have hb := below_step0 hb hRA hb.size
           have qA_113 : Sl aA 113 (Value.int .i64 (((B.getD ((dl.getD i 0).toNat % 4) 0) : Nat) : Int)) := hdpA 18 _ 113 (by kernel_rfl) rfl rfl
           have qA_106 : Sl aA 106 (Value.bool true) := hdpA 11 _ 106 (by kernel_rfl) rfl rfl
           clear hbsA hdpA
           refine g_true (j := 11) (dj := 106) (b := true) rfl rfl rfl (ev_base hNA rfl qA_106) ?_
           refine op_conv (r := ((UInt8.ofNat (B.getD ((dl.getD i 0).toNat % 4) 0)).toNat : Int)) (ev_base hNA rfl qA_113) us3 Try.underlying5 (wrap_u8n _) ?_
           exact obN_end rfl rfl (grown_refl _ _)
          ·
           intro aA wA hNA hRA hbsA hdpA
           have hRA : w142.grownBy wA none := hRA
           have z_wA := hRA.size
           have h0 := h0.keep0 hRA
           have h1 := h1.keep0 hRA
           have hB := hB.keep0 hRA
           have hB119 := hB119.keep0 hRA
           have hA := hA.keep0 hRA
           have hk141 := hk141.keepG (Gr.of0 hRA NoB) (fun _ _ h => h)
           have hb := below_step0 hb hRA hb.size
           have qA_110 : Sl aA 110 (Value.int .u8 ((UInt8.ofNat (97 + ((dl.getD i 0).toNat % 4))).toNat : Int)) := hdpA 15 _ 110 (by kernel_rfl) rfl rfl
           have qA_114 : Sl aA 114 (Value.int .u8 ((UInt8.ofNat (B.getD ((dl.getD i 0).toNat % 4) 0)).toNat : Int)) := hdpA 19 _ 114 (by kernel_rfl) rfl rfl
           have qA_106 : Sl aA 106 (Value.bool true) := hdpA 11 _ 106 (by kernel_rfl) rfl rfl
           clear hbsA hdpA
           refine g_true (j := 11) (dj := 106) (b := true) rfl rfl rfl (ev_base hNA rfl qA_106) ?_
           refine op_bslice (e := 5) (pv := [(0, (Value.int .u8 ((UInt8.ofNat (97 + ((dl.getD i 0).toNat % 4))).toNat : Int))), (1, (Value.int .u8 ((UInt8.ofNat (B.getD ((dl.getD i 0).toNat % 4) 0)).toNat : Int)))]) (cs := [(Value.int .u8 ((UInt8.ofNat (97 + ((dl.getD i 0).toNat % 4))).toNat : Int)), (Value.int .u8 ((UInt8.ofNat (B.getD ((dl.getD i 0).toNat % 4) 0)).toNat : Int))]) ⟨rfl, (ev_base hNA rfl qA_110), ⟨rfl, (ev_base hNA rfl qA_114), trivial⟩⟩ (by kernel_rfl) ?_
           intro w152 b153 lo_b153 hi_b153 hB155 E154
           have dj156 : ¬ F141 b153 := fun hf => by have := (hk141.lt _ hf).2; omega
           have z_w152 := E154.size
           have h0 := h0.keep0 E154
           have h1 := h1.keep0 E154
           have hB := hB.keep0 E154
           have hB119 := hB119.keep0 E154
           have hA := hA.keep0 E154
           have hk141 := hk141.keepG (Gr.of0 E154 NoB) (fun _ _ h => h)
           have hb := below_step0 hb E154 hb.size
           exact obN_end rfl ⟨b153, rfl, (by omega), hB155⟩ (E154)
          ·
           intro aA wA hNA hRA hbsA hdpA
           have hRA : w142.grownBy wA none := hRA
           have z_wA := hRA.size
           have h0 := h0.keep0 hRA
           have h1 := h1.keep0 hRA
           have hB := hB.keep0 hRA
           have hB119 := hB119.keep0 hRA
           have hA := hA.keep0 hRA
           have hk141 := hk141.keepG (Gr.of0 hRA NoB) (fun _ _ h => h)
           have hb := below_step0 hb hRA hb.size
           obtain ⟨b153, qA_115, loA_0, hB155⟩ := hdpA 20 _ 115 (by kernel_rfl) rfl rfl
           have hB155 : Bx wA b153 5 [(Value.int .u8 ((UInt8.ofNat (97 + ((dl.getD i 0).toNat % 4))).toNat : Int)), (Value.int .u8 ((UInt8.ofNat (B.getD ((dl.getD i 0).toNat % 4) 0)).toNat : Int))] := hB155
           have qA_106 : Sl aA 106 (Value.bool true) := hdpA 11 _ 106 (by kernel_rfl) rfl rfl
           clear hbsA hdpA
           refine g_true (j := 11) (dj := 106) (b := true) rfl rfl rfl (ev_base hNA rfl qA_106) ?_
           refine op_str_of (bl := [(UInt8.ofNat (97 + ((dl.getD i 0).toNat % 4))), (UInt8.ofNat (B.getD ((dl.getD i 0).toNat % 4) 0))]) Try.underlying22 Try.underlying5 Try.underlying9 (ev_base hNA rfl qA_115) (RdC.ofBx (sz := 1) (n := 2) hB155 rfl (by decide)) ?_
           exact obN_end rfl rfl (grown_refl _ _)
          ·
           intro a157 w157 hN157 hd157 hbs157 hph157 E157
           have hd157 := hd157.trans hd34
           have s157_0 := (hbs157 0 rfl).trans (sl_base hN34 rfl s34_0)
           have s157_1 := (hbs157 1 rfl).trans (sl_base hN34 rfl s34_1)
           have s157_5 := (hbs157 5 rfl).trans (sl_base hN34 rfl s34_5)
           have s157_7 := (hbs157 7 rfl).trans (sl_base hN34 rfl s34_7)
           have s157_8 := (hbs157 8 rfl).trans (sl_base hN34 rfl s34_8)
           have s157_9 := (hbs157 9 rfl).trans (sl_base hN34 rfl s34_9)
           have s157_12 := (hbs157 12 rfl).trans (sl_hit hN34 rfl)
           have s157_14 := (hbs157 14 rfl).trans (sl_hit hN34 rfl)
           have s157_104 : Sl a157 104 (Value.bool false) := hph157 9 _ 104 rfl rfl
           have s157_106 : Sl a157 106 (Value.bool true) := hph157 11 _ 106 rfl rfl
           have s157_107 : Sl a157 107 (Value.string (bs ((atS (sayS S ((((bl.getD i 0).toNat % 3) : Nat) : Int) ([(UInt8.ofNat (97 + ((bl.getD i 0).toNat % 3))), (UInt8.ofNat (A.getD ((bl.getD i 0).toNat % 3) 0))])) ((((dl.getD i 0).toNat % 4) : Nat) : Int)).texts.getD 0 []))) := hph157 12 _ 107 rfl rfl
           have s157_116 : Sl a157 116 (Value.string (bs [(UInt8.ofNat (97 + ((dl.getD i 0).toNat % 4))), (UInt8.ofNat (B.getD ((dl.getD i 0).toNat % 4) 0))])) := hph157 21 _ 116 rfl rfl
           clear hbs157 hph157
           have E157 : w142.grownBy w157 none := E157
           have z_w157 := E157.size
           have h0 := h0.keep0 E157
           have h1 := h1.keep0 E157
           have hB := hB.keep0 E157
           have hB119 := hB119.keep0 E157
           have hA := hA.keep0 E157
           have hk141 := hk141.keepG (Gr.of0 E157 NoB) (fun _ _ h => h)
           have hb := below_step0 hb E157 hb.size
           refine split_end ?_
           refine from_still (m := 25) 3 (hd := [_, _, _]) (by kernel_rfl) rfl rfl ?_
           refine st_g_true (j := 11) (dj := 106) (b := true) rfl rfl rfl (ev_base hN157 rfl s157_106) ?_
           by_cases g117 : ((atS (sayS S ((((bl.getD i 0).toNat % 3) : Nat) : Int) ([(UInt8.ofNat (97 + ((bl.getD i 0).toNat % 3))), (UInt8.ofNat (A.getD ((bl.getD i 0).toNat % 3) 0))])) ((((dl.getD i 0).toNat % 4) : Nat) : Int)).texts.getD 0 []) ≠ [(UInt8.ofNat (97 + ((dl.getD i 0).toNat % 4))), (UInt8.ofNat (B.getD ((dl.getD i 0).toNat % 4) 0))]
           · -- 117T
            exact absurd (hP2.head ht3 hl2) g117
           · -- 117F
            refine st_step rfl (fun _ h9 => op_sneqb (b := false) (ev_base hN157 rfl s157_107) (ev_base hN157 rfl s157_116) (decide_eq_false g117) h9) ?_
            refine st_g_true (j := 9) (dj := 104) (b := false) rfl rfl rfl (ev_base hN157 rfl s157_104) ?_
            refine st_step rfl (fun _ h9 => op_pick_t (ev_base hN157 rfl s157_106) (ev_hit hN157 rfl) h9) ?_
            refine st_step rfl (fun _ h9 => op_pick_f (ev_base hN157 rfl s157_104) (ev_hit hN157 rfl) h9) ?_
            refine st_nil ?_
            refine from_one (k' := 26) (by kernel_rfl) rfl rfl ?_
            refine op_move (ev_hit hN157 rfl) ?_
            refine from_next ?_
            refine from_norm ?_
            refine from_ord (l := [_]) 27 [26] (fun _ _ _ h => h.1) (by kernel_rfl) (by kernel_rfl) rfl rfl ?_
            refine g_true (j := 25) (dj := 120) (b := false) rfl rfl rfl (ev_hit hN157 rfl) ?_
            refine op_move (ev_base hN157 rfl s157_5) ?_
            refine from_next ?_
            refine from_ord (l := [_]) 28 [27] (fun _ _ _ h => h.1) (by kernel_rfl) (by kernel_rfl) rfl rfl ?_
            refine g_true (j := 25) (dj := 120) (b := false) rfl rfl rfl (ev_hit hN157 rfl) ?_
            refine op_move (ev_base hN157 rfl s157_12) ?_
            refine from_next ?_
            refine from_ord (l := [_, _]) 30 [29, 28] (fun _ _ _ h => h.1) (by kernel_rfl) (by kernel_rfl) rfl rfl ?_
            refine g_true (j := 25) (dj := 120) (b := false) rfl rfl rfl (ev_hit hN157 rfl) ?_
            refine op_move (ev_base hN157 rfl s157_14) ?_
            refine g_true (j := 25) (dj := 120) (b := false) rfl rfl rfl (ev_hit hN157 rfl) ?_
            refine op_fn (vs := [(ptr k15 0), (Value.int .i64 ((((dl.getD i 0).toNat % 4) : Nat) : Int))]) ok42 ⟨(ev_hit hN157 rfl), ⟨(ev_hit hN157 rfl), trivial⟩⟩ (DoneR ((((dl.getD i 0).toNat % 4) : Nat) : Int) (by omega) (hok.say ((((bl.getD i 0).toNat % 3) : Nat) : Int) ([(UInt8.ofNat (97 + ((bl.getD i 0).toNat % 3))), (UInt8.ofNat (A.getD ((bl.getD i 0).toNat % 3) 0))])).1 hk141) ?_
            rintro _ w159 ⟨E160, rfl, F158, hk158, hN158⟩
            have bd161 := hB.lt
            have bd162 := hB119.lt
            have bd163 := hA.lt
            have hk141_old := hk141
            have z_w159 := E160.size
            have h0 := h0.keepG E160 (fun k hk => .inr (by have := hk141_old.lt k hk; omega))
            have h1 := h1.keepG E160 (fun k hk => .inr (by have := hk141_old.lt k hk; omega))
            have hB := hB.keepG E160 dj147
            have hB119 := hB119.keepG E160 dj148
            have hA := hA.keepG E160 dj149
            have hb := below_stepG hb E160 hb.size (fun k hk => (hk141_old.lt k hk).1)
            have dj164 : ¬ F158 b28 := ne_stepF hN158 bd161 dj147
            have dj165 : ¬ F158 b117 := ne_stepF hN158 bd162 dj148
            have dj166 : ¬ F158 b23 := ne_stepF hN158 bd163 dj149
            refine from_next ?_
            refine from_seq (tl := [_, _]) (by decide) (by kernel_rfl) rfl ?_
            refine g_true (j := 25) (dj := 120) (b := false) rfl rfl rfl (ev_hit hN157 rfl) ?_
            refine op_neb Try.underlying4 (ev_hit hN157 rfl) (ev_hit hN157 rfl) ?_
            refine op_pick_f (ev_hit hN157 rfl) (ev_hit hN157 rfl) ?_
            refine reg_nil ?_
            refine ⟨rfl, ?_⟩
            refine hK151 _ _ ?_
            refine wp_cond_split (ev_hit hN157 rfl) (fun c126 => ?_) (fun c126 => ?_)
            · -- 126T
             rw [decide_eq_true c14] at c126; exact absurd c126 (by decide)
            · -- 126F
             refine wp_skip ?_
             refine hK150 _ _ ?_
             refine seq_any fun K167 hK167 => ?_
             refine one_reg ?_
             refine op_move (ev_base hN157 rfl s157_14) ?_
             refine reg_nil ?_
             refine hK167 _ _ ?_
             refine wp_cond_true (ev_hit hN157 rfl) ?_
             refine one_reg ?_
             refine op_move (ev_base hN157 rfl s157_12) ?_
             refine op_index_arr1 (j := ((dl.getD i 0).toNat % 4)) arr78 (ev_base hN157 rfl s157_8) (ev_hit hN157 rfl) (by omega) (by omega) ?_
             refine op_load1 (v := (Value.int .i64 (((B.getD ((dl.getD i 0).toNat % 4) 0) : Nat) : Int))) one3 (ev_hit hN157 rfl) (hB.cell (row_at (d := 0) (by omega))) ?_
             refine op_add (r := ((B.getD ((dl.getD i 0).toNat % 4) 0 + 1 : Nat) : Int)) (ev_hit hN157 rfl) rfl ((add64 (by omega)).trans (by omega)) ?_
             refine op_index_arr1 (j := ((dl.getD i 0).toNat % 4)) arr78 (ev_base hN157 rfl s157_8) (ev_hit hN157 rfl) (by omega) (by omega) ?_
             have hB_old := hB
             refine op_store_row (v := (Value.int .i64 ((B.getD ((dl.getD i 0).toNat % 4) 0 + 1 : Nat) : Int))) size3 (ev_hit hN157 rfl) (ev_hit hN157 rfl) rfl rfl hB (by rw [List.length_map]; omega) ?_
             intro w168 hB E169
             have z_w168 := E169.size
             have h0 := h0.keep E169 (fun k hk => .inr (by simp at hk; omega))
             have h1 := h1.keep E169 (fun k hk => .inr (by simp at hk; omega))
             have hB119 := hB119.keep E169 (by simp; omega)
             have hA := hA.keep E169 (by simp; omega)
             have hk158 := hk158.keepG (Gr.of E169) (Dj.one dj164)
             have hb := below_step1 hb E169 hb.size (by omega)
             have hB : Bx w168 b28 78 (((B.set ((dl.getD i 0).toNat % 4) (B.getD ((dl.getD i 0).toNat % 4) 0 + 1)).map nI)) := row_set hB
             refine reg_nil ?_
             refine hK37 _ _ ?_
             refine one_reg ?_
             refine op_move (ev_base hN157 rfl s157_9) ?_
             refine op_add (ev_hit hN157 rfl) rfl (add64 (by omega)) ?_
             refine op_assign (ev_hit hN157 rfl) ?_
             refine reg_nil ?_
             -- round 19F 23F 39T 55F 69F 80T 88T 14T 103F 117F 126F
             exact loop_next _ hN157 hd157 ⟨(i + 1), doneS (sayS S ((((bl.getD i 0).toNat % 3) : Nat) : Int) ([(UInt8.ofNat (97 + ((bl.getD i 0).toNat % 3))), (UInt8.ofNat (A.getD ((bl.getD i 0).toNat % 3) 0))])) ((((dl.getD i 0).toNat % 4) : Nat) : Int), (A.set ((bl.getD i 0).toNat % 3) (A.getD ((bl.getD i 0).toNat % 3) 0 + 1)), (B.set ((dl.getD i 0).toNat % 4) (B.getD ((dl.getD i 0).toNat % 4) 0 + 1)), F158, rfl, (sl_base hN157 rfl s157_0), (sl_base hN157 rfl s157_1), (sl_base hN157 rfl s157_5), (sl_base hN157 rfl s157_7), (sl_base hN157 rfl s157_8), (sl_hit hN157 rfl).trans (congrArg (Value.int .i64) (by omega)), (by omega), ((hok.say ((((bl.getD i 0).toNat % 3) : Nat) : Int) ([(UInt8.ofNat (97 + ((bl.getD i 0).toNat % 3))), (UInt8.ofNat (A.getD ((bl.getD i 0).toNat % 3) 0))])).done ((((dl.getD i 0).toNat % 4) : Nat) : Int)), (hP2.done ht3 hl2), dj166, dj164, hb, (by omega), h0, h1, hk158, hA, hB⟩ (by omega)
        · -- 14F
         rw [c14]
         refine op_assign (ev_hit hN34 rfl) ?_
         replace c14 := of_decide_eq_false c14
         refine reg_nil ?_
         refine hK140 _ _ ?_
         refine seq_any fun K170 hK170 => ?_
         refine seq_any fun K171 hK171 => ?_
         have hl2 : ¬ B.getD ((dl.getD i 0).toNat % 4) 0 < (A.set ((bl.getD i 0).toNat % 3) (A.getD ((bl.getD i 0).toNat % 3) 0 + 1)).getD ((dl.getD i 0).toNat % 4) 0 := by have h9 := c14; rw [hP2.len ht3] at h9; omega
         rcases Bool.eq_false_or_eq_true ((false != (decide ((((B.getD ((dl.getD i 0).toNat % 4) 0) : Nat) : Int) < ((((A.set ((bl.getD i 0).toNat % 3) (A.getD ((bl.getD i 0).toNat % 3) 0 + 1)).getD ((dl.getD i 0).toNat % 4) 0) : Nat) : Int))))) with g103 | g103
         · -- 103T
          exfalso; simp only [Bool.true_bne, Bool.false_bne, Bool.not_eq_true', decide_eq_false_iff_not, decide_eq_true_eq] at g103; omega
         · -- 103F
          refine reg_split (hd := [_, _, _, _, _, _, _, _, _, _, _, _, _, _, _, _, _, _, _, _, _, _]) (tl := _) 22 mixed (by kernel_rfl) rfl rfl ?_
          refine any_quiet (Φ := phiL [(fun uz _ => uz = (Value.bool false)), (fun uz _ => uz = (Value.int .i64 ((((dl.getD i 0).toNat % 4) : Nat) : Int))), (fun uz _ => uz = (ptr b23 ((dl.getD i 0).toNat % 4))), (fun uz _ => uz = (Value.int .i64 ((((A.set ((bl.getD i 0).toNat % 3) (A.getD ((bl.getD i 0).toNat % 3) 0 + 1)).getD ((dl.getD i 0).toNat % 4) 0) : Nat) : Int))), (fun uz _ => uz = (Value.int .i64 ((((dl.getD i 0).toNat % 4) : Nat) : Int))), (fun uz _ => uz = (ptr b28 ((dl.getD i 0).toNat % 4))), (fun uz _ => uz = (Value.int .i64 (((B.getD ((dl.getD i 0).toNat % 4) 0) : Nat) : Int))), (fun uz _ => uz = (Value.bool (decide ((((B.getD ((dl.getD i 0).toNat % 4) 0) : Nat) : Int) < ((((A.set ((bl.getD i 0).toNat % 3) (A.getD ((bl.getD i 0).toNat % 3) 0 + 1)).getD ((dl.getD i 0).toNat % 4) 0) : Nat) : Int))))), (fun uz _ => uz = (Value.bool false)), (fun uz _ => uz = (Value.bool false)), (fun uz _ => uz = (Value.bool false)), (fun uz _ => uz = (Value.bool false)), (fun uz _ => uz = undef), (fun uz _ => uz = undef), (fun uz _ => uz = undef), (fun uz _ => uz = undef), (fun uz _ => uz = undef), (fun uz _ => uz = undef), (fun uz _ => uz = undef), (fun uz _ => uz = undef), (fun uz _ => uz = undef), (fun uz _ => uz = undef)]) (by kernel_rfl) (by kernel_rfl) (by kernel_rfl) hN34 (StL.get (StL.eq (StL.eq (StL.eq (StL.eq (StL.eq (StL.eq (StL.eq (StL.eq (StL.eq (StL.eq (StL.eq (StL.eq (StL.eq (StL.eq (StL.eq (StL.eq (StL.eq (StL.eq (StL.eq (StL.eq (StL.eq (StL.eq (StL.nil _)))))))))))))))))))))))) (ObL.get (s := 22) (ObL.cons ?_ (ObL.cons ?_ (ObL.cons ?_ (ObL.cons ?_ (ObL.cons ?_ (ObL.cons ?_ (ObL.cons ?_ (ObL.cons ?_ (ObL.cons ?_ (ObL.cons ?_ (ObL.cons ?_ (ObL.cons ?_ (ObL.cons ?_ (ObL.cons ?_ (ObL.cons ?_ (ObL.cons ?_ (ObL.cons ?_ (ObL.cons ?_ (ObL.cons ?_ (ObL.cons ?_ (ObL.cons ?_ (ObL.cons ?_ (ObL.nil))))))))))))))))))))))) rfl) ?_
          ·
           intro aA wA hNA hRA hbsA hdpA
           have qA_14 := (hbsA 14 rfl).trans (sl_hit hN34 rfl)
           refine op_move (ev_base hNA rfl qA_14) ?_
           exact obN_end rfl rfl (grown_refl _ _)
          ·
           intro aA wA hNA hRA hbsA hdpA
           have qA_12 := (hbsA 12 rfl).trans (sl_hit hN34 rfl)
           refine op_move (ev_base hNA rfl qA_12) ?_
           exact obN_end rfl rfl (grown_refl _ _)
          ·
           intro aA wA hNA hRA hbsA hdpA
           have hRA : w142.grownBy wA none := hRA
           have z_wA := hRA.size
           have h0 := h0.keep0 hRA
           have h1 := h1.keep0 hRA
           have hB := hB.keep0 hRA
           have hB119 := hB119.keep0 hRA
           have hA := hA.keep0 hRA
           have hk141 := hk141.keepG (Gr.of0 hRA NoB) (fun _ _ h => h)
           have hb := below_step0 hb hRA hb.size
           have qA_7 := (hbsA 7 rfl).trans (sl_base hN34 rfl s34_7)
           have qA_96 : Sl aA 96 (Value.int .i64 ((((dl.getD i 0).toNat % 4) : Nat) : Int)) := hdpA 1 _ 96 (by kernel_rfl) rfl rfl
           clear hbsA hdpA
           refine op_index_arr1 (j := ((dl.getD i 0).toNat % 4)) arr78 (ev_base hNA rfl qA_7) (ev_base hNA rfl qA_96) (by omega) (by omega) ?_
           exact obN_end rfl rfl (grown_refl _ _)
          ·
           intro aA wA hNA hRA hbsA hdpA
           have hRA : w142.grownBy wA none := hRA
           have z_wA := hRA.size
           have h0 := h0.keep0 hRA
           have h1 := h1.keep0 hRA
           have hB := hB.keep0 hRA
           have hB119 := hB119.keep0 hRA
           have hA := hA.keep0 hRA
           have hk141 := hk141.keepG (Gr.of0 hRA NoB) (fun _ _ h => h)
           have hb := below_step0 hb hRA hb.size
           have qA_97 : Sl aA 97 (ptr b23 ((dl.getD i 0).toNat % 4)) := hdpA 2 _ 97 (by kernel_rfl) rfl rfl
           clear hbsA hdpA
           refine op_load1 (v := (Value.int .i64 ((((A.set ((bl.getD i 0).toNat % 3) (A.getD ((bl.getD i 0).toNat % 3) 0 + 1)).getD ((dl.getD i 0).toNat % 4) 0) : Nat) : Int))) one3 (ev_base hNA rfl qA_97) (hA.cell (row_at (d := 0) (by omega))) ?_
           exact obN_end rfl rfl (grown_refl _ _)
          ·
           intro aA wA hNA hRA hbsA hdpA
           have qA_12 := (hbsA 12 rfl).trans (sl_hit hN34 rfl)
           refine op_move (ev_base hNA rfl qA_12) ?_
           exact obN_end rfl rfl (grown_refl _ _)
          ·
           intro aA wA hNA hRA hbsA hdpA
           have hRA : w142.grownBy wA none := hRA
           have z_wA := hRA.size
           have h0 := h0.keep0 hRA
           have h1 := h1.keep0 hRA
           have hB := hB.keep0 hRA
           have hB119 := hB119.keep0 hRA
           have hA := hA.keep0 hRA
           have hk141 := hk141.keepG (Gr.of0 hRA NoB) (fun _ _ h => h)
           have hb := below_step0 hb hRA hb.size
           have qA_8 := (hbsA 8 rfl).trans (sl_base hN34 rfl s34_8)
           have qA_99 : Sl aA 99 (Value.int .i64 ((((dl.getD i 0).toNat % 4) : Nat) : Int)) := hdpA 4 _ 99 (by kernel_rfl) rfl rfl
           clear hbsA hdpA
           refine op_index_arr1 (j := ((dl.getD i 0).toNat % 4)) arr78 (ev_base hNA rfl qA_8) (ev_base hNA rfl qA_99) (by omega) (by omega) ?_
           exact obN_end rfl rfl (grown_refl _ _)
          ·
           intro aA wA hNA hRA hbsA hdpA
           have hRA : w142.grownBy wA none := hRA
           have z_wA := hRA.size
           have h0 := h0.keep0 hRA
           have h1 := h1.keep0 hRA
           have hB := hB.keep0 hRA
           have hB119 := hB119.keep0 hRA
           have hA := hA.keep0 hRA
           have hk141 := hk141.keepG (Gr.of0 hRA NoB) (fun _ _ h => h)
           have hb := below_step0 hb hRA hb.size
           have qA_100 : Sl aA 100 (ptr b28 ((dl.getD i 0).toNat % 4)) := hdpA 5 _ 100 (by kernel_rfl) rfl rfl
           clear hbsA hdpA
           refine op_load1 (v := (Value.int .i64 (((B.getD ((dl.getD i 0).toNat % 4) 0) : Nat) : Int))) one3 (ev_base hNA rfl qA_100) (hB.cell (row_at (d := 0) (by omega))) ?_
           exact obN_end rfl rfl (grown_refl _ _)
          ·
           intro aA wA hNA hRA hbsA hdpA
           have qA_98 : Sl aA 98 (Value.int .i64 ((((A.set ((bl.getD i 0).toNat % 3) (A.getD ((bl.getD i 0).toNat % 3) 0 + 1)).getD ((dl.getD i 0).toNat % 4) 0) : Nat) : Int)) := hdpA 3 _ 98 (by kernel_rfl) rfl rfl
           have qA_101 : Sl aA 101 (Value.int .i64 (((B.getD ((dl.getD i 0).toNat % 4) 0) : Nat) : Int)) := hdpA 6 _ 101 (by kernel_rfl) rfl rfl
           refine op_cmp (b := (decide ((((B.getD ((dl.getD i 0).toNat % 4) 0) : Nat) : Int) < ((((A.set ((bl.getD i 0).toNat % 3) (A.getD ((bl.getD i 0).toNat % 3) 0 + 1)).getD ((dl.getD i 0).toNat % 4) 0) : Nat) : Int)))) (ev_base hNA rfl qA_98) (ev_base hNA rfl qA_101) (b_gtr rfl) ?_
           exact obN_end rfl rfl (grown_refl _ _)
          ·
           intro aA wA hNA hRA hbsA hdpA
           have qA_95 : Sl aA 95 (Value.bool false) := hdpA 0 _ 95 (by kernel_rfl) rfl rfl
           have qA_102 : Sl aA 102 (Value.bool (decide ((((B.getD ((dl.getD i 0).toNat % 4) 0) : Nat) : Int) < ((((A.set ((bl.getD i 0).toNat % 3) (A.getD ((bl.getD i 0).toNat % 3) 0 + 1)).getD ((dl.getD i 0).toNat % 4) 0) : Nat) : Int)))) := hdpA 7 _ 102 (by kernel_rfl) rfl rfl
           refine op_neb Try.underlying4 (ev_base hNA rfl qA_95) (ev_base hNA rfl qA_102) ?_
           rw [g103]
           exact obN_end rfl rfl (grown_refl _ _)
          ·
           intro aA wA hNA hRA hbsA hdpA
           have qA_103 : Sl aA 103 (Value.bool false) := hdpA 8 _ 103 (by kernel_rfl) rfl rfl
           refine op_move (ev_base hNA rfl qA_103) ?_
           exact obN_end rfl rfl (grown_refl _ _)
          ·
           intro aA wA hNA hRA hbsA hdpA
           have qA_14 := (hbsA 14 rfl).trans (sl_hit hN34 rfl)
           have qA_104 : Sl aA 104 (Value.bool false) := hdpA 9 _ 104 (by kernel_rfl) rfl rfl
           refine g_true (j := 9) (dj := 104) (b := false) rfl rfl rfl (ev_base hNA rfl qA_104) ?_
           refine op_move (ev_base hNA rfl qA_14) ?_
           exact obN_end rfl rfl (grown_refl _ _)
          ·
           intro aA wA hNA hRA hbsA hdpA
           have qA_105 : Sl aA 105 (Value.bool false) := hdpA 10 _ 105 (by kernel_rfl) rfl rfl
           have qA_104 : Sl aA 104 (Value.bool false) := hdpA 9 _ 104 (by kernel_rfl) rfl rfl
           refine g_true (j := 9) (dj := 104) (b := false) rfl rfl rfl (ev_base hNA rfl qA_104) ?_
           refine op_move (ev_base hNA rfl qA_105) ?_
           exact obN_end rfl rfl (grown_refl _ _)
          ·
           intro aA wA hNA hRA hbsA hdpA
           have qA_13 := (hbsA 13 rfl).trans (sl_hit hN34 rfl)
           have qA_106 : Sl aA 106 (Value.bool false) := hdpA 11 _ 106 (by kernel_rfl) rfl rfl
           refine g_false (j := 11) (dj := 106) (b := true) rfl rfl rfl (ev_base hNA rfl qA_106) rfl rfl ?_
           exact obN_end rfl rfl (grown_refl _ _)
          ·
           intro aA wA hNA hRA hbsA hdpA
           have qA_12 := (hbsA 12 rfl).trans (sl_hit hN34 rfl)
           have qA_106 : Sl aA 106 (Value.bool false) := hdpA 11 _ 106 (by kernel_rfl) rfl rfl
           refine g_false (j := 11) (dj := 106) (b := true) rfl rfl rfl (ev_base hNA rfl qA_106) rfl rfl ?_
           exact obN_end rfl rfl (grown_refl _ _)
          ·
           intro aA wA hNA hRA hbsA hdpA
           have qA_108 : Sl aA 108 undef := hdpA 13 _ 108 (by kernel_rfl) rfl rfl
           have qA_106 : Sl aA 106 (Value.bool false) := hdpA 11 _ 106 (by kernel_rfl) rfl rfl
           refine g_false (j := 11) (dj := 106) (b := true) rfl rfl rfl (ev_base hNA rfl qA_106) rfl rfl ?_
           exact obN_end rfl rfl (grown_refl _ _)
          ·
           intro aA wA hNA hRA hbsA hdpA
           have hRA : w142.grownBy wA none := hRA
           have z_wA := hRA.size
           have h0 := h0.keep0 hRA
           have h1 := h1.keep0 hRA
           have hB := hB.keep0 hRA
           have hB119 := hB119.keep0 hRA
           have hA := hA.keep0 hRA
           have hk141 := hk141.keepG (Gr.of0 hRA NoB) (fun _ _ h => h)
           have hb := below_step0 hb hRA hb.size
           have qA_109 : Sl aA 109 undef := hdpA 14 _ 109 (by kernel_rfl) rfl rfl
           have qA_106 : Sl aA 106 (Value.bool false) := hdpA 11 _ 106 (by kernel_rfl) rfl rfl
           clear hbsA hdpA
           refine g_false (j := 11) (dj := 106) (b := true) rfl rfl rfl (ev_base hNA rfl qA_106) rfl rfl ?_
           exact obN_end rfl rfl (grown_refl _ _)
          ·
           intro aA wA hNA hRA hbsA hdpA
           have qA_12 := (hbsA 12 rfl).trans (sl_hit hN34 rfl)
           have qA_106 : Sl aA 106 (Value.bool false) := hdpA 11 _ 106 (by kernel_rfl) rfl rfl
           refine g_false (j := 11) (dj := 106) (b := true) rfl rfl rfl (ev_base hNA rfl qA_106) rfl rfl ?_
           exact obN_end rfl rfl (grown_refl _ _)
          ·
           intro aA wA hNA hRA hbsA hdpA
           have hRA : w142.grownBy wA none := hRA
           have z_wA := hRA.size
           have h0 := h0.keep0 hRA
           have h1 := h1.keep0 hRA
           have hB := hB.keep0 hRA
           have hB119 := hB119.keep0 hRA
           have hA := hA.keep0 hRA
           have hk141 := hk141.keepG (Gr.of0 hRA NoB) (fun _ _ h => h)
           have hb := below_step0 hb hRA hb.size
           have qA_8 := (hbsA 8 rfl).trans (sl_base hN34 rfl s34_8)
           have qA_111 : Sl aA 111 undef := hdpA 16 _ 111 (by kernel_rfl) rfl rfl
           have qA_106 : Sl aA 106 (Value.bool false) := hdpA 11 _ 106 (by kernel_rfl) rfl rfl
           clear hbsA hdpA
           refine g_false (j := 11) (dj := 106) (b := true) rfl rfl rfl (ev_base hNA rfl qA_106) rfl rfl ?_
           exact obN_end rfl rfl (grown_refl _ _)
          ·
           intro aA wA hNA hRA hbsA hdpA
           have hRA : w142.grownBy wA none := hRA
           have z_wA := hRA.size
           have h0 := h0.keep0 hRA
           have h1 := h1.keep0 hRA
           have hB := hB.keep0 hRA
           have hB119 := hB119.keep0 hRA
           have hA := hA.keep0 hRA
           have hk141 := hk141.keepG (Gr.of0 hRA NoB) (fun _ _ h => h)
           have hb := below_step0 hb hRA hb.size
           have qA_112 : Sl aA 112 undef := hdpA 17 _ 112 (by kernel_rfl) rfl rfl
           have qA_106 : Sl aA 106 (Value.bool false) := hdpA 11 _ 106 (by kernel_rfl) rfl rfl
           clear hbsA hdpA
           refine g_false (j := 11) (dj := 106) (b := true) rfl rfl rfl (ev_base hNA rfl qA_106) rfl rfl ?_
           exact obN_end rfl rfl (grown_refl _ _)
          ·
           intro aA wA hNA hRA hbsA hdpA
           have hRA : w142.grownBy wA none := hRA
           have z_wA := hRA.size
           have h0 := h0.keep0 hRA
           have h1 := h1.keep0 hRA
           have hB := hB.keep0 hRA
           have hB119 := hB119.keep0 hRA
           have hA := hA.keep0 hRA
           have hk141 := hk141.keepG (Gr.of0 hRA NoB) (fun _ _ h => h)
           have hb := below_step0 hb hRA hb.size
           have qA_113 : Sl aA 113 undef := hdpA 18 _ 113 (by kernel_rfl) rfl rfl
           have qA_106 : Sl aA 106 (Value.bool false) := hdpA 11 _ 106 (by kernel_rfl) rfl rfl
           clear hbsA hdpA
           refine g_false (j := 11) (dj := 106) (b := true) rfl rfl rfl (ev_base hNA rfl qA_106) rfl rfl ?_
           exact obN_end rfl rfl (grown_refl _ _)
          ·
           intro aA wA hNA hRA hbsA hdpA
           have hRA : w142.grownBy wA none := hRA
           have z_wA := hRA.size
           have h0 := h0.keep0 hRA
           have h1 := h1.keep0 hRA
           have hB := hB.keep0 hRA
           have hB119 := hB119.keep0 hRA
           have hA := hA.keep0 hRA
           have hk141 := hk141.keepG (Gr.of0 hRA NoB) (fun _ _ h => h)
           have hb := below_step0 hb hRA hb.size
           have qA_110 : Sl aA 110 undef := hdpA 15 _ 110 (by kernel_rfl) rfl rfl
           have qA_114 : Sl aA 114 undef := hdpA 19 _ 114 (by kernel_rfl) rfl rfl
           have qA_106 : Sl aA 106 (Value.bool false) := hdpA 11 _ 106 (by kernel_rfl) rfl rfl
           clear hbsA hdpA
           refine g_false (j := 11) (dj := 106) (b := true) rfl rfl rfl (ev_base hNA rfl qA_106) rfl rfl ?_
           exact obN_end rfl rfl (grown_refl _ _)
          ·
           intro aA wA hNA hRA hbsA hdpA
           have hRA : w142.grownBy wA none := hRA
           have z_wA := hRA.size
           have h0 := h0.keep0 hRA
           have h1 := h1.keep0 hRA
           have hB := hB.keep0 hRA
           have hB119 := hB119.keep0 hRA
           have hA := hA.keep0 hRA
           have hk141 := hk141.keepG (Gr.of0 hRA NoB) (fun _ _ h => h)
           have hb := below_step0 hb hRA hb.size
           have qA_115 : Sl aA 115 undef := hdpA 20 _ 115 (by kernel_rfl) rfl rfl
           have qA_106 : Sl aA 106 (Value.bool false) := hdpA 11 _ 106 (by kernel_rfl) rfl rfl
           clear hbsA hdpA
           refine g_false (j := 11) (dj := 106) (b := true) rfl rfl rfl (ev_base hNA rfl qA_106) rfl rfl ?_
           exact obN_end rfl rfl (grown_refl _ _)
          ·
           intro a172 w172 hN172 hd172 hbs172 hph172 E172
           have hd172 := hd172.trans hd34
           have s172_0 := (hbs172 0 rfl).trans (sl_base hN34 rfl s34_0)
           have s172_1 := (hbs172 1 rfl).trans (sl_base hN34 rfl s34_1)
           have s172_5 := (hbs172 5 rfl).trans (sl_base hN34 rfl s34_5)
           have s172_7 := (hbs172 7 rfl).trans (sl_base hN34 rfl s34_7)
           have s172_8 := (hbs172 8 rfl).trans (sl_base hN34 rfl s34_8)
           have s172_9 := (hbs172 9 rfl).trans (sl_base hN34 rfl s34_9)
           have s172_12 := (hbs172 12 rfl).trans (sl_hit hN34 rfl)
           have s172_14 := (hbs172 14 rfl).trans (sl_hit hN34 rfl)
           have s172_104 : Sl a172 104 (Value.bool false) := hph172 9 _ 104 rfl rfl
           have s172_106 : Sl a172 106 (Value.bool false) := hph172 11 _ 106 rfl rfl
           have s172_107 : Sl a172 107 undef := hph172 12 _ 107 rfl rfl
           have s172_116 : Sl a172 116 undef := hph172 21 _ 116 rfl rfl
           clear hbs172 hph172
           have E172 : w142.grownBy w172 none := E172
           have z_w172 := E172.size
           have h0 := h0.keep0 E172
           have h1 := h1.keep0 E172
           have hB := hB.keep0 E172
           have hB119 := hB119.keep0 E172
           have hA := hA.keep0 E172
           have hk141 := hk141.keepG (Gr.of0 E172 NoB) (fun _ _ h => h)
           have hb := below_step0 hb E172 hb.size
           refine split_end ?_
           refine from_still (m := 25) 3 (hd := [_, _, _]) (by kernel_rfl) rfl rfl ?_
           refine st_g_false (j := 11) (dj := 106) (b := true) rfl rfl rfl (ev_base hN172 rfl s172_106) rfl rfl ?_
           refine st_g_true (j := 9) (dj := 104) (b := false) rfl rfl rfl (ev_base hN172 rfl s172_104) ?_
           refine st_step rfl (fun _ h9 => op_pick_f (ev_base hN172 rfl s172_106) rfl h9) ?_
           refine st_step rfl (fun _ h9 => op_pick_f (ev_base hN172 rfl s172_104) (ev_hit hN172 rfl) h9) ?_
           refine st_nil ?_
           refine from_one (k' := 26) (by kernel_rfl) rfl rfl ?_
           refine op_move (ev_hit hN172 rfl) ?_
           refine from_next ?_
           refine from_norm ?_
           refine from_ord (l := [_]) 27 [26] (fun _ _ _ h => h.1) (by kernel_rfl) (by kernel_rfl) rfl rfl ?_
           refine g_true (j := 25) (dj := 120) (b := false) rfl rfl rfl (ev_hit hN172 rfl) ?_
           refine op_move (ev_base hN172 rfl s172_5) ?_
           refine from_next ?_
           refine from_ord (l := [_]) 28 [27] (fun _ _ _ h => h.1) (by kernel_rfl) (by kernel_rfl) rfl rfl ?_
           refine g_true (j := 25) (dj := 120) (b := false) rfl rfl rfl (ev_hit hN172 rfl) ?_
           refine op_move (ev_base hN172 rfl s172_12) ?_
           refine from_next ?_
           refine from_ord (l := [_, _]) 30 [29, 28] (fun _ _ _ h => h.1) (by kernel_rfl) (by kernel_rfl) rfl rfl ?_
           refine g_true (j := 25) (dj := 120) (b := false) rfl rfl rfl (ev_hit hN172 rfl) ?_
           refine op_move (ev_base hN172 rfl s172_14) ?_
           refine g_true (j := 25) (dj := 120) (b := false) rfl rfl rfl (ev_hit hN172 rfl) ?_
           refine op_fn (vs := [(ptr k15 0), (Value.int .i64 ((((dl.getD i 0).toNat % 4) : Nat) : Int))]) ok42 ⟨(ev_hit hN172 rfl), ⟨(ev_hit hN172 rfl), trivial⟩⟩ (DoneR ((((dl.getD i 0).toNat % 4) : Nat) : Int) (by omega) (hok.say ((((bl.getD i 0).toNat % 3) : Nat) : Int) ([(UInt8.ofNat (97 + ((bl.getD i 0).toNat % 3))), (UInt8.ofNat (A.getD ((bl.getD i 0).toNat % 3) 0))])).1 hk141) ?_
           rintro _ w174 ⟨E175, rfl, F173, hk173, hN173⟩
           have bd176 := hB.lt
           have bd177 := hB119.lt
           have bd178 := hA.lt
           have hk141_old := hk141
           have z_w174 := E175.size
           have h0 := h0.keepG E175 (fun k hk => .inr (by have := hk141_old.lt k hk; omega))
           have h1 := h1.keepG E175 (fun k hk => .inr (by have := hk141_old.lt k hk; omega))
           have hB := hB.keepG E175 dj147
           have hB119 := hB119.keepG E175 dj148
           have hA := hA.keepG E175 dj149
           have hb := below_stepG hb E175 hb.size (fun k hk => (hk141_old.lt k hk).1)
           have dj179 : ¬ F173 b28 := ne_stepF hN173 bd176 dj147
           have dj180 : ¬ F173 b117 := ne_stepF hN173 bd177 dj148
           have dj181 : ¬ F173 b23 := ne_stepF hN173 bd178 dj149
           refine from_next ?_
           refine from_seq (tl := [_, _]) (by decide) (by kernel_rfl) rfl ?_
           refine g_true (j := 25) (dj := 120) (b := false) rfl rfl rfl (ev_hit hN172 rfl) ?_
           refine op_neb Try.underlying4 (ev_hit hN172 rfl) (ev_hit hN172 rfl) ?_
           refine op_pick_f (ev_hit hN172 rfl) (ev_hit hN172 rfl) ?_
           refine reg_nil ?_
           refine ⟨rfl, ?_⟩
           refine hK171 _ _ ?_
           refine wp_cond_split (ev_hit hN172 rfl) (fun c126 => ?_) (fun c126 => ?_)
           · -- 126T
            rw [decide_eq_false c14] at c126; exact absurd c126 (by decide)
           · -- 126F
            refine wp_skip ?_
            refine hK170 _ _ ?_
            refine seq_any fun K182 hK182 => ?_
            refine one_reg ?_
            refine op_move (ev_base hN172 rfl s172_14) ?_
            refine reg_nil ?_
            refine hK182 _ _ ?_
            refine wp_cond_false (ev_hit hN172 rfl) ?_
            refine wp_skip ?_
            refine hK37 _ _ ?_
            refine one_reg ?_
            refine op_move (ev_base hN172 rfl s172_9) ?_
            refine op_add (ev_hit hN172 rfl) rfl (add64 (by omega)) ?_
            refine op_assign (ev_hit hN172 rfl) ?_
            refine reg_nil ?_
            -- round 19F 23F 39T 55F 69F 80T 88T 14F 103F 126F
            exact loop_next _ hN172 hd172 ⟨(i + 1), doneS (sayS S ((((bl.getD i 0).toNat % 3) : Nat) : Int) ([(UInt8.ofNat (97 + ((bl.getD i 0).toNat % 3))), (UInt8.ofNat (A.getD ((bl.getD i 0).toNat % 3) 0))])) ((((dl.getD i 0).toNat % 4) : Nat) : Int), (A.set ((bl.getD i 0).toNat % 3) (A.getD ((bl.getD i 0).toNat % 3) 0 + 1)), B, F173, rfl, (sl_base hN172 rfl s172_0), (sl_base hN172 rfl s172_1), (sl_base hN172 rfl s172_5), (sl_base hN172 rfl s172_7), (sl_base hN172 rfl s172_8), (sl_hit hN172 rfl).trans (congrArg (Value.int .i64) (by omega)), (by omega), ((hok.say ((((bl.getD i 0).toNat % 3) : Nat) : Int) ([(UInt8.ofNat (97 + ((bl.getD i 0).toNat % 3))), (UInt8.ofNat (A.getD ((bl.getD i 0).toNat % 3) 0))])).done ((((dl.getD i 0).toNat % 4) : Nat) : Int)), (hP2.none ht3 hl2), dj181, dj179, hb, (by omega), h0, h1, hk173, hA, hB⟩ (by omega)
       · -- 88F
        refine reg_nil ?_
        refine hK139 _ _ ?_
        refine wp_cond_false (ev_hit hN34 rfl) ?_
        refine wp_skip ?_
        refine hK37 _ _ ?_
        refine one_reg ?_
        refine op_move (ev_base hN34 rfl s34_9) ?_
        refine op_add (ev_hit hN34 rfl) rfl (add64 (by omega)) ?_
        refine op_assign (ev_hit hN34 rfl) ?_
        refine reg_nil ?_
        -- round 19F 23F 39T 55F 69F 80T 88F
        exact loop_next _ hN34 hd34 ⟨(i + 1), sayS S ((((bl.getD i 0).toNat % 3) : Nat) : Int) ([(UInt8.ofNat (97 + ((bl.getD i 0).toNat % 3))), (UInt8.ofNat (A.getD ((bl.getD i 0).toNat % 3) 0))]), (A.set ((bl.getD i 0).toNat % 3) (A.getD ((bl.getD i 0).toNat % 3) 0 + 1)), B, F121, rfl, (sl_base hN34 rfl s34_0), (sl_base hN34 rfl s34_1), (sl_base hN34 rfl s34_5), (sl_base hN34 rfl s34_7), (sl_base hN34 rfl s34_8), (sl_hit hN34 rfl).trans (congrArg (Value.int .i64) (by omega)), (by omega), (hok.say ((((bl.getD i 0).toNat % 3) : Nat) : Int) ([(UInt8.ofNat (97 + ((bl.getD i 0).toNat % 3))), (UInt8.ofNat (A.getD ((bl.getD i 0).toNat % 3) 0))])), (hP.say hs3 (by omega)), dj127, dj128, hb, (by omega), h0, h1, hk121, hA, hB⟩ (by omega)
      · -- 80F
       refine reg_nil ?_
       refine hK134 _ _ ?_
       refine wp_cond_false (ev_hit hN34 rfl) ?_
       refine wp_skip ?_
       refine hK37 _ _ ?_
       refine one_reg ?_
       refine op_move (ev_base hN34 rfl s34_9) ?_
       refine op_add (ev_hit hN34 rfl) rfl (add64 (by omega)) ?_
       refine op_assign (ev_hit hN34 rfl) ?_
       refine reg_nil ?_
       -- round 19F 23F 39T 55F 69F 80F
       exact loop_next _ hN34 hd34 ⟨(i + 1), sayS S ((((bl.getD i 0).toNat % 3) : Nat) : Int) ([(UInt8.ofNat (97 + ((bl.getD i 0).toNat % 3))), (UInt8.ofNat (A.getD ((bl.getD i 0).toNat % 3) 0))]), (A.set ((bl.getD i 0).toNat % 3) (A.getD ((bl.getD i 0).toNat % 3) 0 + 1)), B, F121, rfl, (sl_base hN34 rfl s34_0), (sl_base hN34 rfl s34_1), (sl_base hN34 rfl s34_5), (sl_base hN34 rfl s34_7), (sl_base hN34 rfl s34_8), (sl_hit hN34 rfl).trans (congrArg (Value.int .i64) (by omega)), (by omega), (hok.say ((((bl.getD i 0).toNat % 3) : Nat) : Int) ([(UInt8.ofNat (97 + ((bl.getD i 0).toNat % 3))), (UInt8.ofNat (A.getD ((bl.getD i 0).toNat % 3) 0))])), (hP.say hs3 (by omega)), dj127, dj128, hb, (by omega), h0, h1, hk121, hA, hB⟩ (by omega)
   · -- 39F
    refine reg_nil ?_
    refine hK36 _ _ ?_
    refine wp_cond_false (ev_hit hN34 rfl) ?_
    refine wp_exit (then_exit (then_exit (blk_hit ?_)))
    refine hK32 _ _ ?_
    refine seq_any fun K183 hK183 => ?_
    have hA3 := hP.2.1
    have hB3 := hP.2.2.1
    have q0 : (atS S 0).texts.length = A.getD 0 0 - B.getD 0 0 := hP.len (t := 0) (by decide)
    have p0 := hP.le (t := 0) (by decide)
    have q1 : (atS S 1).texts.length = A.getD 1 0 - B.getD 1 0 := hP.len (t := 1) (by decide)
    have p1 := hP.le (t := 1) (by decide)
    have q2 : (atS S 2).texts.length = A.getD 2 0 - B.getD 2 0 := hP.len (t := 2) (by decide)
    have p2 := hP.le (t := 2) (by decide)
    by_cases g140 : (((atS S 0).texts.length : Nat) : Int) = ((((A.getD 0 0) : Nat) : Int) - (((B.getD 0 0) : Nat) : Int))
    · -- 140T
     by_cases g149 : (((atS S 1).texts.length : Nat) : Int) = ((((A.getD 1 0) : Nat) : Int) - (((B.getD 1 0) : Nat) : Int))
     · -- 149T
      refine reg_split (hd := [_, _, _, _, _, _, _, _, _, _, _, _, _, _, _, _, _, _, _, _, _, _, _, _, _, _]) (tl := _) 26 mixed (by kernel_rfl) rfl rfl ?_
      refine any_quiet (Φ := phiL [(fun uz _ => uz = (ptr k15 0)), (fun uz _ => uz = (Value.int .i64 (((atS S 0).texts.length : Nat) : Int))), (fun uz _ => uz = (ptr b23 0)), (fun uz _ => uz = (Value.int .i64 (((A.getD 0 0) : Nat) : Int))), (fun uz _ => uz = (ptr b28 0)), (fun uz _ => uz = (Value.int .i64 (((B.getD 0 0) : Nat) : Int))), (fun uz _ => uz = (Value.int .i64 ((((A.getD 0 0) : Nat) : Int) - (((B.getD 0 0) : Nat) : Int)))), (fun uz _ => uz = (Value.bool true)), (fun uz _ => uz = (Value.bool true)), (fun uz _ => uz = (ptr k15 0)), (fun uz _ => uz = (Value.int .i64 (((atS S 1).texts.length : Nat) : Int))), (fun uz _ => uz = (ptr b23 1)), (fun uz _ => uz = (Value.int .i64 (((A.getD 1 0) : Nat) : Int))), (fun uz _ => uz = (ptr b28 1)), (fun uz _ => uz = (Value.int .i64 (((B.getD 1 0) : Nat) : Int))), (fun uz _ => uz = (Value.int .i64 ((((A.getD 1 0) : Nat) : Int) - (((B.getD 1 0) : Nat) : Int)))), (fun uz _ => uz = (Value.bool true)), (fun uz _ => uz = (Value.bool true)), (fun uz _ => uz = (Value.bool true)), (fun uz _ => uz = (ptr k15 0)), (fun uz _ => uz = (Value.int .i64 (((atS S 2).texts.length : Nat) : Int))), (fun uz _ => uz = (ptr b23 2)), (fun uz _ => uz = (Value.int .i64 (((A.getD 2 0) : Nat) : Int))), (fun uz _ => uz = (ptr b28 2)), (fun uz _ => uz = (Value.int .i64 (((B.getD 2 0) : Nat) : Int))), (fun uz _ => uz = (Value.int .i64 ((((A.getD 2 0) : Nat) : Int) - (((B.getD 2 0) : Nat) : Int))))]) (by kernel_rfl) (by kernel_rfl) (by kernel_rfl) hN34 (StL.get (StL.eq (StL.eq (StL.eq (StL.eq (StL.eq (StL.eq (StL.eq (StL.eq (StL.eq (StL.eq (StL.eq (StL.eq (StL.eq (StL.eq (StL.eq (StL.eq (StL.eq (StL.eq (StL.eq (StL.eq (StL.eq (StL.eq (StL.eq (StL.eq (StL.eq (StL.eq (StL.nil _)))))))))))))))))))))))))))) (ObL.get (s := 26) (ObL.cons ?_ (ObL.cons ?_ (ObL.cons ?_ (ObL.cons ?_ (ObL.cons ?_ (ObL.cons ?_ (ObL.cons ?_ (ObL.cons ?_ (ObL.cons ?_ (ObL.cons ?_ (ObL.cons ?_ (ObL.cons ?_ (ObL.cons ?_ (ObL.cons ?_ (ObL.cons ?_ (ObL.cons ?_ (ObL.cons ?_ (ObL.cons ?_ (ObL.cons ?_ (ObL.cons ?_ (ObL.cons ?_ (ObL.cons ?_ (ObL.cons ?_ (ObL.cons ?_ (ObL.cons ?_ (ObL.cons ?_ (ObL.nil))))))))))))))))))))))))))) rfl) ?_
      ·
       intro aA wA hNA hRA hbsA hdpA
       have qA_5 := (hbsA 5 rfl).trans (sl_base hN34 rfl s34_5)
       refine op_move (ev_base hNA rfl qA_5) ?_
       exact obN_end rfl rfl (grown_refl _ _)
      ·
       intro aA wA hNA hRA hbsA hdpA
       have hRA : w34.grownBy wA none := hRA
       have z_wA := hRA.size
       have h0 := h0.keep0 hRA
       have h1 := h1.keep0 hRA
       have hK := hK.keepG (Gr.of0 hRA NoB) (fun _ _ h => h)
       have hA := hA.keep0 hRA
       have hB := hB.keep0 hRA
       have hb := below_step0 hb hRA hb.size
       have qA_133 : Sl aA 133 (ptr k15 0) := hdpA 0 _ 133 (by kernel_rfl) rfl rfl
       clear hbsA hdpA
       refine op_fn (vs := [(ptr k15 0), (Value.int .i64 0)]) ok39 ⟨(ev_base hNA rfl qA_133), ⟨rfl, trivial⟩⟩ (WaitR 0 (by omega) hok.1 hK) ?_
       rintro _ w184 ⟨E185, rfl⟩
       have E185 := grown_of_below E185
       have z_w184 := E185.size
       have h0 := h0.keep0 E185
       have h1 := h1.keep0 E185
       have hK := hK.keepG (Gr.of0 E185 NoB) (fun _ _ h => h)
       have hA := hA.keep0 E185
       have hB := hB.keep0 E185
       have hb := below_step0 hb E185 hb.size
       exact obN_end rfl rfl (E185)
      ·
       intro aA wA hNA hRA hbsA hdpA
       have hRA : w34.grownBy wA none := hRA
       have z_wA := hRA.size
       have h0 := h0.keep0 hRA
       have h1 := h1.keep0 hRA
       have hK := hK.keepG (Gr.of0 hRA NoB) (fun _ _ h => h)
       have hA := hA.keep0 hRA
       have hB := hB.keep0 hRA
       have hb := below_step0 hb hRA hb.size
       have qA_7 := (hbsA 7 rfl).trans (sl_base hN34 rfl s34_7)
       clear hbsA hdpA
       refine op_index_arr1 (j := 0) arr78 (ev_base hNA rfl qA_7) rfl rfl (by decide) ?_
       exact obN_end rfl rfl (grown_refl _ _)
      ·
       intro aA wA hNA hRA hbsA hdpA
       have hRA : w34.grownBy wA none := hRA
       have z_wA := hRA.size
       have h0 := h0.keep0 hRA
       have h1 := h1.keep0 hRA
       have hK := hK.keepG (Gr.of0 hRA NoB) (fun _ _ h => h)
       have hA := hA.keep0 hRA
       have hB := hB.keep0 hRA
       have hb := below_step0 hb hRA hb.size
       have qA_135 : Sl aA 135 (ptr b23 0) := hdpA 2 _ 135 (by kernel_rfl) rfl rfl
       clear hbsA hdpA
       refine op_load1 (v := (Value.int .i64 (((A.getD 0 0) : Nat) : Int))) one3 (ev_base hNA rfl qA_135) (hA.cell (row_at (d := 0) (by omega))) ?_
       exact obN_end rfl rfl (grown_refl _ _)
      ·
       intro aA wA hNA hRA hbsA hdpA
       have hRA : w34.grownBy wA none := hRA
       have z_wA := hRA.size
       have h0 := h0.keep0 hRA
       have h1 := h1.keep0 hRA
       have hK := hK.keepG (Gr.of0 hRA NoB) (fun _ _ h => h)
       have hA := hA.keep0 hRA
       have hB := hB.keep0 hRA
       have hb := below_step0 hb hRA hb.size
       have qA_8 := (hbsA 8 rfl).trans (sl_base hN34 rfl s34_8)
       clear hbsA hdpA
       refine op_index_arr1 (j := 0) arr78 (ev_base hNA rfl qA_8) rfl rfl (by decide) ?_
       exact obN_end rfl rfl (grown_refl _ _)
      ·
       intro aA wA hNA hRA hbsA hdpA
       have hRA : w34.grownBy wA none := hRA
       have z_wA := hRA.size
       have h0 := h0.keep0 hRA
       have h1 := h1.keep0 hRA
       have hK := hK.keepG (Gr.of0 hRA NoB) (fun _ _ h => h)
       have hA := hA.keep0 hRA
       have hB := hB.keep0 hRA
       have hb := below_step0 hb hRA hb.size
       have qA_137 : Sl aA 137 (ptr b28 0) := hdpA 4 _ 137 (by kernel_rfl) rfl rfl
       clear hbsA hdpA
       refine op_load1 (v := (Value.int .i64 (((B.getD 0 0) : Nat) : Int))) one3 (ev_base hNA rfl qA_137) (hB.cell (row_at (d := 0) (by omega))) ?_
       exact obN_end rfl rfl (grown_refl _ _)
      ·
       intro aA wA hNA hRA hbsA hdpA
       have qA_136 : Sl aA 136 (Value.int .i64 (((A.getD 0 0) : Nat) : Int)) := hdpA 3 _ 136 (by kernel_rfl) rfl rfl
       have qA_138 : Sl aA 138 (Value.int .i64 (((B.getD 0 0) : Nat) : Int)) := hdpA 5 _ 138 (by kernel_rfl) rfl rfl
       refine op_sub (ev_base hNA rfl qA_136) (ev_base hNA rfl qA_138) (sub64 (by omega)) ?_
       exact obN_end rfl rfl (grown_refl _ _)
      ·
       intro aA wA hNA hRA hbsA hdpA
       have qA_134 : Sl aA 134 (Value.int .i64 (((atS S 0).texts.length : Nat) : Int)) := hdpA 1 _ 134 (by kernel_rfl) rfl rfl
       have qA_139 : Sl aA 139 (Value.int .i64 ((((A.getD 0 0) : Nat) : Int) - (((B.getD 0 0) : Nat) : Int))) := hdpA 6 _ 139 (by kernel_rfl) rfl rfl
       refine op_cmp (b := true) (ev_base hNA rfl qA_134) (ev_base hNA rfl qA_139) (b_eql (decide_eq_true g140)) ?_
       exact obN_end rfl rfl (grown_refl _ _)
      ·
       intro aA wA hNA hRA hbsA hdpA
       have qA_140 : Sl aA 140 (Value.bool true) := hdpA 7 _ 140 (by kernel_rfl) rfl rfl
       refine op_move (ev_base hNA rfl qA_140) ?_
       exact obN_end rfl rfl (grown_refl _ _)
      ·
       intro aA wA hNA hRA hbsA hdpA
       have qA_5 := (hbsA 5 rfl).trans (sl_base hN34 rfl s34_5)
       have qA_141 : Sl aA 141 (Value.bool true) := hdpA 8 _ 141 (by kernel_rfl) rfl rfl
       refine g_true (j := 8) (dj := 141) (b := true) rfl rfl rfl (ev_base hNA rfl qA_141) ?_
       refine op_move (ev_base hNA rfl qA_5) ?_
       exact obN_end rfl rfl (grown_refl _ _)
      ·
       intro aA wA hNA hRA hbsA hdpA
       have hRA : w34.grownBy wA none := hRA
       have z_wA := hRA.size
       have h0 := h0.keep0 hRA
       have h1 := h1.keep0 hRA
       have hK := hK.keepG (Gr.of0 hRA NoB) (fun _ _ h => h)
       have hA := hA.keep0 hRA
       have hB := hB.keep0 hRA
       have hb := below_step0 hb hRA hb.size
       have qA_142 : Sl aA 142 (ptr k15 0) := hdpA 9 _ 142 (by kernel_rfl) rfl rfl
       have qA_141 : Sl aA 141 (Value.bool true) := hdpA 8 _ 141 (by kernel_rfl) rfl rfl
       clear hbsA hdpA
       refine g_true (j := 8) (dj := 141) (b := true) rfl rfl rfl (ev_base hNA rfl qA_141) ?_
       refine op_fn (vs := [(ptr k15 0), (Value.int .i64 1)]) ok39 ⟨(ev_base hNA rfl qA_142), ⟨rfl, trivial⟩⟩ (WaitR 1 (by omega) hok.1 hK) ?_
       rintro _ w186 ⟨E187, rfl⟩
       have E187 := grown_of_below E187
       have z_w186 := E187.size
       have h0 := h0.keep0 E187
       have h1 := h1.keep0 E187
       have hK := hK.keepG (Gr.of0 E187 NoB) (fun _ _ h => h)
       have hA := hA.keep0 E187
       have hB := hB.keep0 E187
       have hb := below_step0 hb E187 hb.size
       exact obN_end rfl rfl (E187)
      ·
       intro aA wA hNA hRA hbsA hdpA
       have hRA : w34.grownBy wA none := hRA
       have z_wA := hRA.size
       have h0 := h0.keep0 hRA
       have h1 := h1.keep0 hRA
       have hK := hK.keepG (Gr.of0 hRA NoB) (fun _ _ h => h)
       have hA := hA.keep0 hRA
       have hB := hB.keep0 hRA
       have hb := below_step0 hb hRA hb.size
       have qA_7 := (hbsA 7 rfl).trans (sl_base hN34 rfl s34_7)
       have qA_141 : Sl aA 141 (Value.bool true) := hdpA 8 _ 141 (by kernel_rfl) rfl rfl
       clear hbsA hdpA
       refine g_true (j := 8) (dj := 141) (b := true) rfl rfl rfl (ev_base hNA rfl qA_141) ?_
       refine op_index_arr1 (j := 1) arr78 (ev_base hNA rfl qA_7) rfl rfl (by decide) ?_
       exact obN_end rfl rfl (grown_refl _ _)
      ·
       intro aA wA hNA hRA hbsA hdpA
       have hRA : w34.grownBy wA none := hRA
       have z_wA := hRA.size
       have h0 := h0.keep0 hRA
       have h1 := h1.keep0 hRA
       have hK := hK.keepG (Gr.of0 hRA NoB) (fun _ _ h => h)
       have hA := hA.keep0 hRA
       have hB := hB.keep0 hRA
       have hb := below_step0 hb hRA hb.size
       have qA_144 : Sl aA 144 (ptr b23 1) := hdpA 11 _ 144 (by kernel_rfl) rfl rfl
       have qA_141 : Sl aA 141 (Value.bool true) := hdpA 8 _ 141 (by kernel_rfl) rfl rfl
       clear hbsA hdpA
       refine g_true (j := 8) (dj := 141) (b := true) rfl rfl rfl (ev_base hNA rfl qA_141) ?_
       refine op_load1 (v := (Value.int .i64 (((A.getD 1 0) : Nat) : Int))) one3 (ev_base hNA rfl qA_144) (hA.cell (row_at (d := 0) (by omega))) ?_
       exact obN_end rfl rfl (grown_refl _ _)
      ·
       intro aA wA hNA hRA hbsA hdpA
       have hRA : w34.grownBy wA none := hRA
       have z_wA := hRA.size
       have h0 := h0.keep0 hRA
       have h1 := h1.keep0 hRA
       have hK := hK.keepG (Gr.of0 hRA NoB) (fun _ _ h => h)
       have hA := hA.keep0 hRA
       have hB := hB.keep0 hRA
       have hb := below_step0 hb hRA hb.size
       have qA_8 := (hbsA 8 rfl).trans (sl_base hN34 rfl s34_8)
       have qA_141 : Sl aA 141 (Value.bool true) := hdpA 8 _ 141 (by kernel_rfl) rfl rfl
       clear hbsA hdpA
       refine g_true (j := 8) (dj := 141) (b := true) rfl rfl rfl (ev_base hNA rfl qA_141) ?_
       refine op_index_arr1 (j := 1) arr78 (ev_base hNA rfl qA_8) rfl rfl (by decide) ?_
       exact obN_end rfl rfl (grown_refl _ _)
      ·
       intro aA wA hNA hRA hbsA hdpA
       have hRA : w34.grownBy wA none := hRA
       have z_wA := hRA.size
       have h0 := h0.keep0 hRA
       have h1 := h1.keep0 hRA
       have hK := hK.keepG (Gr.of0 hRA NoB) (fun _ _ h => h)
       have hA := hA.keep0 hRA
       have hB := hB.keep0 hRA
       have hb := below_step0 hb hRA hb.size
       have qA_146 : Sl aA 146 (ptr b28 1) := hdpA 13 _ 146 (by kernel_rfl) rfl rfl
       have qA_141 : Sl aA 141 (Value.bool true) := hdpA 8 _ 141 (by kernel_rfl) rfl rfl
       clear hbsA hdpA
       refine g_true (j := 8) (dj := 141) (b := true) rfl rfl rfl (ev_base hNA rfl qA_141) ?_
       refine op_load1 (v := (Value.int .i64 (((B.getD 1 0) : Nat) : Int))) one3 (ev_base hNA rfl qA_146) (hB.cell (row_at (d := 0) (by omega))) ?_
       exact obN_end rfl rfl (grown_refl _ _)
      ·
       intro aA wA hNA hRA hbsA hdpA
       have qA_145 : Sl aA 145 (Value.int .i64 (((A.getD 1 0) : Nat) : Int)) := hdpA 12 _ 145 (by kernel_rfl) rfl rfl
       have qA_147 : Sl aA 147 (Value.int .i64 (((B.getD 1 0) : Nat) : Int)) := hdpA 14 _ 147 (by kernel_rfl) rfl rfl
       have qA_141 : Sl aA 141 (Value.bool true) := hdpA 8 _ 141 (by kernel_rfl) rfl rfl
       refine g_true (j := 8) (dj := 141) (b := true) rfl rfl rfl (ev_base hNA rfl qA_141) ?_
       refine op_sub (ev_base hNA rfl qA_145) (ev_base hNA rfl qA_147) (sub64 (by omega)) ?_
       exact obN_end rfl rfl (grown_refl _ _)
      ·
       intro aA wA hNA hRA hbsA hdpA
       have qA_143 : Sl aA 143 (Value.int .i64 (((atS S 1).texts.length : Nat) : Int)) := hdpA 10 _ 143 (by kernel_rfl) rfl rfl
       have qA_148 : Sl aA 148 (Value.int .i64 ((((A.getD 1 0) : Nat) : Int) - (((B.getD 1 0) : Nat) : Int))) := hdpA 15 _ 148 (by kernel_rfl) rfl rfl
       have qA_141 : Sl aA 141 (Value.bool true) := hdpA 8 _ 141 (by kernel_rfl) rfl rfl
       refine g_true (j := 8) (dj := 141) (b := true) rfl rfl rfl (ev_base hNA rfl qA_141) ?_
       refine op_cmp (b := true) (ev_base hNA rfl qA_143) (ev_base hNA rfl qA_148) (b_eql (decide_eq_true g149)) ?_
       exact obN_end rfl rfl (grown_refl _ _)
      ·
       intro aA wA hNA hRA hbsA hdpA
       have qA_141 : Sl aA 141 (Value.bool true) := hdpA 8 _ 141 (by kernel_rfl) rfl rfl
       have qA_149 : Sl aA 149 (Value.bool true) := hdpA 16 _ 149 (by kernel_rfl) rfl rfl
       refine op_pick_t (ev_base hNA rfl qA_141) (ev_base hNA rfl qA_149) ?_
       exact obN_end rfl rfl (grown_refl _ _)
      ·
       intro aA wA hNA hRA hbsA hdpA
       have qA_150 : Sl aA 150 (Value.bool true) := hdpA 17 _ 150 (by kernel_rfl) rfl rfl
       refine op_move (ev_base hNA rfl qA_150) ?_
       exact obN_end rfl rfl (grown_refl _ _)
      ·
       intro aA wA hNA hRA hbsA hdpA
       have qA_5 := (hbsA 5 rfl).trans (sl_base hN34 rfl s34_5)
       have qA_151 : Sl aA 151 (Value.bool true) := hdpA 18 _ 151 (by kernel_rfl) rfl rfl
       refine g_true (j := 18) (dj := 151) (b := true) rfl rfl rfl (ev_base hNA rfl qA_151) ?_
       refine op_move (ev_base hNA rfl qA_5) ?_
       exact obN_end rfl rfl (grown_refl _ _)
      ·
       intro aA wA hNA hRA hbsA hdpA
       have hRA : w34.grownBy wA none := hRA
       have z_wA := hRA.size
       have h0 := h0.keep0 hRA
       have h1 := h1.keep0 hRA
       have hK := hK.keepG (Gr.of0 hRA NoB) (fun _ _ h => h)
       have hA := hA.keep0 hRA
       have hB := hB.keep0 hRA
       have hb := below_step0 hb hRA hb.size
       have qA_152 : Sl aA 152 (ptr k15 0) := hdpA 19 _ 152 (by kernel_rfl) rfl rfl
       have qA_151 : Sl aA 151 (Value.bool true) := hdpA 18 _ 151 (by kernel_rfl) rfl rfl
       clear hbsA hdpA
       refine g_true (j := 18) (dj := 151) (b := true) rfl rfl rfl (ev_base hNA rfl qA_151) ?_
       refine op_fn (vs := [(ptr k15 0), (Value.int .i64 2)]) ok39 ⟨(ev_base hNA rfl qA_152), ⟨rfl, trivial⟩⟩ (WaitR 2 (by omega) hok.1 hK) ?_
       rintro _ w188 ⟨E189, rfl⟩
       have E189 := grown_of_below E189
       have z_w188 := E189.size
       have h0 := h0.keep0 E189
       have h1 := h1.keep0 E189
       have hK := hK.keepG (Gr.of0 E189 NoB) (fun _ _ h => h)
       have hA := hA.keep0 E189
       have hB := hB.keep0 E189
       have hb := below_step0 hb E189 hb.size
       exact obN_end rfl rfl (E189)
      ·
       intro aA wA hNA hRA hbsA hdpA
       have hRA : w34.grownBy wA none := hRA
       have z_wA := hRA.size
       have h0 := h0.keep0 hRA
       have h1 := h1.keep0 hRA
       have hK := hK.keepG (Gr.of0 hRA NoB) (fun _ _ h => h)
       have hA := hA.keep0 hRA
       have hB := hB.keep0 hRA
       have hb := below_step0 hb hRA hb.size
       have qA_7 := (hbsA 7 rfl).trans (sl_base hN34 rfl s34_7)
       have qA_151 : Sl aA 151 (Value.bool true) := hdpA 18 _ 151 (by kernel_rfl) rfl rfl
       clear hbsA hdpA
       refine g_true (j := 18) (dj := 151) (b := true) rfl rfl rfl (ev_base hNA rfl qA_151) ?_
       refine op_index_arr1 (j := 2) arr78 (ev_base hNA rfl qA_7) rfl rfl (by decide) ?_
       exact obN_end rfl rfl (grown_refl _ _)
      ·
       intro aA wA hNA hRA hbsA hdpA
       have hRA : w34.grownBy wA none := hRA
       have z_wA := hRA.size
       have h0 := h0.keep0 hRA
       have h1 := h1.keep0 hRA
       have hK := hK.keepG (Gr.of0 hRA NoB) (fun _ _ h => h)
       have hA := hA.keep0 hRA
       have hB := hB.keep0 hRA
       have hb := below_step0 hb hRA hb.size
       have qA_154 : Sl aA 154 (ptr b23 2) := hdpA 21 _ 154 (by kernel_rfl) rfl rfl
       have qA_151 : Sl aA 151 (Value.bool true) := hdpA 18 _ 151 (by kernel_rfl) rfl rfl
       clear hbsA hdpA
       refine g_true (j := 18) (dj := 151) (b := true) rfl rfl rfl (ev_base hNA rfl qA_151) ?_
       refine op_load1 (v := (Value.int .i64 (((A.getD 2 0) : Nat) : Int))) one3 (ev_base hNA rfl qA_154) (hA.cell (row_at (d := 0) (by omega))) ?_
       exact obN_end rfl rfl (grown_refl _ _)
      ·
       intro aA wA hNA hRA hbsA hdpA
       have hRA : w34.grownBy wA none := hRA
       have z_wA := hRA.size
       have h0 := h0.keep0 hRA
       have h1 := h1.keep0 hRA
       have hK := hK.keepG (Gr.of0 hRA NoB) (fun _ _ h => h)
       have hA := hA.keep0 hRA
       have hB := hB.keep0 hRA
       have hb := below_step0 hb hRA hb.size
       have qA_8 := (hbsA 8 rfl).trans (sl_base hN34 rfl s34_8)
       have qA_151 : Sl aA 151 (Value.bool true) := hdpA 18 _ 151 (by kernel_rfl) rfl rfl
       clear hbsA hdpA
       refine g_true (j := 18) (dj := 151) (b := true) rfl rfl rfl (ev_base hNA rfl qA_151) ?_
       refine op_index_arr1 (j := 2) arr78 (ev_base hNA rfl qA_8) rfl rfl (by decide) ?_
       exact obN_end rfl rfl (grown_refl _ _)
      ·
       intro aA wA hNA hRA hbsA hdpA
       have hRA : w34.grownBy wA none := hRA
       have z_wA := hRA.size
       have h0 := h0.keep0 hRA
       have h1 := h1.keep0 hRA
       have hK := hK.keepG (Gr.of0 hRA NoB) (fun _ _ h => h)
       have hA := hA.keep0 hRA
       have hB := hB.keep0 hRA
       have hb := below_step0 hb hRA hb.size
       have qA_156 : Sl aA 156 (ptr b28 2) := hdpA 23 _ 156 (by kernel_rfl) rfl rfl
       have qA_151 : Sl aA 151 (Value.bool true) := hdpA 18 _ 151 (by kernel_rfl) rfl rfl
       clear hbsA hdpA
       refine g_true (j := 18) (dj := 151) (b := true) rfl rfl rfl (ev_base hNA rfl qA_151) ?_
       refine op_load1 (v := (Value.int .i64 (((B.getD 2 0) : Nat) : Int))) one3 (ev_base hNA rfl qA_156) (hB.cell (row_at (d := 0) (by omega))) ?_
       exact obN_end rfl rfl (grown_refl _ _)
      ·
       intro aA wA hNA hRA hbsA hdpA
       have qA_155 : Sl aA 155 (Value.int .i64 (((A.getD 2 0) : Nat) : Int)) := hdpA 22 _ 155 (by kernel_rfl) rfl rfl
       have qA_157 : Sl aA 157 (Value.int .i64 (((B.getD 2 0) : Nat) : Int)) := hdpA 24 _ 157 (by kernel_rfl) rfl rfl
       have qA_151 : Sl aA 151 (Value.bool true) := hdpA 18 _ 151 (by kernel_rfl) rfl rfl
       refine g_true (j := 18) (dj := 151) (b := true) rfl rfl rfl (ev_base hNA rfl qA_151) ?_
       refine op_sub (ev_base hNA rfl qA_155) (ev_base hNA rfl qA_157) (sub64 (by omega)) ?_
       exact obN_end rfl rfl (grown_refl _ _)
      ·
       intro a190 w190 hN190 hd190 hbs190 hph190 E190
       have hd190 := hd190.trans hd34
       have s190_151 : Sl a190 151 (Value.bool true) := hph190 18 _ 151 rfl rfl
       have s190_153 : Sl a190 153 (Value.int .i64 (((atS S 2).texts.length : Nat) : Int)) := hph190 20 _ 153 rfl rfl
       have s190_158 : Sl a190 158 (Value.int .i64 ((((A.getD 2 0) : Nat) : Int) - (((B.getD 2 0) : Nat) : Int))) := hph190 25 _ 158 rfl rfl
       clear hbs190 hph190
       have E190 : w34.grownBy w190 none := E190
       have z_w190 := E190.size
       have h0 := h0.keep0 E190
       have h1 := h1.keep0 E190
       have hK := hK.keepG (Gr.of0 E190 NoB) (fun _ _ h => h)
       have hA := hA.keep0 E190
       have hB := hB.keep0 E190
       have hb := below_step0 hb E190 hb.size
       refine split_end ?_
       refine from_seq (tl := [_, _, _]) (by decide) (by kernel_rfl) rfl ?_
       refine g_true (j := 18) (dj := 151) (b := true) rfl rfl rfl (ev_base hN190 rfl s190_151) ?_
       refine op_eql (ev_base hN190 rfl s190_153) (ev_base hN190 rfl s190_158) (fun c159 => ?_) (fun c159 => ?_)
       · -- 159T
        refine op_pick_t (ev_base hN190 rfl s190_151) (ev_hit hN190 rfl) ?_
        refine op_assign (ev_hit hN190 rfl) ?_
        refine reg_nil ?_
        refine hK183 _ _ ?_
        refine wp_ret ?_
        refine ret1 rfl hd190 (ev_hit hN190 rfl) ⟨_, rfl, ?_⟩
        -- path 19F 23F 39F 140T 149T 159T
        exact ⟨hb, rfl⟩
       · -- 159F
        exfalso; omega
     · -- 149F
      exfalso; omega
    · -- 140F
     exfalso; omega

end Go.Proofs.Ytmhdbphpmgjpcaa

/- What the arguments of the laws are, told by their types. -/
namespace Go.Proofs.Ytmhdbphpmgjpcaa
open Go.Gx Go.RowKit
theorem rd_le {w : World} {L B sz n : Nat} {v : Value} {cs : List Value} (h : RdC w L B sz v n cs) : n ≤ 9223372036854775807 := by obtain ⟨_, _, _, _, hq, hm, _⟩ := h; exact Nat.le_trans hq hm
theorem cells5 : Try.prog.cellsOf 5 = 1 := by kernel_rfl
theorem flat_u8v (l : List UInt8) : l.flatMap (fun c => [u8v c]) = l.map u8v := by induction l with | nil => rfl | cons c l ih => simp [ih]
theorem dec22 {H : Type} {enc : TypeId × Value → H} {w : World} {base : Nat} {spare : Nat → Bool} {held : Bool} : Dec enc Try.prog w base spare held 22 (fun p : Value × List UInt8 => [p.1]) (fun p => RdC w 0 w.heap.size 1 p.1 p.2.length (p.2.map u8v)) :=
  (Dec.slice Try.underlying22 (by rw [cells5]; decide) (Dec.u8 Try.underlying5) (fun _ _ => by rw [cells5]; rfl)).map fun p hp => ⟨p, rfl, by have hq := hp.1; rwa [cells5, flat_u8v] at hq⟩
end Go.Proofs.Ytmhdbphpmgjpcaa
