/- Walks, written by a program: what each function of the translation hands back. -/
import Derived.Lib.Bytealg
import Derived.Lib.UnsafeStr
import Derived.Test.YthflnkfghogaoaaProg
import Derived.KernelRfl
import Derived.Test.YthflnkfghogaoaaB4
set_option linter.unusedVariables false
set_option linter.unusedSimpArgs false

namespace Go.Proofs.Ythflnkfghogaoaa
open Go.Gx Go.RowKit
attribute [local irreducible] wpList wpStill Code.wp Calls

theorem pcol_ret {base p n Bp : Nat} {lv : Value} {bl : List UInt8} {C : List PItm} {K : List Int} {vc vk : Value} {Lc Bc : Nat} {k : Int} {w : World} (hpk : PickR w base p lv bl n (fun k => k = p)) (hBp : Bp ≤ p) (hbl : RdC w 0 Bp 1 lv bl.length (bl.map u8v)) (hC : RdC w Lc Bc 3 vc C.length (C.flatMap cellsI)) (hK : RdC w Lc Bc 1 vk K.length (K.map (Value.int .i64))) (hBc : Bc ≤ w.heap.size) (hcp : p < Lc ∨ Bc ≤ p) (hcl : C.length ≤ 1000) : Ret Try.prog 54 #[(ptr p 0), vc, vk, (Value.int .i64 k)] w (fun v' w' => Gr w w' (fun k => k = p) ∧ ∃ (e : XE) (b : Bool), v' = .tuple #[(Value.agg #[(Value.int .i64 e.op), (Value.int .i64 e.vk), (Value.int .i64 e.vi), (Value.string (bs e.vt)), (Value.string (bs e.tb)), (Value.string (bs e.nm)), e.av]), .bool b] ∧ XFr w' w.heap.size w'.heap.size e ∧ (b = true → GoodC C K → kindX C K e = (k, 0)) ∧ ∃ n' : Nat, PickR w' base p lv bl n' (fun k => k = p) ∧ n ≤ n') := by
 have hi_p : p < w.heap.size := (hpk.lt p rfl).2
 have hlm := rd_len hC
 have hlk := rd_len hK
 have hb := Gr.refl w (fun k => k = p)
 refine enter (N := 66) Try.func54 rfl rfl (by simp) fun a0 hN hd hA => ?_
 have s0 : a0.tmps.getD 0 undef = (ptr p 0) := hA 0 (by simp)
 have s1 : a0.tmps.getD 1 undef = vc := hA 1 (by simp)
 have s2 : a0.tmps.getD 2 undef = vk := hA 2 (by simp)
 have s3 : a0.tmps.getD 3 undef = (Value.int .i64 k) := hA 3 (by simp)
 clear hA
 refine seq_any fun K1 hK1 => one_reg (op_alloc (cs := [(Value.int .i64 0), (Value.int .i64 0), (Value.int .i64 0), (Value.string (bs [])), (Value.string (bs [])), (Value.string (bs [])), (Value.slice none 0 0)]) zero28 rfl ?_)
 intro w2 b3 lo_b3 hi_b3 hB5 E4
 have dj6 : ¬ (fun k => k = p) b3 := fun hf => by have := (hpk.lt _ hf).2; omega
 have z_w2 := E4.size
 have hpk := hpk.kz E4
 have hbl := hbl.keep0 E4
 have hC := hC.keep0 E4
 have hK := hK.keep0 E4
 have hb := hb.step0 E4
 refine op_assign rfl ?_
 refine reg_nil (hK1 _ _ (seq_any fun K7 hK7 => one_reg (op_assign rfl (reg_nil (hK7 _ _ ?_)))))
 refine seq_any fun K8 hK8 => seq_any fun K9 hK9 => one_reg (op_assign rfl (reg_nil (hK9 _ _ (wp_block ?_))))
 refine loop_m (fun mz_ az_ w' => ∃ (i : Nat) (lv2 : Value), mz_ = C.length - i ∧ (az_.tmps.getD 0 undef = (ptr p 0)) ∧ (az_.tmps.getD 1 undef = vc) ∧ (az_.tmps.getD 2 undef = vk) ∧ (az_.tmps.getD 3 undef = (Value.int .i64 k)) ∧ (az_.tmps.getD 8 undef = (ptr b3 0)) ∧ (az_.tmps.getD 9 undef = (Value.bool false)) ∧ (az_.tmps.getD 11 undef = (Value.int .i64 ((i : Nat) : Int))) ∧ (az_.tmps.getD 10 undef = lv2) ∧ (i ≤ C.length ∧ i ≤ K.length) ∧ ((ofK C K k i).length ≤ i) ∧ (Gr w w' (fun k => k = p)) ∧ (w2.heap.size ≤ w'.heap.size) ∧ (PickR w' base p lv bl n (fun k => k = p)) ∧ (RdC w' 0 Bp 1 lv bl.length (bl.map u8v)) ∧ (RdC w' Lc Bc 3 vc C.length (C.flatMap cellsI)) ∧ (RdC w' Lc Bc 1 vk K.length (K.map (Value.int .i64))) ∧ (Bx w' b3 28 [(Value.int .i64 0), (Value.int .i64 0), (Value.int .i64 0), (Value.string (bs [])), (Value.string (bs [])), (Value.string (bs [])), (Value.slice none 0 0)]) ∧ (Own w' w.heap.size 63 3 lv2 (ofK C K k i).length ((ofK C K k i).flatMap cellsI))) _ hN hd ⟨0, (Value.slice none 0 0), rfl, (sl_base hN rfl s0), (sl_base hN rfl s1), (sl_base hN rfl s2), (sl_base hN rfl s3), (sl_hit hN rfl), (sl_hit hN rfl), (sl_hit hN rfl), (sl_hit hN rfl), ⟨Nat.zero_le _, Nat.zero_le _⟩, (Nat.zero_le _), hb, (Nat.le_refl _), hpk, hbl, hC, hK, hB5, (Own.nil _ _ _ _)⟩ ?_
 rintro _ a10 w10 hN10 hd10 ⟨i, lv2, rfl, s10_0, s10_1, s10_2, s10_3, s10_8, s10_9, s10_11, s10_10, hi, hko, hb, zl_w10, hpk, hbl, hC, hK, hB5, hO11⟩
 have z_w10 := hb.size
 refine seq_any fun K12 hK12 => seq_any fun K13 hK13 => one_reg (op_move (ev_base hN10 rfl s10_11) (op_move (ev_base hN10 rfl s10_1) (op_len_rd Try.underlying22 (ev_hit hN10 rfl) hC ?_)))
 refine op_lss (ev_hit hN10 rfl) (ev_hit hN10 rfl) (fun c17 => ?_) (fun c17 => ?_)
 ·
  refine op_move (ev_hit hN10 rfl) (g_true (j := 4) (dj := 18) (b := true) rfl rfl rfl (ev_hit hN10 rfl) (op_move (ev_base hN10 rfl s10_11) (g_true (j := 4) (dj := 18) (b := true) rfl rfl rfl (ev_hit hN10 rfl) (op_move (ev_base hN10 rfl s10_2) (g_true (j := 4) (dj := 18) (b := true) rfl rfl rfl (ev_hit hN10 rfl) (op_len_rd Try.underlying23 (ev_hit hN10 rfl) hK ?_))))))
  refine g_true (j := 4) (dj := 18) (b := true) rfl rfl rfl (ev_hit hN10 rfl) (op_lss (ev_hit hN10 rfl) (ev_hit hN10 rfl) (fun c22 => ?_) (fun c22 => ?_))
  ·
   refine op_pick_t (ev_hit hN10 rfl) (ev_hit hN10 rfl) ?_
   refine reg_nil (hK13 _ _ (wp_cond_true (ev_hit hN10 rfl) (wp_skip (hK12 _ _ (seq_any fun K14 hK14 => wp_block ?_)))))
   refine seq_any fun K15 hK15 => one_reg (op_move (ev_base hN10 rfl s10_2) (op_move (ev_base hN10 rfl s10_11) (op_index_rd slt23 (ev_hit hN10 rfl) hK (ev_hit hN10 rfl) (by omega) (by omega) ?_)))
   intro b16 o17 h0b16 h1b16 hc18
   refine op_load1 (v := (Value.int .i64 (K.getD i 0))) one3 (ev_hit hN10 rfl) (by have := hc18 0 (Value.int .i64 (K.getD i 0)) (by decide) (el_i64 (i := i) (by omega) (by omega)); simpa using this) (op_move (ev_base hN10 rfl s10_3) (op_eql (ev_hit hN10 rfl) (ev_hit hN10 rfl) (fun c31 => ?_) (fun c31 => ?_)))
   ·
    refine reg_nil ?_
    refine hK15 _ _ (wp_cond_true (ev_hit hN10 rfl) (one_reg (op_move (ev_base hN10 rfl s10_10) (op_move (ev_base hN10 rfl s10_1) (op_move (ev_base hN10 rfl s10_11) (op_index_rd slt22 (ev_hit hN10 rfl) hC (ev_hit hN10 rfl) (by omega) (by omega) ?_))))))
    intro b19 o20 h0b19 h1b19 hc21
    refine op_loadA (cs := [(Value.int .i64 (C.getD i default).agg), (Value.string (bs (C.getD i default).tb)), (Value.string (bs (C.getD i default).nm))]) agg63 rfl (ev_hit hN10 rfl) (fun j u hu => hc21 j u (by have := (List.getElem?_eq_some_iff.1 hu).1; simpa using this) ((el_pi (i := i) (by omega) (by omega)) j u hu)) ?_
    refine op_bslice (e := 63) (pv := [(0, (Value.agg #[(Value.int .i64 (C.getD i default).agg), (Value.string (bs (C.getD i default).tb)), (Value.string (bs (C.getD i default).nm))]))]) (cs := [(Value.int .i64 (C.getD i default).agg), (Value.string (bs (C.getD i default).tb)), (Value.string (bs (C.getD i default).nm))]) ⟨rfl, (ev_hit hN10 rfl), trivial⟩ (by kernel_rfl) ?_
    intro w22 b23 lo_b23 hi_b23 hB25 E24
    have dj26 : ¬ (fun k => k = p) b23 := fun hf => by have := (hpk.lt _ hf).2; omega
    have z_w22 := E24.size
    have hpk := hpk.kz E24
    have hbl := hbl.keep0 E24
    have hC := hC.keep0 E24
    have hK := hK.keep0 E24
    have hB5 := hB5.keep0 E24
    have hO11 := hO11.keep0 E24
    have hb := hb.step0 E24
    have hP32 := hO11
    refine op_append slt22 (ev_hit hN10 rfl) hP32 (ev_hit hN10 rfl) (Src.ofRd Try.underlying22 (by decide) (RdC.ofBx (sz := 3) (n := 1) hB25 rfl (by decide)) (by simp [Value.oneCell', u8v])) (by unfold maxLen; omega) (by omega) hb.size ?_
    intro v27 w28 hO30 E29 hm31
    have z_w28 := E29.size
    have hpk := hpk.keepG (Gr.of E29) (hpk.notOwn hP32 (by decide)).symm
    have hbl := hbl.keepO hP32 E29 (by omega)
    have hC := hC.keepO hP32 E29 (by omega)
    have hK := hK.keepO hP32 E29 (by omega)
    have hB5 := hB5.keepO hP32 E29 (by decide)
    have hb := hb.stepO hP32 E29 (by omega)
    have hO30 : Own w28 w.heap.size 63 3 v27 ((ofK C K k i).length + 1) ((((ofK C K k i) ++ [(PItm.mk ((C.getD i default).agg) ((C.getD i default).tb) ((C.getD i default).nm))])).flatMap cellsI) := by simpa [u8v, u16v, sv, cellsI] using hO30
    refine op_assign (ev_hit hN10 rfl) (reg_nil (hK14 _ _ (one_reg (op_move (ev_base hN10 rfl s10_11) (op_add (ev_hit hN10 rfl) rfl (add64 (by omega)) ?_)))))
    refine op_assign (ev_hit hN10 rfl) (reg_nil ?_)
    -- round 17T 22T 31T
    exact loop_next _ hN10 hd10 ⟨(i + 1), v27, rfl, (sl_base hN10 rfl s10_0), (sl_base hN10 rfl s10_1), (sl_base hN10 rfl s10_2), (sl_base hN10 rfl s10_3), (sl_base hN10 rfl s10_8), (sl_base hN10 rfl s10_9), (sl_hit hN10 rfl).trans (congrArg (Value.int .i64) (by omega)), (sl_hit hN10 rfl), (by omega), (ofK_le _ _ _ _), hb, (by omega), hpk, hbl, hC, hK, hB5, (hO30.cast (by rw [ofK_t c31] <;> simp) (by rw [ofK_t c31] <;> simp [cellsI]))⟩ (by omega)
   ·
    refine reg_nil ?_
    refine hK15 _ _ (wp_cond_false (ev_hit hN10 rfl) (wp_skip (hK14 _ _ (one_reg (op_move (ev_base hN10 rfl s10_11) (op_add (ev_hit hN10 rfl) rfl (add64 (by omega)) ?_))))))
    refine op_assign (ev_hit hN10 rfl) (reg_nil ?_)
    -- round 17T 22T 31F
    exact loop_next _ hN10 hd10 ⟨(i + 1), lv2, rfl, (sl_base hN10 rfl s10_0), (sl_base hN10 rfl s10_1), (sl_base hN10 rfl s10_2), (sl_base hN10 rfl s10_3), (sl_base hN10 rfl s10_8), (sl_base hN10 rfl s10_9), (sl_hit hN10 rfl).trans (congrArg (Value.int .i64) (by omega)), (sl_base hN10 rfl s10_10), (by omega), (ofK_le _ _ _ _), hb, (by omega), hpk, hbl, hC, hK, hB5, (hO11.cast (by rw [ofK_f c31]) (by rw [ofK_f c31]))⟩ (by omega)
  ·
   refine op_pick_t (ev_hit hN10 rfl) (ev_hit hN10 rfl) ?_
   refine reg_nil (hK13 _ _ (wp_cond_false (ev_hit hN10 rfl) (wp_exit (then_exit (then_exit (blk_hit ?_))))))
   refine hK8 _ _ (seq_any fun K34 hK34 => seq_any fun K35 hK35 => one_reg (op_move (ev_base hN10 rfl s10_10) (op_len_rd Try.underlying22 (ev_hit hN10 rfl) hO11.rdw ?_)))
   refine op_eql (ev_hit hN10 rfl) rfl (fun c41 => ?_) (fun c41 => ?_)
   ·
    refine reg_nil (hK35 _ _ (wp_cond_true (ev_hit hN10 rfl) (seq_any fun K36 hK36 => one_reg (op_build (pv := []) (v := (Value.agg #[(Value.int .i64 0), (Value.int .i64 0), (Value.int .i64 0), (Value.string (bs [])), (Value.string (bs [])), (Value.string (bs [])), (Value.slice none 0 0)])) trivial (by kernel_rfl) ?_))))
    refine op_store (vs := [(Value.int .i64 0), (Value.int .i64 0), (Value.int .i64 0), (Value.string (bs [])), (Value.string (bs [])), (Value.string (bs [])), (Value.slice none 0 0)]) (cs' := [(Value.int .i64 0), (Value.int .i64 0), (Value.int .i64 0), (Value.string (bs [])), (Value.string (bs [])), (Value.string (bs [])), (Value.slice none 0 0)]) size28 (ev_base hN10 rfl s10_8) (ev_hit hN10 rfl) rfl rfl rfl hB5 (Nat.le_of_ble_eq_true rfl) rfl ?_
    intro w39 hB5 E40
    have z_w39 := E40.size
    have hpk := hpk.keepG (Gr.of E40) (Dj.one dj6)
    have hb := hb.step1 E40 (by omega)
    refine op_assign rfl (reg_nil (hK36 _ _ (wp_ret (then_ret ( ?_)))))
    refine retN (rs := [.cell 8 28, .tmp 9]) (vs := [(Value.agg #[(Value.int .i64 0), (Value.int .i64 0), (Value.int .i64 0), (Value.string (bs [])), (Value.string (bs [])), (Value.string (bs [])), (Value.slice none 0 0)]), (Value.bool false)]) rfl hd10 ⟨⟨_, (ev_base hN10 rfl s10_8), run_loadA (cs := [(Value.int .i64 0), (Value.int .i64 0), (Value.int .i64 0), (Value.string (bs [])), (Value.string (bs [])), (Value.string (bs [])), (Value.slice none 0 0)]) agg28 rfl (fun j u hu => by rw [Nat.zero_add]; exact hB5.cell hu)⟩, ⟨(ev_hit hN10 rfl), trivial⟩⟩ rfl ⟨_, rfl, ?_⟩
    exact ⟨hb, (XE.mk 0 0 0 [] [] [] (.slice none 0 0) []), false, rfl, .leaf rfl rfl, (fun h9 => (by cases h9)), n, hpk, by omega⟩
   ·
    refine reg_nil (hK35 _ _ (wp_cond_false (ev_hit hN10 rfl) (wp_skip ?_)))
    refine hK34 _ _ (seq_any fun K41 hK41 => one_reg (op_move (ev_base hN10 rfl s10_10) (op_move (ev_base hN10 rfl s10_0) (op_move (ev_base hN10 rfl s10_10) (op_len_rd Try.underlying22 (ev_hit hN10 rfl) hO11.rdw ?_)))))
    refine op_fn (vs := [(ptr p 0), (Value.int .i64 (((ofK C K k i).length : Nat) : Int))]) ok35 ⟨(ev_hit hN10 rfl), ⟨(ev_hit hN10 rfl), trivial⟩⟩ (Num_ret (m := ((ofK C K k i).length)) hpk (by omega) hbl (by omega) (by omega)) ?_
    rintro _ w43 ⟨E44, r42, rfl, hr42, n42, hk42, hn42, hn42x⟩
    have hpk_old := hpk
    have z_w43 := E44.size
    have hbl := hbl.keepG E44 (fun k hk => .inr (by have := hpk_old.lt k hk; omega))
    have hC := hC.keepG E44 (fun k hk => by have h9 : k = p := hk; omega)
    have hB5 := hB5.keepG E44 dj6
    have hO11 := hO11.keepG E44 (hpk_old.notOwn hO11 (by decide))
    have hb := hb.stepF E44 (fun _ _ h => h)
    refine op_index_rd slt22 (ev_hit hN10 rfl) hO11.rdw (ev_hit hN10 rfl) (by omega) (by omega) ?_
    intro b45 o46 h0b45 h1b45 hc47
    refine op_loadA (cs := [(Value.int .i64 ((ofK C K k i).getD r42 default).agg), (Value.string (bs ((ofK C K k i).getD r42 default).tb)), (Value.string (bs ((ofK C K k i).getD r42 default).nm))]) agg63 rfl (ev_hit hN10 rfl) (fun j u hu => hc47 j u (by have := (List.getElem?_eq_some_iff.1 hu).1; simpa using this) ((el_pi (i := r42) (by omega) (by omega)) j u hu)) ?_
    refine op_alloc (cs := [(Value.int .i64 0), (Value.string (bs [])), (Value.string (bs []))]) zero63 rfl ?_
    intro w48 b49 lo_b49 hi_b49 hB51 E50
    have dj52 : ¬ (fun k => k = p) b49 := fun hf => by have := (hk42.lt _ hf).2; omega
    have z_w48 := E50.size
    have hbl := hbl.keep0 E50
    have hC := hC.keep0 E50
    have hB5 := hB5.keep0 E50
    have hk42 := hk42.kz E50
    have hb := hb.step0 E50
    have hB51_old := hB51
    refine op_store (vs := [(Value.int .i64 ((ofK C K k i).getD r42 default).agg), (Value.string (bs ((ofK C K k i).getD r42 default).tb)), (Value.string (bs ((ofK C K k i).getD r42 default).nm))]) (cs' := [(Value.int .i64 ((ofK C K k i).getD r42 default).agg), (Value.string (bs ((ofK C K k i).getD r42 default).tb)), (Value.string (bs ((ofK C K k i).getD r42 default).nm))]) size63 (ev_hit hN10 rfl) (ev_hit hN10 rfl) rfl rfl rfl hB51 (Nat.le_of_ble_eq_true rfl) rfl ?_
    intro w55 hB51 E56
    have z_w55 := E56.size
    have hbl := hbl.keep E56 (fun k hk => .inr (by simp at hk; omega))
    have hC := hC.keep E56 (fun k hk => .inr (by simp at hk; omega))
    have hB5 := hB5.keep E56 (fun hh => hB5.ne hB51_old (by decide) (Option.some.inj hh))
    have hk42 := hk42.keepG (Gr.of E56) (Dj.one dj52)
    have hb := hb.step1 E56 (by omega)
    refine reg_nil (hK41 _ _ ?_)
    refine seq_any fun K57 hK57 => one_reg (op_field fld63_2 (ev_hit hN10 rfl) (op_load1 (v := (Value.string (bs ((ofK C K k i).getD r42 default).nm))) one9 (ev_hit hN10 rfl) (hB51.cell rfl) (op_field fld63_1 (ev_hit hN10 rfl) (op_load1 (v := (Value.string (bs ((ofK C K k i).getD r42 default).tb))) one9 (ev_hit hN10 rfl) (hB51.cell rfl) (op_build (pv := [(0, (Value.int .i64 2)), (3, (Value.string (bs ((ofK C K k i).getD r42 default).nm))), (2, (Value.string (bs ((ofK C K k i).getD r42 default).tb)))]) (v := (Value.agg #[(Value.int .i64 2), (Value.int .i64 0), (Value.int .i64 0), (Value.string (bs [])), (Value.string (bs ((ofK C K k i).getD r42 default).tb)), (Value.string (bs ((ofK C K k i).getD r42 default).nm)), (Value.slice none 0 0)])) ⟨rfl, rfl, ⟨rfl, (ev_hit hN10 rfl), ⟨rfl, (ev_hit hN10 rfl), trivial⟩⟩⟩ (by kernel_rfl) ?_)))))
    refine op_alloc (cs := [(Value.int .i64 0), (Value.int .i64 0), (Value.int .i64 0), (Value.string (bs [])), (Value.string (bs [])), (Value.string (bs [])), (Value.slice none 0 0)]) zero28 rfl ?_
    intro w58 b59 lo_b59 hi_b59 hB61 E60
    have dj62 : ¬ (fun k => k = p) b59 := fun hf => by have := (hk42.lt _ hf).2; omega
    have z_w58 := E60.size
    have hbl := hbl.keep0 E60
    have hC := hC.keep0 E60
    have hB5 := hB5.keep0 E60
    have hk42 := hk42.kz E60
    have hB51 := hB51.keep0 E60
    have hb := hb.step0 E60
    have hB61_old := hB61
    refine op_store (vs := [(Value.int .i64 2), (Value.int .i64 0), (Value.int .i64 0), (Value.string (bs [])), (Value.string (bs ((ofK C K k i).getD r42 default).tb)), (Value.string (bs ((ofK C K k i).getD r42 default).nm)), (Value.slice none 0 0)]) (cs' := [(Value.int .i64 2), (Value.int .i64 0), (Value.int .i64 0), (Value.string (bs [])), (Value.string (bs ((ofK C K k i).getD r42 default).tb)), (Value.string (bs ((ofK C K k i).getD r42 default).nm)), (Value.slice none 0 0)]) size28 (ev_hit hN10 rfl) (ev_hit hN10 rfl) rfl rfl rfl hB61 (Nat.le_of_ble_eq_true rfl) rfl ?_
    intro w65 hB61 E66
    have z_w65 := E66.size
    have hbl := hbl.keep E66 (fun k hk => .inr (by simp at hk; omega))
    have hC := hC.keep E66 (fun k hk => .inr (by simp at hk; omega))
    have hB5 := hB5.keep E66 (by simp; omega)
    have hk42 := hk42.keepG (Gr.of E66) (Dj.one dj62)
    have hB51 := hB51.keep E66 (fun hh => hB51.ne hB61_old (by decide) (Option.some.inj hh))
    have hb := hb.step1 E66 (by omega)
    refine reg_nil (hK57 _ _ (seq_any fun K67 hK67 => seq_any fun K68 hK68 => one_reg (op_move (ev_base hN10 rfl s10_0) (op_fn (vs := [(ptr p 0), (Value.int .i64 3)]) ok35 ⟨(ev_hit hN10 rfl), ⟨rfl, trivial⟩⟩ (Num_ret (m := 3) hk42 (by omega) hbl (by omega) (by omega)) ?_))))
    rintro _ w70 ⟨E71, r69, rfl, hr69, n69, hk69, hn69, hn69x⟩
    have z_w70 := E71.size
    have hC := hC.keepG E71 (fun k hk => by have h9 : k = p := hk; omega)
    have hB5 := hB5.keepG E71 dj6
    have hB51 := hB51.keepG E71 dj52
    have hB61 := hB61.keepG E71 dj62
    have hb := hb.stepF E71 (fun _ _ h => h)
    refine op_gtr (ev_hit hN10 rfl) rfl (fun c57 => ?_) (fun c57 => ?_)
    ·
     refine op_move (ev_hit hN10 rfl) (g_true (j := 3) (dj := 58) (b := true) rfl rfl rfl (ev_hit hN10 rfl) ?_)
     refine op_move (ev_base hN10 rfl s10_1) (g_true (j := 3) (dj := 58) (b := true) rfl rfl rfl (ev_hit hN10 rfl) (op_field fld63_2 (ev_hit hN10 rfl) (g_true (j := 3) (dj := 58) (b := true) rfl rfl rfl (ev_hit hN10 rfl) (op_load1 (v := (Value.string (bs ((ofK C K k i).getD r42 default).nm))) one9 (ev_hit hN10 rfl) (hB51.cell rfl) (g_true (j := 3) (dj := 58) (b := true) rfl rfl rfl (ev_hit hN10 rfl) (op_fn (vs := [vc, (Value.string (bs ((ofK C K k i).getD r42 default).nm))]) ok83 ⟨(ev_hit hN10 rfl), ⟨(ev_hit hN10 rfl), trivial⟩⟩ (once_ret C (((ofK C K k i).getD r42 default).nm) _ _ (hC.mono (Nat.zero_le _) (by omega))) ?_))))))
     rintro _ w72 ⟨E73, rfl⟩
     have E73 := grown_of_below E73
     have z_w72 := E73.size
     have hB5 := hB5.keep0 E73
     have hB61 := hB61.keep0 E73
     have hk69 := hk69.kz E73
     have hb := hb.step0 E73
     rcases Bool.eq_false_or_eq_true ((onceN C (((ofK C K k i).getD r42 default).nm))) with c62 | c62
     ·
      rw [c62]
      refine op_pick_t (ev_hit hN10 rfl) (ev_hit hN10 rfl) ?_
      refine reg_nil (hK68 _ _ (wp_cond_true (ev_hit hN10 rfl) (one_reg (op_field fld28_2 (ev_hit hN10 rfl) (op_store (vs := [(Value.string (bs []))]) (cs' := [(Value.int .i64 2), (Value.int .i64 0), (Value.int .i64 0), (Value.string (bs [])), (Value.string (bs [])), (Value.string (bs ((ofK C K k i).getD r42 default).nm)), (Value.slice none 0 0)]) size9 (ev_hit hN10 rfl) rfl rfl rfl rfl hB61 (Nat.le_of_ble_eq_true rfl) rfl ?_)))))
      intro w76 hB61 E77
      have z_w76 := E77.size
      have hB5 := hB5.keep E77 (by simp; omega)
      have hk69 := hk69.keepG (Gr.of E77) (Dj.one dj62)
      have hb := hb.step1 E77 (by omega)
      refine reg_nil (hK67 _ _ (seq_any fun K78 hK78 => one_reg (op_loadA (cs := [(Value.int .i64 2), (Value.int .i64 0), (Value.int .i64 0), (Value.string (bs [])), (Value.string (bs [])), (Value.string (bs ((ofK C K k i).getD r42 default).nm)), (Value.slice none 0 0)]) agg28 rfl (ev_hit hN10 rfl) (fun j u hu => by rw [Nat.zero_add]; exact hB61.cell hu) ?_)))
      refine op_store (vs := [(Value.int .i64 2), (Value.int .i64 0), (Value.int .i64 0), (Value.string (bs [])), (Value.string (bs [])), (Value.string (bs ((ofK C K k i).getD r42 default).nm)), (Value.slice none 0 0)]) (cs' := [(Value.int .i64 2), (Value.int .i64 0), (Value.int .i64 0), (Value.string (bs [])), (Value.string (bs [])), (Value.string (bs ((ofK C K k i).getD r42 default).nm)), (Value.slice none 0 0)]) size28 (ev_base hN10 rfl s10_8) (ev_hit hN10 rfl) rfl rfl rfl hB5 (Nat.le_of_ble_eq_true rfl) rfl ?_
      intro w81 hB5 E82
      have z_w81 := E82.size
      have hk69 := hk69.keepG (Gr.of E82) (Dj.one dj6)
      have hb := hb.step1 E82 (by omega)
      refine op_assign rfl (reg_nil (hK78 _ _ (wp_ret ?_)))
      refine retN (rs := [.cell 8 28, .tmp 9]) (vs := [(Value.agg #[(Value.int .i64 2), (Value.int .i64 0), (Value.int .i64 0), (Value.string (bs [])), (Value.string (bs [])), (Value.string (bs ((ofK C K k i).getD r42 default).nm)), (Value.slice none 0 0)]), (Value.bool true)]) rfl hd10 ⟨⟨_, (ev_base hN10 rfl s10_8), run_loadA (cs := [(Value.int .i64 2), (Value.int .i64 0), (Value.int .i64 0), (Value.string (bs [])), (Value.string (bs [])), (Value.string (bs ((ofK C K k i).getD r42 default).nm)), (Value.slice none 0 0)]) agg28 rfl (fun j u hu => by rw [Nat.zero_add]; exact hB5.cell hu)⟩, ⟨(ev_hit hN10 rfl), trivial⟩⟩ rfl ⟨_, rfl, ?_⟩
      exact ⟨hb, (XE.mk 2 0 0 [] [] (((ofK C K k i).getD r42 default).nm) (.slice none 0 0) []), true, rfl, .leaf rfl rfl, (fun _ hg => kind_col rfl rfl ((ofK_good hr42 (by omega) hg).2 (by assumption))), n69, hk69, by omega⟩
     ·
      rw [c62]
      refine op_pick_t (ev_hit hN10 rfl) (ev_hit hN10 rfl) ?_
      refine reg_nil ?_
      refine hK68 _ _ (wp_cond_false (ev_hit hN10 rfl) (wp_skip (hK67 _ _ (seq_any fun K83 hK83 => one_reg (op_loadA (cs := [(Value.int .i64 2), (Value.int .i64 0), (Value.int .i64 0), (Value.string (bs [])), (Value.string (bs ((ofK C K k i).getD r42 default).tb)), (Value.string (bs ((ofK C K k i).getD r42 default).nm)), (Value.slice none 0 0)]) agg28 rfl (ev_hit hN10 rfl) (fun j u hu => by rw [Nat.zero_add]; exact hB61.cell hu) ?_)))))
      refine op_store (vs := [(Value.int .i64 2), (Value.int .i64 0), (Value.int .i64 0), (Value.string (bs [])), (Value.string (bs ((ofK C K k i).getD r42 default).tb)), (Value.string (bs ((ofK C K k i).getD r42 default).nm)), (Value.slice none 0 0)]) (cs' := [(Value.int .i64 2), (Value.int .i64 0), (Value.int .i64 0), (Value.string (bs [])), (Value.string (bs ((ofK C K k i).getD r42 default).tb)), (Value.string (bs ((ofK C K k i).getD r42 default).nm)), (Value.slice none 0 0)]) size28 (ev_base hN10 rfl s10_8) (ev_hit hN10 rfl) rfl rfl rfl hB5 (Nat.le_of_ble_eq_true rfl) rfl ?_
      intro w86 hB5 E87
      have z_w86 := E87.size
      have hk69 := hk69.keepG (Gr.of E87) (Dj.one dj6)
      have hb := hb.step1 E87 (by omega)
      refine op_assign rfl (reg_nil (hK83 _ _ (wp_ret ?_)))
      refine retN (rs := [.cell 8 28, .tmp 9]) (vs := [(Value.agg #[(Value.int .i64 2), (Value.int .i64 0), (Value.int .i64 0), (Value.string (bs [])), (Value.string (bs ((ofK C K k i).getD r42 default).tb)), (Value.string (bs ((ofK C K k i).getD r42 default).nm)), (Value.slice none 0 0)]), (Value.bool true)]) rfl hd10 ⟨⟨_, (ev_base hN10 rfl s10_8), run_loadA (cs := [(Value.int .i64 2), (Value.int .i64 0), (Value.int .i64 0), (Value.string (bs [])), (Value.string (bs ((ofK C K k i).getD r42 default).tb)), (Value.string (bs ((ofK C K k i).getD r42 default).nm)), (Value.slice none 0 0)]) agg28 rfl (fun j u hu => by rw [Nat.zero_add]; exact hB5.cell hu)⟩, ⟨(ev_hit hN10 rfl), trivial⟩⟩ rfl ⟨_, rfl, ?_⟩
      exact ⟨hb, (XE.mk 2 0 0 [] (((ofK C K k i).getD r42 default).tb) (((ofK C K k i).getD r42 default).nm) (.slice none 0 0) []), true, rfl, .leaf rfl rfl, (fun _ hg => kind_col rfl rfl ((ofK_good hr42 (by omega) hg).1)), n69, hk69, by omega⟩
    ·
     refine op_move (ev_hit hN10 rfl) (g_false (j := 3) (dj := 58) (b := true) rfl rfl rfl (ev_hit hN10 rfl) rfl rfl (g_false (j := 3) (dj := 58) (b := true) rfl rfl rfl (ev_hit hN10 rfl) rfl rfl (g_false (j := 3) (dj := 58) (b := true) rfl rfl rfl (ev_hit hN10 rfl) rfl rfl (g_false (j := 3) (dj := 58) (b := true) rfl rfl rfl (ev_hit hN10 rfl) rfl rfl (op_pick_f (ev_hit hN10 rfl) rfl ?_)))))
     refine reg_nil ?_
     refine hK68 _ _ (wp_cond_false (ev_hit hN10 rfl) (wp_skip (hK67 _ _ (seq_any fun K88 hK88 => one_reg (op_loadA (cs := [(Value.int .i64 2), (Value.int .i64 0), (Value.int .i64 0), (Value.string (bs [])), (Value.string (bs ((ofK C K k i).getD r42 default).tb)), (Value.string (bs ((ofK C K k i).getD r42 default).nm)), (Value.slice none 0 0)]) agg28 rfl (ev_hit hN10 rfl) (fun j u hu => by rw [Nat.zero_add]; exact hB61.cell hu) ?_)))))
     refine op_store (vs := [(Value.int .i64 2), (Value.int .i64 0), (Value.int .i64 0), (Value.string (bs [])), (Value.string (bs ((ofK C K k i).getD r42 default).tb)), (Value.string (bs ((ofK C K k i).getD r42 default).nm)), (Value.slice none 0 0)]) (cs' := [(Value.int .i64 2), (Value.int .i64 0), (Value.int .i64 0), (Value.string (bs [])), (Value.string (bs ((ofK C K k i).getD r42 default).tb)), (Value.string (bs ((ofK C K k i).getD r42 default).nm)), (Value.slice none 0 0)]) size28 (ev_base hN10 rfl s10_8) (ev_hit hN10 rfl) rfl rfl rfl hB5 (Nat.le_of_ble_eq_true rfl) rfl ?_
     intro w91 hB5 E92
     have z_w91 := E92.size
     have hk69 := hk69.keepG (Gr.of E92) (Dj.one dj6)
     have hb := hb.step1 E92 (by omega)
     refine op_assign rfl (reg_nil (hK88 _ _ (wp_ret ?_)))
     refine retN (rs := [.cell 8 28, .tmp 9]) (vs := [(Value.agg #[(Value.int .i64 2), (Value.int .i64 0), (Value.int .i64 0), (Value.string (bs [])), (Value.string (bs ((ofK C K k i).getD r42 default).tb)), (Value.string (bs ((ofK C K k i).getD r42 default).nm)), (Value.slice none 0 0)]), (Value.bool true)]) rfl hd10 ⟨⟨_, (ev_base hN10 rfl s10_8), run_loadA (cs := [(Value.int .i64 2), (Value.int .i64 0), (Value.int .i64 0), (Value.string (bs [])), (Value.string (bs ((ofK C K k i).getD r42 default).tb)), (Value.string (bs ((ofK C K k i).getD r42 default).nm)), (Value.slice none 0 0)]) agg28 rfl (fun j u hu => by rw [Nat.zero_add]; exact hB5.cell hu)⟩, ⟨(ev_hit hN10 rfl), trivial⟩⟩ rfl ⟨_, rfl, ?_⟩
     exact ⟨hb, (XE.mk 2 0 0 [] (((ofK C K k i).getD r42 default).tb) (((ofK C K k i).getD r42 default).nm) (.slice none 0 0) []), true, rfl, .leaf rfl rfl, (fun _ hg => kind_col rfl rfl ((ofK_good hr42 (by omega) hg).1)), n69, hk69, by omega⟩
 ·
  refine op_move (ev_hit hN10 rfl) (g_false (j := 4) (dj := 18) (b := true) rfl rfl rfl (ev_hit hN10 rfl) rfl rfl (g_false (j := 4) (dj := 18) (b := true) rfl rfl rfl (ev_hit hN10 rfl) rfl rfl (g_false (j := 4) (dj := 18) (b := true) rfl rfl rfl (ev_hit hN10 rfl) rfl rfl (g_false (j := 4) (dj := 18) (b := true) rfl rfl rfl (ev_hit hN10 rfl) rfl rfl (op_pick_f (ev_hit hN10 rfl) rfl ?_)))))
  refine reg_nil (hK13 _ _ (wp_cond_false (ev_hit hN10 rfl) (wp_exit (then_exit (then_exit (blk_hit ?_))))))
  refine hK8 _ _ (seq_any fun K93 hK93 => seq_any fun K94 hK94 => one_reg (op_move (ev_base hN10 rfl s10_10) (op_len_rd Try.underlying22 (ev_hit hN10 rfl) hO11.rdw ?_)))
  refine op_eql (ev_hit hN10 rfl) rfl (fun c41 => ?_) (fun c41 => ?_)
  ·
   refine reg_nil (hK94 _ _ (wp_cond_true (ev_hit hN10 rfl) (seq_any fun K95 hK95 => one_reg (op_build (pv := []) (v := (Value.agg #[(Value.int .i64 0), (Value.int .i64 0), (Value.int .i64 0), (Value.string (bs [])), (Value.string (bs [])), (Value.string (bs [])), (Value.slice none 0 0)])) trivial (by kernel_rfl) ?_))))
   refine op_store (vs := [(Value.int .i64 0), (Value.int .i64 0), (Value.int .i64 0), (Value.string (bs [])), (Value.string (bs [])), (Value.string (bs [])), (Value.slice none 0 0)]) (cs' := [(Value.int .i64 0), (Value.int .i64 0), (Value.int .i64 0), (Value.string (bs [])), (Value.string (bs [])), (Value.string (bs [])), (Value.slice none 0 0)]) size28 (ev_base hN10 rfl s10_8) (ev_hit hN10 rfl) rfl rfl rfl hB5 (Nat.le_of_ble_eq_true rfl) rfl ?_
   intro w98 hB5 E99
   have z_w98 := E99.size
   have hpk := hpk.keepG (Gr.of E99) (Dj.one dj6)
   have hb := hb.step1 E99 (by omega)
   refine op_assign rfl (reg_nil (hK95 _ _ (wp_ret (then_ret ( ?_)))))
   refine retN (rs := [.cell 8 28, .tmp 9]) (vs := [(Value.agg #[(Value.int .i64 0), (Value.int .i64 0), (Value.int .i64 0), (Value.string (bs [])), (Value.string (bs [])), (Value.string (bs [])), (Value.slice none 0 0)]), (Value.bool false)]) rfl hd10 ⟨⟨_, (ev_base hN10 rfl s10_8), run_loadA (cs := [(Value.int .i64 0), (Value.int .i64 0), (Value.int .i64 0), (Value.string (bs [])), (Value.string (bs [])), (Value.string (bs [])), (Value.slice none 0 0)]) agg28 rfl (fun j u hu => by rw [Nat.zero_add]; exact hB5.cell hu)⟩, ⟨(ev_hit hN10 rfl), trivial⟩⟩ rfl ⟨_, rfl, ?_⟩
   exact ⟨hb, (XE.mk 0 0 0 [] [] [] (.slice none 0 0) []), false, rfl, .leaf rfl rfl, (fun h9 => (by cases h9)), n, hpk, by omega⟩
  ·
   refine reg_nil (hK94 _ _ (wp_cond_false (ev_hit hN10 rfl) (wp_skip ?_)))
   refine hK93 _ _ (seq_any fun K100 hK100 => one_reg (op_move (ev_base hN10 rfl s10_10) (op_move (ev_base hN10 rfl s10_0) (op_move (ev_base hN10 rfl s10_10) (op_len_rd Try.underlying22 (ev_hit hN10 rfl) hO11.rdw ?_)))))
   refine op_fn (vs := [(ptr p 0), (Value.int .i64 (((ofK C K k i).length : Nat) : Int))]) ok35 ⟨(ev_hit hN10 rfl), ⟨(ev_hit hN10 rfl), trivial⟩⟩ (Num_ret (m := ((ofK C K k i).length)) hpk (by omega) hbl (by omega) (by omega)) ?_
   rintro _ w102 ⟨E103, r101, rfl, hr101, n101, hk101, hn101, hn101x⟩
   have hpk_old := hpk
   have z_w102 := E103.size
   have hbl := hbl.keepG E103 (fun k hk => .inr (by have := hpk_old.lt k hk; omega))
   have hC := hC.keepG E103 (fun k hk => by have h9 : k = p := hk; omega)
   have hB5 := hB5.keepG E103 dj6
   have hO11 := hO11.keepG E103 (hpk_old.notOwn hO11 (by decide))
   have hb := hb.stepF E103 (fun _ _ h => h)
   refine op_index_rd slt22 (ev_hit hN10 rfl) hO11.rdw (ev_hit hN10 rfl) (by omega) (by omega) ?_
   intro b104 o105 h0b104 h1b104 hc106
   refine op_loadA (cs := [(Value.int .i64 ((ofK C K k i).getD r101 default).agg), (Value.string (bs ((ofK C K k i).getD r101 default).tb)), (Value.string (bs ((ofK C K k i).getD r101 default).nm))]) agg63 rfl (ev_hit hN10 rfl) (fun j u hu => hc106 j u (by have := (List.getElem?_eq_some_iff.1 hu).1; simpa using this) ((el_pi (i := r101) (by omega) (by omega)) j u hu)) ?_
   refine op_alloc (cs := [(Value.int .i64 0), (Value.string (bs [])), (Value.string (bs []))]) zero63 rfl ?_
   intro w107 b108 lo_b108 hi_b108 hB110 E109
   have dj111 : ¬ (fun k => k = p) b108 := fun hf => by have := (hk101.lt _ hf).2; omega
   have z_w107 := E109.size
   have hbl := hbl.keep0 E109
   have hC := hC.keep0 E109
   have hB5 := hB5.keep0 E109
   have hk101 := hk101.kz E109
   have hb := hb.step0 E109
   have hB110_old := hB110
   refine op_store (vs := [(Value.int .i64 ((ofK C K k i).getD r101 default).agg), (Value.string (bs ((ofK C K k i).getD r101 default).tb)), (Value.string (bs ((ofK C K k i).getD r101 default).nm))]) (cs' := [(Value.int .i64 ((ofK C K k i).getD r101 default).agg), (Value.string (bs ((ofK C K k i).getD r101 default).tb)), (Value.string (bs ((ofK C K k i).getD r101 default).nm))]) size63 (ev_hit hN10 rfl) (ev_hit hN10 rfl) rfl rfl rfl hB110 (Nat.le_of_ble_eq_true rfl) rfl ?_
   intro w114 hB110 E115
   have z_w114 := E115.size
   have hbl := hbl.keep E115 (fun k hk => .inr (by simp at hk; omega))
   have hC := hC.keep E115 (fun k hk => .inr (by simp at hk; omega))
   have hB5 := hB5.keep E115 (fun hh => hB5.ne hB110_old (by decide) (Option.some.inj hh))
   have hk101 := hk101.keepG (Gr.of E115) (Dj.one dj111)
   have hb := hb.step1 E115 (by omega)
   refine reg_nil (hK100 _ _ ?_)
   refine seq_any fun K116 hK116 => one_reg (op_field fld63_2 (ev_hit hN10 rfl) (op_load1 (v := (Value.string (bs ((ofK C K k i).getD r101 default).nm))) one9 (ev_hit hN10 rfl) (hB110.cell rfl) (op_field fld63_1 (ev_hit hN10 rfl) (op_load1 (v := (Value.string (bs ((ofK C K k i).getD r101 default).tb))) one9 (ev_hit hN10 rfl) (hB110.cell rfl) (op_build (pv := [(0, (Value.int .i64 2)), (3, (Value.string (bs ((ofK C K k i).getD r101 default).nm))), (2, (Value.string (bs ((ofK C K k i).getD r101 default).tb)))]) (v := (Value.agg #[(Value.int .i64 2), (Value.int .i64 0), (Value.int .i64 0), (Value.string (bs [])), (Value.string (bs ((ofK C K k i).getD r101 default).tb)), (Value.string (bs ((ofK C K k i).getD r101 default).nm)), (Value.slice none 0 0)])) ⟨rfl, rfl, ⟨rfl, (ev_hit hN10 rfl), ⟨rfl, (ev_hit hN10 rfl), trivial⟩⟩⟩ (by kernel_rfl) ?_)))))
   refine op_alloc (cs := [(Value.int .i64 0), (Value.int .i64 0), (Value.int .i64 0), (Value.string (bs [])), (Value.string (bs [])), (Value.string (bs [])), (Value.slice none 0 0)]) zero28 rfl ?_
   intro w117 b118 lo_b118 hi_b118 hB120 E119
   have dj121 : ¬ (fun k => k = p) b118 := fun hf => by have := (hk101.lt _ hf).2; omega
   have z_w117 := E119.size
   have hbl := hbl.keep0 E119
   have hC := hC.keep0 E119
   have hB5 := hB5.keep0 E119
   have hk101 := hk101.kz E119
   have hB110 := hB110.keep0 E119
   have hb := hb.step0 E119
   have hB120_old := hB120
   refine op_store (vs := [(Value.int .i64 2), (Value.int .i64 0), (Value.int .i64 0), (Value.string (bs [])), (Value.string (bs ((ofK C K k i).getD r101 default).tb)), (Value.string (bs ((ofK C K k i).getD r101 default).nm)), (Value.slice none 0 0)]) (cs' := [(Value.int .i64 2), (Value.int .i64 0), (Value.int .i64 0), (Value.string (bs [])), (Value.string (bs ((ofK C K k i).getD r101 default).tb)), (Value.string (bs ((ofK C K k i).getD r101 default).nm)), (Value.slice none 0 0)]) size28 (ev_hit hN10 rfl) (ev_hit hN10 rfl) rfl rfl rfl hB120 (Nat.le_of_ble_eq_true rfl) rfl ?_
   intro w124 hB120 E125
   have z_w124 := E125.size
   have hbl := hbl.keep E125 (fun k hk => .inr (by simp at hk; omega))
   have hC := hC.keep E125 (fun k hk => .inr (by simp at hk; omega))
   have hB5 := hB5.keep E125 (by simp; omega)
   have hk101 := hk101.keepG (Gr.of E125) (Dj.one dj121)
   have hB110 := hB110.keep E125 (fun hh => hB110.ne hB120_old (by decide) (Option.some.inj hh))
   have hb := hb.step1 E125 (by omega)
   refine reg_nil (hK116 _ _ (seq_any fun K126 hK126 => seq_any fun K127 hK127 => one_reg (op_move (ev_base hN10 rfl s10_0) (op_fn (vs := [(ptr p 0), (Value.int .i64 3)]) ok35 ⟨(ev_hit hN10 rfl), ⟨rfl, trivial⟩⟩ (Num_ret (m := 3) hk101 (by omega) hbl (by omega) (by omega)) ?_))))
   rintro _ w129 ⟨E130, r128, rfl, hr128, n128, hk128, hn128, hn128x⟩
   have z_w129 := E130.size
   have hC := hC.keepG E130 (fun k hk => by have h9 : k = p := hk; omega)
   have hB5 := hB5.keepG E130 dj6
   have hB110 := hB110.keepG E130 dj111
   have hB120 := hB120.keepG E130 dj121
   have hb := hb.stepF E130 (fun _ _ h => h)
   refine op_gtr (ev_hit hN10 rfl) rfl (fun c57 => ?_) (fun c57 => ?_)
   ·
    refine op_move (ev_hit hN10 rfl) (g_true (j := 3) (dj := 58) (b := true) rfl rfl rfl (ev_hit hN10 rfl) ?_)
    refine op_move (ev_base hN10 rfl s10_1) (g_true (j := 3) (dj := 58) (b := true) rfl rfl rfl (ev_hit hN10 rfl) (op_field fld63_2 (ev_hit hN10 rfl) (g_true (j := 3) (dj := 58) (b := true) rfl rfl rfl (ev_hit hN10 rfl) (op_load1 (v := (Value.string (bs ((ofK C K k i).getD r101 default).nm))) one9 (ev_hit hN10 rfl) (hB110.cell rfl) (g_true (j := 3) (dj := 58) (b := true) rfl rfl rfl (ev_hit hN10 rfl) (op_fn (vs := [vc, (Value.string (bs ((ofK C K k i).getD r101 default).nm))]) ok83 ⟨(ev_hit hN10 rfl), ⟨(ev_hit hN10 rfl), trivial⟩⟩ (once_ret C (((ofK C K k i).getD r101 default).nm) _ _ (hC.mono (Nat.zero_le _) (by omega))) ?_))))))
    rintro _ w131 ⟨E132, rfl⟩
    have E132 := grown_of_below E132
    have z_w131 := E132.size
    have hB5 := hB5.keep0 E132
    have hB120 := hB120.keep0 E132
    have hk128 := hk128.kz E132
    have hb := hb.step0 E132
    rcases Bool.eq_false_or_eq_true ((onceN C (((ofK C K k i).getD r101 default).nm))) with c62 | c62
    ·
     rw [c62]
     refine op_pick_t (ev_hit hN10 rfl) (ev_hit hN10 rfl) ?_
     refine reg_nil (hK127 _ _ (wp_cond_true (ev_hit hN10 rfl) (one_reg (op_field fld28_2 (ev_hit hN10 rfl) (op_store (vs := [(Value.string (bs []))]) (cs' := [(Value.int .i64 2), (Value.int .i64 0), (Value.int .i64 0), (Value.string (bs [])), (Value.string (bs [])), (Value.string (bs ((ofK C K k i).getD r101 default).nm)), (Value.slice none 0 0)]) size9 (ev_hit hN10 rfl) rfl rfl rfl rfl hB120 (Nat.le_of_ble_eq_true rfl) rfl ?_)))))
     intro w135 hB120 E136
     have z_w135 := E136.size
     have hB5 := hB5.keep E136 (by simp; omega)
     have hk128 := hk128.keepG (Gr.of E136) (Dj.one dj121)
     have hb := hb.step1 E136 (by omega)
     refine reg_nil (hK126 _ _ (seq_any fun K137 hK137 => one_reg (op_loadA (cs := [(Value.int .i64 2), (Value.int .i64 0), (Value.int .i64 0), (Value.string (bs [])), (Value.string (bs [])), (Value.string (bs ((ofK C K k i).getD r101 default).nm)), (Value.slice none 0 0)]) agg28 rfl (ev_hit hN10 rfl) (fun j u hu => by rw [Nat.zero_add]; exact hB120.cell hu) ?_)))
     refine op_store (vs := [(Value.int .i64 2), (Value.int .i64 0), (Value.int .i64 0), (Value.string (bs [])), (Value.string (bs [])), (Value.string (bs ((ofK C K k i).getD r101 default).nm)), (Value.slice none 0 0)]) (cs' := [(Value.int .i64 2), (Value.int .i64 0), (Value.int .i64 0), (Value.string (bs [])), (Value.string (bs [])), (Value.string (bs ((ofK C K k i).getD r101 default).nm)), (Value.slice none 0 0)]) size28 (ev_base hN10 rfl s10_8) (ev_hit hN10 rfl) rfl rfl rfl hB5 (Nat.le_of_ble_eq_true rfl) rfl ?_
     intro w140 hB5 E141
     have z_w140 := E141.size
     have hk128 := hk128.keepG (Gr.of E141) (Dj.one dj6)
     have hb := hb.step1 E141 (by omega)
     refine op_assign rfl (reg_nil (hK137 _ _ (wp_ret ?_)))
     refine retN (rs := [.cell 8 28, .tmp 9]) (vs := [(Value.agg #[(Value.int .i64 2), (Value.int .i64 0), (Value.int .i64 0), (Value.string (bs [])), (Value.string (bs [])), (Value.string (bs ((ofK C K k i).getD r101 default).nm)), (Value.slice none 0 0)]), (Value.bool true)]) rfl hd10 ⟨⟨_, (ev_base hN10 rfl s10_8), run_loadA (cs := [(Value.int .i64 2), (Value.int .i64 0), (Value.int .i64 0), (Value.string (bs [])), (Value.string (bs [])), (Value.string (bs ((ofK C K k i).getD r101 default).nm)), (Value.slice none 0 0)]) agg28 rfl (fun j u hu => by rw [Nat.zero_add]; exact hB5.cell hu)⟩, ⟨(ev_hit hN10 rfl), trivial⟩⟩ rfl ⟨_, rfl, ?_⟩
     exact ⟨hb, (XE.mk 2 0 0 [] [] (((ofK C K k i).getD r101 default).nm) (.slice none 0 0) []), true, rfl, .leaf rfl rfl, (fun _ hg => kind_col rfl rfl ((ofK_good hr101 (by omega) hg).2 (by assumption))), n128, hk128, by omega⟩
    ·
     rw [c62]
     refine op_pick_t (ev_hit hN10 rfl) (ev_hit hN10 rfl) ?_
     refine reg_nil ?_
     refine hK127 _ _ (wp_cond_false (ev_hit hN10 rfl) (wp_skip (hK126 _ _ (seq_any fun K142 hK142 => one_reg (op_loadA (cs := [(Value.int .i64 2), (Value.int .i64 0), (Value.int .i64 0), (Value.string (bs [])), (Value.string (bs ((ofK C K k i).getD r101 default).tb)), (Value.string (bs ((ofK C K k i).getD r101 default).nm)), (Value.slice none 0 0)]) agg28 rfl (ev_hit hN10 rfl) (fun j u hu => by rw [Nat.zero_add]; exact hB120.cell hu) ?_)))))
     refine op_store (vs := [(Value.int .i64 2), (Value.int .i64 0), (Value.int .i64 0), (Value.string (bs [])), (Value.string (bs ((ofK C K k i).getD r101 default).tb)), (Value.string (bs ((ofK C K k i).getD r101 default).nm)), (Value.slice none 0 0)]) (cs' := [(Value.int .i64 2), (Value.int .i64 0), (Value.int .i64 0), (Value.string (bs [])), (Value.string (bs ((ofK C K k i).getD r101 default).tb)), (Value.string (bs ((ofK C K k i).getD r101 default).nm)), (Value.slice none 0 0)]) size28 (ev_base hN10 rfl s10_8) (ev_hit hN10 rfl) rfl rfl rfl hB5 (Nat.le_of_ble_eq_true rfl) rfl ?_
     intro w145 hB5 E146
     have z_w145 := E146.size
     have hk128 := hk128.keepG (Gr.of E146) (Dj.one dj6)
     have hb := hb.step1 E146 (by omega)
     refine op_assign rfl (reg_nil (hK142 _ _ (wp_ret ?_)))
     refine retN (rs := [.cell 8 28, .tmp 9]) (vs := [(Value.agg #[(Value.int .i64 2), (Value.int .i64 0), (Value.int .i64 0), (Value.string (bs [])), (Value.string (bs ((ofK C K k i).getD r101 default).tb)), (Value.string (bs ((ofK C K k i).getD r101 default).nm)), (Value.slice none 0 0)]), (Value.bool true)]) rfl hd10 ⟨⟨_, (ev_base hN10 rfl s10_8), run_loadA (cs := [(Value.int .i64 2), (Value.int .i64 0), (Value.int .i64 0), (Value.string (bs [])), (Value.string (bs ((ofK C K k i).getD r101 default).tb)), (Value.string (bs ((ofK C K k i).getD r101 default).nm)), (Value.slice none 0 0)]) agg28 rfl (fun j u hu => by rw [Nat.zero_add]; exact hB5.cell hu)⟩, ⟨(ev_hit hN10 rfl), trivial⟩⟩ rfl ⟨_, rfl, ?_⟩
     exact ⟨hb, (XE.mk 2 0 0 [] (((ofK C K k i).getD r101 default).tb) (((ofK C K k i).getD r101 default).nm) (.slice none 0 0) []), true, rfl, .leaf rfl rfl, (fun _ hg => kind_col rfl rfl ((ofK_good hr101 (by omega) hg).1)), n128, hk128, by omega⟩
   ·
    refine op_move (ev_hit hN10 rfl) (g_false (j := 3) (dj := 58) (b := true) rfl rfl rfl (ev_hit hN10 rfl) rfl rfl (g_false (j := 3) (dj := 58) (b := true) rfl rfl rfl (ev_hit hN10 rfl) rfl rfl (g_false (j := 3) (dj := 58) (b := true) rfl rfl rfl (ev_hit hN10 rfl) rfl rfl (g_false (j := 3) (dj := 58) (b := true) rfl rfl rfl (ev_hit hN10 rfl) rfl rfl (op_pick_f (ev_hit hN10 rfl) rfl ?_)))))
    refine reg_nil ?_
    refine hK127 _ _ (wp_cond_false (ev_hit hN10 rfl) (wp_skip (hK126 _ _ (seq_any fun K147 hK147 => one_reg (op_loadA (cs := [(Value.int .i64 2), (Value.int .i64 0), (Value.int .i64 0), (Value.string (bs [])), (Value.string (bs ((ofK C K k i).getD r101 default).tb)), (Value.string (bs ((ofK C K k i).getD r101 default).nm)), (Value.slice none 0 0)]) agg28 rfl (ev_hit hN10 rfl) (fun j u hu => by rw [Nat.zero_add]; exact hB120.cell hu) ?_)))))
    refine op_store (vs := [(Value.int .i64 2), (Value.int .i64 0), (Value.int .i64 0), (Value.string (bs [])), (Value.string (bs ((ofK C K k i).getD r101 default).tb)), (Value.string (bs ((ofK C K k i).getD r101 default).nm)), (Value.slice none 0 0)]) (cs' := [(Value.int .i64 2), (Value.int .i64 0), (Value.int .i64 0), (Value.string (bs [])), (Value.string (bs ((ofK C K k i).getD r101 default).tb)), (Value.string (bs ((ofK C K k i).getD r101 default).nm)), (Value.slice none 0 0)]) size28 (ev_base hN10 rfl s10_8) (ev_hit hN10 rfl) rfl rfl rfl hB5 (Nat.le_of_ble_eq_true rfl) rfl ?_
    intro w150 hB5 E151
    have z_w150 := E151.size
    have hk128 := hk128.keepG (Gr.of E151) (Dj.one dj6)
    have hb := hb.step1 E151 (by omega)
    refine op_assign rfl (reg_nil (hK147 _ _ (wp_ret ?_)))
    refine retN (rs := [.cell 8 28, .tmp 9]) (vs := [(Value.agg #[(Value.int .i64 2), (Value.int .i64 0), (Value.int .i64 0), (Value.string (bs [])), (Value.string (bs ((ofK C K k i).getD r101 default).tb)), (Value.string (bs ((ofK C K k i).getD r101 default).nm)), (Value.slice none 0 0)]), (Value.bool true)]) rfl hd10 ⟨⟨_, (ev_base hN10 rfl s10_8), run_loadA (cs := [(Value.int .i64 2), (Value.int .i64 0), (Value.int .i64 0), (Value.string (bs [])), (Value.string (bs ((ofK C K k i).getD r101 default).tb)), (Value.string (bs ((ofK C K k i).getD r101 default).nm)), (Value.slice none 0 0)]) agg28 rfl (fun j u hu => by rw [Nat.zero_add]; exact hB5.cell hu)⟩, ⟨(ev_hit hN10 rfl), trivial⟩⟩ rfl ⟨_, rfl, ?_⟩
    exact ⟨hb, (XE.mk 2 0 0 [] (((ofK C K k i).getD r101 default).tb) (((ofK C K k i).getD r101 default).nm) (.slice none 0 0) []), true, rfl, .leaf rfl rfl, (fun _ hg => kind_col rfl rfl ((ofK_good hr101 (by omega) hg).1)), n128, hk128, by omega⟩

end Go.Proofs.Ythflnkfghogaoaa

namespace Go.Gx
open Go.RowKit
section
variable {P : Program} {w : World} {L B L2 B2 n m : Nat} {v u : Value} {la lb : List UInt8}
end
end Go.Gx

namespace Go.Gx
open Go.RowKit
section
variable {P : Program} {Q : Exit → Act → World → Prop} {a : Act} {w w' w9 : World} {l : List (Nat × Value)} {ops : Array Oper} {rest : List Oper}
variable {d ty t e xt yt tx i : Nat} {p : String} {af : Array Edge} {x y : Operand} {v : Value} {k : IntKind} {n base sz by_ b o : Nat} {cs ws : List Value} {zv : Value} {r : Int}
theorem Own.atV (O : Own w base e sz v n cs) (h1 : i < n) : ∃ b o, base ≤ b ∧ AtV v (i * sz) b o := by
  obtain ⟨hl, ⟨rfl, rfl⟩ | ⟨g, off, cap, cur, fr, rfl, hb, _⟩⟩ := O
  · omega
  · exact ⟨g, off + i * sz, hb, off, n, cap, rfl, rfl⟩
theorem RdC.atV {L B : Nat} (R : RdC w L B sz v n cs) (hp : 0 < sz) (h1 : i < n) : ∃ b o, AtV v (i * sz) b o := by
  obtain ⟨h0, a, c, hv, h2, h3, h4⟩ := R
  rcases h4 with h4 | ⟨b, off, ha, _⟩
  · rw [h4] at h0; have : 0 < n * sz := Nat.mul_pos (by omega) hp; simp at h0; omega
  · subst ha; exact ⟨b, off + i * sz, off, n, c, hv, rfl⟩
theorem RdC.cellAt {L B q : Nat} (R : RdC w L B sz v n cs) (hA : AtV v q b o) : ∀ j u, cs[q + j]? = some u → w.cell? ⟨b, o + j, none⟩ = some u := by
  intro j u hu
  obtain ⟨off', n', c', hv', rfl⟩ := hA
  obtain ⟨h0, a, c, hv, h2, h3, h4⟩ := R
  rcases h4 with h4 | ⟨b2, off, ha, _, _, hc⟩
  · rw [h4] at hu; simp at hu
  · subst ha
    rw [hv] at hv'
    injection hv' with e1 e2 e3; injection e1 with e1; injection e1 with e1 e4; subst e1; subst e4
    have := hc (q + j) u hu
    rw [← Nat.add_assoc] at this
    exact this
theorem op_index_atR {L B : Nat} (T : SlT P xt e zv sz by_) (hx : (putsL a l).eval x = v) (R : RdC w9 L B sz v n cs) (hp : 0 < sz) (hy : (putsL a l).eval y = .int k r) (hr : r = (i : Int)) (h1 : i < n) (hA : AtV v (i * sz) b o)
    (h : wpList P ops Q rest (putsL a ((d, ptr b o) :: l)) w) : wpList P ops Q (⟨some d, .indexAddr xt x y, ty, p, af, none⟩ :: rest) (putsL a l) w := by
  obtain ⟨inf, hi, hz0, hz1, hz2⟩ := info_parts T.info
  subst hr
  obtain ⟨h0, a', c, hv, h2, h3, h4⟩ := R
  rcases h4 with h4 | ⟨b2, off, ha, _, _, hc⟩
  · rw [h4] at h0; have : 0 < n * sz := Nat.mul_pos (by omega) hp; simp at h0; omega
  · subst ha; subst hv
    obtain ⟨off2, n2, c2, hv, rfl⟩ := hA
    injection hv with e1 e2 e3; injection e1 with e1; injection e1 with e1 e4; subst e1; subst e4
    refine op_gen (v := ptr b2 (off + i * sz)) rfl ?_ h
    have hand : (0 ≤ (i : Int) ∧ (i : Int) < (n : Int)) := by omega
    simp [execOp, hx, hy, Instr.indexAt, asIntOf, run_underlying T.und, sizeOf, typeInfo, hi, ptr, Addr.add_lit, hz1, h1]
end
end Go.Gx
namespace Go.Gx
open Go.RowKit
section
variable {P : Program} {Q : Exit → Act → World → Prop} {a : Act} {w : World} {l : List (Nat × Value)} {ops : Array Oper} {rest : List Oper} {d ty e xt yt sz by_ : Nat} {p : String} {af : Array Edge} {x y : Operand} {zv : Value}
end
end Go.Gx

namespace Go.Proofs.Ythflnkfghogaoaa
open Go.Gx Go.RowKit
attribute [local irreducible] wpList wpStill Code.wp Calls

theorem Cols_ret {nm : List UInt8} {l : List PCol} {cv iv : Value} {w : World} (hz : l.length ≤ 1000000) (hl : RdC w 0 w.heap.size 3 cv l.length (l.flatMap cellsC)) : Ret Try.prog 21 #[(Value.agg #[(Value.string (bs nm)), cv, iv])] w (fun v' w' => Below w.heap.size w w' ∧ ∃ av bv : Value, v' = .tuple #[av, bv] ∧ RdC w' w.heap.size w'.heap.size 3 av (colsOf nm l).length ((colsOf nm l).flatMap cellsI) ∧ RdC w' w.heap.size w'.heap.size 1 bv (kindsOf l).length ((kindsOf l).map (Value.int .i64))) := by
 have hb := Below.refl w.heap.size w
 refine enter (N := 37) Try.func21 rfl rfl (by simp) fun a0 hN hd hA => ?_
 have s0 : a0.tmps.getD 0 undef = (Value.agg #[(Value.string (bs nm)), cv, iv]) := hA 0 (by simp)
 clear hA
 refine seq_any fun K1 hK1 => one_reg (op_box (cs := [(Value.string (bs nm)), cv, iv]) (ev_base hN rfl s0) rfl ?_)
 intro w2 b3 lo_b3 hi_b3 hB5 E4
 have z_w2 := E4.size
 have hl := hl.keep0 E4
 have hb := below_step0 hb E4 hb.size
 refine op_assign rfl (op_assign rfl (reg_nil (hK1 _ _ (seq_any fun K6 hK6 => one_reg (op_assign rfl ?_)))))
 refine reg_nil (hK6 _ _ (seq_any fun K7 hK7 => one_reg (op_assign rfl (reg_nil (hK7 _ _ ?_)))))
 refine seq_any fun K8 hK8 => seq_any fun K9 hK9 => one_reg (op_assign rfl (reg_nil (hK9 _ _ (wp_block ?_))))
 refine loop_m (fun mz_ az_ w' => ∃ (i : Nat) (lv2 lv3 : Value), mz_ = l.length - i ∧ (az_.tmps.getD 1 undef = (ptr b3 0)) ∧ (az_.tmps.getD 2 undef = (Value.slice none 0 0)) ∧ (az_.tmps.getD 3 undef = (Value.slice none 0 0)) ∧ (az_.tmps.getD 6 undef = (Value.int .i64 ((i : Nat) : Int))) ∧ (az_.tmps.getD 4 undef = lv2) ∧ (az_.tmps.getD 5 undef = lv3) ∧ (i ≤ l.length) ∧ (Below w.heap.size w w') ∧ (w2.heap.size ≤ w'.heap.size) ∧ (RdC w' 0 w.heap.size 3 cv l.length (l.flatMap cellsC)) ∧ (Bx w' b3 55 [(Value.string (bs nm)), cv, iv]) ∧ (Own w' w.heap.size 63 3 lv2 (colsOf nm (l.take i)).length ((colsOf nm (l.take i)).flatMap cellsI)) ∧ (Own w' w.heap.size 3 1 lv3 (kindsOf (l.take i)).length ((kindsOf (l.take i)).map (Value.int .i64)))) _ hN hd ⟨0, (Value.slice none 0 0), (Value.slice none 0 0), rfl, (sl_hit hN rfl), (sl_hit hN rfl), (sl_hit hN rfl), (sl_hit hN rfl), (sl_hit hN rfl), (sl_hit hN rfl), (Nat.zero_le _), hb, (Nat.le_refl _), hl, hB5, (Own.nil _ _ _ _), (Own.nil _ _ _ _)⟩ ?_
 rintro _ a10 w10 hN10 hd10 ⟨i, lv2, lv3, rfl, s10_1, s10_2, s10_3, s10_6, s10_4, s10_5, hi, hb, zl_w10, hl, hB5, hO11, hO12⟩
 have z_w10 := hb.size
 refine seq_any fun K13 hK13 => seq_any fun K14 hK14 => one_reg (op_move (ev_base hN10 rfl s10_6) (op_field fld55_1 (ev_base hN10 rfl s10_1) (op_load1 (v := cv) one41 (ev_hit hN10 rfl) (hB5.cell rfl) (op_len_rd Try.underlying41 (ev_hit hN10 rfl) hl ?_))))
 refine op_lss (ev_hit hN10 rfl) (ev_hit hN10 rfl) (fun c11 => ?_) (fun c11 => ?_)
 ·
  refine reg_nil (hK14 _ _ (wp_cond_true (ev_hit hN10 rfl) (wp_skip (hK13 _ _ (seq_any fun K15 hK15 => wp_block ?_)))))
  obtain ⟨b16, o17, hAt18⟩ := hl.atV (i := i) (by decide) (by omega)
  have hcl := @cols_len nm (l.take i)
  have hkl := @kinds_len (l.take i)
  rw [List.length_take] at hcl hkl
  refine reg_split (hd := [_, _, _, _, _, _, _, _, _, _, _, _, _, _, _, _, _, _, _, _, _]) (tl := _) 21 mixed (by kernel_rfl) rfl rfl ?_
  refine any_tree (φ := phiV [(fun uz => uz = lv2), (fun uz => uz = (ptr b3 0)), (fun uz => uz = (Value.string (bs nm))), (fun uz => uz = (ptr b3 1)), (fun uz => uz = cv), (fun uz => uz = (Value.int .i64 ((i : Nat) : Int))), (fun uz => uz = (ptr b16 o17)), (fun uz => uz = (ptr b16 (o17 + 0))), (fun uz => uz = (Value.string (bs (l.getD i default).nm))), (fun uz => uz = (Value.agg #[(Value.int .i64 0), (Value.string (bs nm)), (Value.string (bs (l.getD i default).nm))])), (fun _ => True), (fun _ => True), (fun uz => uz = lv3), (fun uz => uz = (ptr b3 1)), (fun uz => uz = cv), (fun uz => uz = (Value.int .i64 ((i : Nat) : Int))), (fun uz => uz = (ptr b16 o17)), (fun uz => uz = (ptr b16 (o17 + 1))), (fun uz => uz = (Value.int .i64 (l.getD i default).kind)), (fun _ => True), (fun _ => True)]) (G := fun w' => RdC w' 0 w.heap.size 3 cv l.length (l.flatMap cellsC) ∧ Bx w' b3 55 [(Value.string (bs nm)), cv, iv]) [10, 11, 19, 20] (by kernel_rfl) (by kernel_rfl) (by kernel_rfl) (by kernel_rfl) (by kernel_rfl) hN10 (fun w1 w2 E h => by obtain ⟨h0, h1⟩ := h; exact ⟨h0.keep0 E, h1.keep0 E⟩) ⟨hl, hB5⟩ (ObRs9.cons ?_ (ObRs9.cons ?_ (ObRs9.cons ?_ (ObRs9.cons ?_ (ObRs9.cons ?_ (ObRs9.cons ?_ (ObRs9.cons ?_ (ObRs9.cons ?_ (ObRs9.cons ?_ (ObRs9.cons ?_ (ObRs9.pass rfl (ObRs9.pass rfl (ObRs9.cons ?_ (ObRs9.cons ?_ (ObRs9.cons ?_ (ObRs9.cons ?_ (ObRs9.cons ?_ (ObRs9.cons ?_ (ObRs9.cons ?_ (ObRs9.pass rfl (ObRs9.pass rfl (ObRs9.nil)))))))))))))))))))))) (by simp only [putsL_defers]) ?_
  ·
   intro eA aA wA hNA hGA hbsA hdpA
   have qA_4 := (hbsA 4 rfl).trans (sl_base hN10 rfl s10_4)
   refine op_move (ev_base hNA rfl qA_4) ?_
   exact obT_end rfl rfl
  ·
   intro eA aA wA hNA hGA hbsA hdpA
   have qA_1 := (hbsA 1 rfl).trans (sl_base hN10 rfl s10_1)
   refine op_field fld55_0 (ev_base hNA rfl qA_1) ?_
   exact obT_end rfl rfl
  ·
   intro eA aA wA hNA hGA hbsA hdpA
   have qA_15 : Sl aA 15 (ptr b3 0) := (hdpA 1 _ 15 (by kernel_rfl) rfl rfl).2 rfl
   obtain ⟨hl, hB5⟩ := hGA
   refine op_load1 (v := (Value.string (bs nm))) one9 (ev_base hNA rfl qA_15) (hB5.cell rfl) ?_
   exact obT_end rfl rfl
  ·
   intro eA aA wA hNA hGA hbsA hdpA
   have qA_1 := (hbsA 1 rfl).trans (sl_base hN10 rfl s10_1)
   refine op_field fld55_1 (ev_base hNA rfl qA_1) ?_
   exact obT_end rfl rfl
  ·
   intro eA aA wA hNA hGA hbsA hdpA
   have qA_17 : Sl aA 17 (ptr b3 1) := (hdpA 3 _ 17 (by kernel_rfl) rfl rfl).2 rfl
   obtain ⟨hl, hB5⟩ := hGA
   refine op_load1 (v := cv) one41 (ev_base hNA rfl qA_17) (hB5.cell rfl) ?_
   exact obT_end rfl rfl
  ·
   intro eA aA wA hNA hGA hbsA hdpA
   have qA_6 := (hbsA 6 rfl).trans (sl_base hN10 rfl s10_6)
   refine op_move (ev_base hNA rfl qA_6) ?_
   exact obT_end rfl rfl
  ·
   intro eA aA wA hNA hGA hbsA hdpA
   have qA_18 : Sl aA 18 cv := (hdpA 4 _ 18 (by kernel_rfl) rfl rfl).2 rfl
   have qA_19 : Sl aA 19 (Value.int .i64 ((i : Nat) : Int)) := (hdpA 5 _ 19 (by kernel_rfl) rfl rfl).2 rfl
   obtain ⟨hl, hB5⟩ := hGA
   refine op_index_atR (i := i) slt41 (ev_base hNA rfl qA_18) hl (by decide) (ev_base hNA rfl qA_19) (by omega) (by omega) hAt18 ?_
   exact obT_end rfl rfl
  ·
   intro eA aA wA hNA hGA hbsA hdpA
   have qA_20 : Sl aA 20 (ptr b16 o17) := (hdpA 6 _ 20 (by kernel_rfl) rfl rfl).2 rfl
   refine op_field fld68_0 (ev_base hNA rfl qA_20) ?_
   exact obT_end rfl rfl
  ·
   intro eA aA wA hNA hGA hbsA hdpA
   have qA_21 : Sl aA 21 (ptr b16 (o17 + 0)) := (hdpA 7 _ 21 (by kernel_rfl) rfl rfl).2 rfl
   obtain ⟨hl, hB5⟩ := hGA
   refine op_load1 (v := (Value.string (bs (l.getD i default).nm))) one9 (ev_base hNA rfl qA_21) (hl.cellAt hAt18 0 _ ((el_pc (i := i) rfl (by omega)) 0 _ rfl)) ?_
   exact obT_end rfl rfl
  ·
   intro eA aA wA hNA hGA hbsA hdpA
   have qA_16 : Sl aA 16 (Value.string (bs nm)) := (hdpA 2 _ 16 (by kernel_rfl) rfl rfl).2 rfl
   have qA_22 : Sl aA 22 (Value.string (bs (l.getD i default).nm)) := (hdpA 8 _ 22 (by kernel_rfl) rfl rfl).2 rfl
   refine op_build (pv := [(1, (Value.string (bs nm))), (2, (Value.string (bs (l.getD i default).nm)))]) (v := (Value.agg #[(Value.int .i64 0), (Value.string (bs nm)), (Value.string (bs (l.getD i default).nm))])) ⟨rfl, (ev_base hNA rfl qA_16), ⟨rfl, (ev_base hNA rfl qA_22), trivial⟩⟩ (by kernel_rfl) ?_
   exact obT_end rfl rfl
  ·
   intro eA aA wA hNA hGA hbsA hdpA
   have qA_5 := (hbsA 5 rfl).trans (sl_base hN10 rfl s10_5)
   refine op_move (ev_base hNA rfl qA_5) ?_
   exact obT_end rfl rfl
  ·
   intro eA aA wA hNA hGA hbsA hdpA
   have qA_1 := (hbsA 1 rfl).trans (sl_base hN10 rfl s10_1)
   refine op_field fld55_1 (ev_base hNA rfl qA_1) ?_
   exact obT_end rfl rfl
  ·
   intro eA aA wA hNA hGA hbsA hdpA
   have qA_27 : Sl aA 27 (ptr b3 1) := (hdpA 13 _ 27 (by kernel_rfl) rfl rfl).2 rfl
   obtain ⟨hl, hB5⟩ := hGA
   refine op_load1 (v := cv) one41 (ev_base hNA rfl qA_27) (hB5.cell rfl) ?_
   exact obT_end rfl rfl
  ·
   intro eA aA wA hNA hGA hbsA hdpA
   have qA_6 := (hbsA 6 rfl).trans (sl_base hN10 rfl s10_6)
   refine op_move (ev_base hNA rfl qA_6) ?_
   exact obT_end rfl rfl
  ·
   intro eA aA wA hNA hGA hbsA hdpA
   have qA_28 : Sl aA 28 cv := (hdpA 14 _ 28 (by kernel_rfl) rfl rfl).2 rfl
   have qA_29 : Sl aA 29 (Value.int .i64 ((i : Nat) : Int)) := (hdpA 15 _ 29 (by kernel_rfl) rfl rfl).2 rfl
   obtain ⟨hl, hB5⟩ := hGA
   refine op_index_atR (i := i) slt41 (ev_base hNA rfl qA_28) hl (by decide) (ev_base hNA rfl qA_29) (by omega) (by omega) hAt18 ?_
   exact obT_end rfl rfl
  ·
   intro eA aA wA hNA hGA hbsA hdpA
   have qA_30 : Sl aA 30 (ptr b16 o17) := (hdpA 16 _ 30 (by kernel_rfl) rfl rfl).2 rfl
   refine op_field fld68_1 (ev_base hNA rfl qA_30) ?_
   exact obT_end rfl rfl
  ·
   intro eA aA wA hNA hGA hbsA hdpA
   have qA_31 : Sl aA 31 (ptr b16 (o17 + 1)) := (hdpA 17 _ 31 (by kernel_rfl) rfl rfl).2 rfl
   obtain ⟨hl, hB5⟩ := hGA
   refine op_load1 (v := (Value.int .i64 (l.getD i default).kind)) one3 (ev_base hNA rfl qA_31) (hl.cellAt hAt18 1 _ ((el_pc (i := i) rfl (by omega)) 1 _ rfl)) ?_
   exact obT_end rfl rfl
  ·
   refine kt_step (rs := [10, 19]) (by kernel_rfl) ?_
   refine more_mem ?_ ?_
   ·
    intro w20 E20 _ a20 hN20 hbs20 hdp20 o_ ho_; obtain rfl := Option.some.inj ho_
    have z_w20 := E20.size
    have hl := hl.keep0 E20
    have hB5 := hB5.keep0 E20
    have hO11 := hO11.keep0 E20
    have hO12 := hO12.keep0 E20
    have hb := below_step0 hb E20 hb.size
    have q20_23 : Sl a20 23 (Value.agg #[(Value.int .i64 0), (Value.string (bs nm)), (Value.string (bs (l.getD i default).nm))]) := (hdp20 9 _ 23 (by kernel_rfl) rfl rfl).2 rfl
    refine op_bslice (e := 63) (pv := [(0, (Value.agg #[(Value.int .i64 0), (Value.string (bs nm)), (Value.string (bs (l.getD i default).nm))]))]) (cs := [(Value.int .i64 0), (Value.string (bs nm)), (Value.string (bs (l.getD i default).nm))]) ⟨rfl, (ev_base hN20 rfl q20_23), trivial⟩ (by kernel_rfl) ?_
    intro w21 b22 lo_b22 hi_b22 hB24 E23
    have z_w21 := E23.size
    have hl := hl.keep0 E23
    have hB5 := hB5.keep0 E23
    have hO11 := hO11.keep0 E23
    have hO12 := hO12.keep0 E23
    have hb := below_step0 hb E23 hb.size
    refine kt_end rfl ⟨hl, hB5⟩ ?_
    refine kt_step (rs := [11, 19]) (by kernel_rfl) ?_
    refine more_mem ?_ ?_
    ·
     intro w26 E26 _ a26 hN26 hbs26 hdp26 o_ ho_; obtain rfl := Option.some.inj ho_
     have z_w26 := E26.size
     have hl := hl.keep0 E26
     have hB5 := hB5.keep0 E26
     have hO11 := hO11.keep0 E26
     have hO12 := hO12.keep0 E26
     have hB24 := hB24.keep0 E26
     have hb := below_step0 hb E26 hb.size
     have q26_14 : Sl a26 14 lv2 := (hdp26 0 _ 14 (by kernel_rfl) rfl rfl).2 rfl
     have q26_24 : Sl a26 24 (Value.slice (some ⟨b22, 0, none⟩) 1 1) := (Option.some.inj ((hdp26 10 _ 24 (by kernel_rfl) rfl rfl).1 rfl)).symm
     have hP32 := hO11
     refine op_append slt22 (ev_base hN26 rfl q26_14) hP32 (ev_base hN26 rfl q26_24) (Src.ofRd Try.underlying22 (by decide) (RdC.ofBx (sz := 3) (n := 1) hB24 rfl (by decide)) (by simp [Value.oneCell', u8v])) (by unfold maxLen; omega) (by omega) hb.size ?_
     intro v27 w28 hO30 E29 hm31
     have z_w28 := E29.size
     have hl := hl.keepO hP32 E29 (by omega)
     have hB5 := hB5.keepO hP32 E29 (by decide)
     have hO12 := hO12.keepT hP32 E29 (by decide)
     have hb := below_stepO hb hP32 E29 hb.size (by omega)
     have hO30 : Own w28 w.heap.size 63 3 v27 ((colsOf nm (l.take i)).length + 1) ((((colsOf nm (l.take i)) ++ [(PItm.mk 0 nm ((l.getD i default).nm))])).flatMap cellsI) := by simpa [u8v, u16v, sv, cellsI] using hO30
     refine kt_end rfl ⟨hl, hB5⟩ ?_
     refine kt_step (rs := [19]) (by kernel_rfl) ?_
     refine one_mem ?_
     intro w34 E34 _ a34 hN34 hbs34 hdp34 o_ ho_; obtain rfl := Option.some.inj ho_
     have z_w34 := E34.size
     have hl := hl.keep0 E34
     have hB5 := hB5.keep0 E34
     have hO12 := hO12.keep0 E34
     have hO30 := hO30.keep0 E34
     have hb := below_step0 hb E34 hb.size
     have q34_32 : Sl a34 32 (Value.int .i64 (l.getD i default).kind) := (hdp34 18 _ 32 (by kernel_rfl) rfl rfl).2 rfl
     refine op_bslice (e := 3) (pv := [(0, (Value.int .i64 (l.getD i default).kind))]) (cs := [(Value.int .i64 (l.getD i default).kind)]) ⟨rfl, (ev_base hN34 rfl q34_32), trivial⟩ (by kernel_rfl) ?_
     intro w35 b36 lo_b36 hi_b36 hB38 E37
     have z_w35 := E37.size
     have hl := hl.keep0 E37
     have hB5 := hB5.keep0 E37
     have hO12 := hO12.keep0 E37
     have hO30 := hO30.keep0 E37
     have hb := below_step0 hb E37 hb.size
     refine kt_end rfl ⟨hl, hB5⟩ ?_
     refine kt_step (rs := [20]) (by kernel_rfl) ?_
     refine one_mem ?_
     intro w40 E40 _ a40 hN40 hbs40 hdp40 o_ ho_; obtain rfl := Option.some.inj ho_
     have z_w40 := E40.size
     have hl := hl.keep0 E40
     have hB5 := hB5.keep0 E40
     have hO12 := hO12.keep0 E40
     have hO30 := hO30.keep0 E40
     have hB38 := hB38.keep0 E40
     have hb := below_step0 hb E40 hb.size
     have q40_26 : Sl a40 26 lv3 := (hdp40 12 _ 26 (by kernel_rfl) rfl rfl).2 rfl
     have q40_33 : Sl a40 33 (Value.slice (some ⟨b36, 0, none⟩) 1 1) := (Option.some.inj ((hdp40 19 _ 33 (by kernel_rfl) rfl rfl).1 rfl)).symm
     have hP46 := hO12
     refine op_append slt23 (ev_base hN40 rfl q40_26) hP46 (ev_base hN40 rfl q40_33) (Src.ofRd Try.underlying23 (by decide) (RdC.ofBx (sz := 1) (n := 1) hB38 rfl (by decide)) (by simp [Value.oneCell', u8v])) (by unfold maxLen; omega) (by omega) hb.size ?_
     intro v41 w42 hO44 E43 hm45
     have z_w42 := E43.size
     have hl := hl.keepO hP46 E43 (by omega)
     have hB5 := hB5.keepO hP46 E43 (by decide)
     have hO30 := hO30.keepT hP46 E43 (by decide)
     have hb := below_stepO hb hP46 E43 hb.size (by omega)
     have hO44 : Own w42 w.heap.size 3 1 v41 ((kindsOf (l.take i)).length + 1) ((((kindsOf (l.take i)) ++ [(l.getD i default).kind])).map (Value.int .i64)) := by simpa [u8v, u16v, sv, cellsI] using hO44
     refine kt_end rfl ⟨hl, hB5⟩ ?_
     intro w47 E47 a47 hN47 hd47 hbs47 hph47
     have hd47 := hd47.trans ((by simp only [putsL_defers] : _ = _).trans hd10)
     have z_w47 := E47.size
     have hl := hl.keep0 E47
     have hB5 := hB5.keep0 E47
     have hO30 := hO30.keep0 E47
     have hO44 := hO44.keep0 E47
     have hb := below_step0 hb E47 hb.size
     have s47_1 := (hbs47 1 rfl).trans (sl_base hN10 rfl s10_1)
     have s47_2 := (hbs47 2 rfl).trans (sl_base hN10 rfl s10_2)
     have s47_3 := (hbs47 3 rfl).trans (sl_base hN10 rfl s10_3)
     have s47_6 := (hbs47 6 rfl).trans (sl_base hN10 rfl s10_6)
     have s47_25 : Sl a47 25 v27 := (Option.some.inj ((hph47 11 _ 25 rfl rfl).1 rfl)).symm
     have s47_34 : Sl a47 34 v41 := (Option.some.inj ((hph47 20 _ 34 rfl rfl).1 rfl)).symm
     refine split_end ?_
     refine from_seq (tl := [_, _]) (by decide) (by kernel_rfl) rfl ?_
     refine op_assign (ev_base hN47 rfl s47_25) (op_assign (ev_base hN47 rfl s47_34) (reg_nil (hK15 _ _ (one_reg (op_move (ev_base hN47 rfl s47_6) (op_add (ev_hit hN47 rfl) rfl (add64 (by omega)) ?_))))))
     refine op_assign (ev_hit hN47 rfl) (reg_nil ?_)
     -- round 11T
     exact loop_next _ hN47 hd47 ⟨(i + 1), v27, v41, rfl, (sl_base hN47 rfl s47_1), (sl_base hN47 rfl s47_2), (sl_base hN47 rfl s47_3), (sl_hit hN47 rfl).trans (congrArg (Value.int .i64) (by omega)), (sl_hit hN47 rfl), (sl_hit hN47 rfl), (by omega), hb, (by omega), hl, hB5, (hO30.cast (by rw [cols_snoc (by omega)] <;> simp) (by rw [cols_snoc (by omega)] <;> simp [cellsI])), (hO44.cast (by rw [kinds_snoc (by omega)] <;> simp) (by rw [kinds_snoc (by omega)] <;> simp))⟩ (by omega)
    refine one_mem ?_
    intro w48 E48 _ a48 hN48 hbs48 hdp48 o_ ho_; obtain rfl := Option.some.inj ho_
    have z_w48 := E48.size
    have hl := hl.keep0 E48
    have hB5 := hB5.keep0 E48
    have hO11 := hO11.keep0 E48
    have hO12 := hO12.keep0 E48
    have hB24 := hB24.keep0 E48
    have hb := below_step0 hb E48 hb.size
    have q48_32 : Sl a48 32 (Value.int .i64 (l.getD i default).kind) := (hdp48 18 _ 32 (by kernel_rfl) rfl rfl).2 rfl
    refine op_bslice (e := 3) (pv := [(0, (Value.int .i64 (l.getD i default).kind))]) (cs := [(Value.int .i64 (l.getD i default).kind)]) ⟨rfl, (ev_base hN48 rfl q48_32), trivial⟩ (by kernel_rfl) ?_
    intro w49 b50 lo_b50 hi_b50 hB52 E51
    have z_w49 := E51.size
    have hl := hl.keep0 E51
    have hB5 := hB5.keep0 E51
    have hO11 := hO11.keep0 E51
    have hO12 := hO12.keep0 E51
    have hB24 := hB24.keep0 E51
    have hb := below_step0 hb E51 hb.size
    refine kt_end rfl ⟨hl, hB5⟩ ?_
    refine kt_step (rs := [11]) (by kernel_rfl) ?_
    refine one_mem ?_
    intro w54 E54 _ a54 hN54 hbs54 hdp54 o_ ho_; obtain rfl := Option.some.inj ho_
    have z_w54 := E54.size
    have hl := hl.keep0 E54
    have hB5 := hB5.keep0 E54
    have hO11 := hO11.keep0 E54
    have hO12 := hO12.keep0 E54
    have hB24 := hB24.keep0 E54
    have hB52 := hB52.keep0 E54
    have hb := below_step0 hb E54 hb.size
    have q54_14 : Sl a54 14 lv2 := (hdp54 0 _ 14 (by kernel_rfl) rfl rfl).2 rfl
    have q54_24 : Sl a54 24 (Value.slice (some ⟨b22, 0, none⟩) 1 1) := (Option.some.inj ((hdp54 10 _ 24 (by kernel_rfl) rfl rfl).1 rfl)).symm
    have hP60 := hO11
    refine op_append slt22 (ev_base hN54 rfl q54_14) hP60 (ev_base hN54 rfl q54_24) (Src.ofRd Try.underlying22 (by decide) (RdC.ofBx (sz := 3) (n := 1) hB24 rfl (by decide)) (by simp [Value.oneCell', u8v])) (by unfold maxLen; omega) (by omega) hb.size ?_
    intro v55 w56 hO58 E57 hm59
    have z_w56 := E57.size
    have hl := hl.keepO hP60 E57 (by omega)
    have hB5 := hB5.keepO hP60 E57 (by decide)
    have hO12 := hO12.keepT hP60 E57 (by decide)
    have hB52 := hB52.keepO hP60 E57 (by decide)
    have hb := below_stepO hb hP60 E57 hb.size (by omega)
    have hO58 : Own w56 w.heap.size 63 3 v55 ((colsOf nm (l.take i)).length + 1) ((((colsOf nm (l.take i)) ++ [(PItm.mk 0 nm ((l.getD i default).nm))])).flatMap cellsI) := by simpa [u8v, u16v, sv, cellsI] using hO58
    refine kt_end rfl ⟨hl, hB5⟩ ?_
    refine kt_step (rs := [20]) (by kernel_rfl) ?_
    refine one_mem ?_
    intro w62 E62 _ a62 hN62 hbs62 hdp62 o_ ho_; obtain rfl := Option.some.inj ho_
    have z_w62 := E62.size
    have hl := hl.keep0 E62
    have hB5 := hB5.keep0 E62
    have hO12 := hO12.keep0 E62
    have hB52 := hB52.keep0 E62
    have hO58 := hO58.keep0 E62
    have hb := below_step0 hb E62 hb.size
    have q62_26 : Sl a62 26 lv3 := (hdp62 12 _ 26 (by kernel_rfl) rfl rfl).2 rfl
    have q62_33 : Sl a62 33 (Value.slice (some ⟨b50, 0, none⟩) 1 1) := (Option.some.inj ((hdp62 19 _ 33 (by kernel_rfl) rfl rfl).1 rfl)).symm
    have hP68 := hO12
    refine op_append slt23 (ev_base hN62 rfl q62_26) hP68 (ev_base hN62 rfl q62_33) (Src.ofRd Try.underlying23 (by decide) (RdC.ofBx (sz := 1) (n := 1) hB52 rfl (by decide)) (by simp [Value.oneCell', u8v])) (by unfold maxLen; omega) (by omega) hb.size ?_
    intro v63 w64 hO66 E65 hm67
    have z_w64 := E65.size
    have hl := hl.keepO hP68 E65 (by omega)
    have hB5 := hB5.keepO hP68 E65 (by decide)
    have hO58 := hO58.keepT hP68 E65 (by decide)
    have hb := below_stepO hb hP68 E65 hb.size (by omega)
    have hO66 : Own w64 w.heap.size 3 1 v63 ((kindsOf (l.take i)).length + 1) ((((kindsOf (l.take i)) ++ [(l.getD i default).kind])).map (Value.int .i64)) := by simpa [u8v, u16v, sv, cellsI] using hO66
    refine kt_end rfl ⟨hl, hB5⟩ ?_
    intro w69 E69 a69 hN69 hd69 hbs69 hph69
    have hd69 := hd69.trans ((by simp only [putsL_defers] : _ = _).trans hd10)
    have z_w69 := E69.size
    have hl := hl.keep0 E69
    have hB5 := hB5.keep0 E69
    have hO58 := hO58.keep0 E69
    have hO66 := hO66.keep0 E69
    have hb := below_step0 hb E69 hb.size
    have s69_1 := (hbs69 1 rfl).trans (sl_base hN10 rfl s10_1)
    have s69_2 := (hbs69 2 rfl).trans (sl_base hN10 rfl s10_2)
    have s69_3 := (hbs69 3 rfl).trans (sl_base hN10 rfl s10_3)
    have s69_6 := (hbs69 6 rfl).trans (sl_base hN10 rfl s10_6)
    have s69_25 : Sl a69 25 v55 := (Option.some.inj ((hph69 11 _ 25 rfl rfl).1 rfl)).symm
    have s69_34 : Sl a69 34 v63 := (Option.some.inj ((hph69 20 _ 34 rfl rfl).1 rfl)).symm
    refine split_end ?_
    refine from_seq (tl := [_, _]) (by decide) (by kernel_rfl) rfl ?_
    refine op_assign (ev_base hN69 rfl s69_25) (op_assign (ev_base hN69 rfl s69_34) (reg_nil (hK15 _ _ (one_reg (op_move (ev_base hN69 rfl s69_6) (op_add (ev_hit hN69 rfl) rfl (add64 (by omega)) ?_))))))
    refine op_assign (ev_hit hN69 rfl) (reg_nil ?_)
    -- round 11T
    exact loop_next _ hN69 hd69 ⟨(i + 1), v55, v63, rfl, (sl_base hN69 rfl s69_1), (sl_base hN69 rfl s69_2), (sl_base hN69 rfl s69_3), (sl_hit hN69 rfl).trans (congrArg (Value.int .i64) (by omega)), (sl_hit hN69 rfl), (sl_hit hN69 rfl), (by omega), hb, (by omega), hl, hB5, (hO58.cast (by rw [cols_snoc (by omega)] <;> simp) (by rw [cols_snoc (by omega)] <;> simp [cellsI])), (hO66.cast (by rw [kinds_snoc (by omega)] <;> simp) (by rw [kinds_snoc (by omega)] <;> simp))⟩ (by omega)
   refine one_mem ?_
   intro w70 E70 _ a70 hN70 hbs70 hdp70 o_ ho_; obtain rfl := Option.some.inj ho_
   have z_w70 := E70.size
   have hl := hl.keep0 E70
   have hB5 := hB5.keep0 E70
   have hO11 := hO11.keep0 E70
   have hO12 := hO12.keep0 E70
   have hb := below_step0 hb E70 hb.size
   have q70_32 : Sl a70 32 (Value.int .i64 (l.getD i default).kind) := (hdp70 18 _ 32 (by kernel_rfl) rfl rfl).2 rfl
   refine op_bslice (e := 3) (pv := [(0, (Value.int .i64 (l.getD i default).kind))]) (cs := [(Value.int .i64 (l.getD i default).kind)]) ⟨rfl, (ev_base hN70 rfl q70_32), trivial⟩ (by kernel_rfl) ?_
   intro w71 b72 lo_b72 hi_b72 hB74 E73
   have z_w71 := E73.size
   have hl := hl.keep0 E73
   have hB5 := hB5.keep0 E73
   have hO11 := hO11.keep0 E73
   have hO12 := hO12.keep0 E73
   have hb := below_step0 hb E73 hb.size
   refine kt_end rfl ⟨hl, hB5⟩ ?_
   refine kt_step (rs := [10]) (by kernel_rfl) ?_
   refine one_mem ?_
   intro w76 E76 _ a76 hN76 hbs76 hdp76 o_ ho_; obtain rfl := Option.some.inj ho_
   have z_w76 := E76.size
   have hl := hl.keep0 E76
   have hB5 := hB5.keep0 E76
   have hO11 := hO11.keep0 E76
   have hO12 := hO12.keep0 E76
   have hB74 := hB74.keep0 E76
   have hb := below_step0 hb E76 hb.size
   have q76_23 : Sl a76 23 (Value.agg #[(Value.int .i64 0), (Value.string (bs nm)), (Value.string (bs (l.getD i default).nm))]) := (hdp76 9 _ 23 (by kernel_rfl) rfl rfl).2 rfl
   refine op_bslice (e := 63) (pv := [(0, (Value.agg #[(Value.int .i64 0), (Value.string (bs nm)), (Value.string (bs (l.getD i default).nm))]))]) (cs := [(Value.int .i64 0), (Value.string (bs nm)), (Value.string (bs (l.getD i default).nm))]) ⟨rfl, (ev_base hN76 rfl q76_23), trivial⟩ (by kernel_rfl) ?_
   intro w77 b78 lo_b78 hi_b78 hB80 E79
   have z_w77 := E79.size
   have hl := hl.keep0 E79
   have hB5 := hB5.keep0 E79
   have hO11 := hO11.keep0 E79
   have hO12 := hO12.keep0 E79
   have hB74 := hB74.keep0 E79
   have hb := below_step0 hb E79 hb.size
   refine kt_end rfl ⟨hl, hB5⟩ ?_
   refine kt_step (rs := [11]) (by kernel_rfl) ?_
   refine one_mem ?_
   intro w82 E82 _ a82 hN82 hbs82 hdp82 o_ ho_; obtain rfl := Option.some.inj ho_
   have z_w82 := E82.size
   have hl := hl.keep0 E82
   have hB5 := hB5.keep0 E82
   have hO11 := hO11.keep0 E82
   have hO12 := hO12.keep0 E82
   have hB74 := hB74.keep0 E82
   have hB80 := hB80.keep0 E82
   have hb := below_step0 hb E82 hb.size
   have q82_14 : Sl a82 14 lv2 := (hdp82 0 _ 14 (by kernel_rfl) rfl rfl).2 rfl
   have q82_24 : Sl a82 24 (Value.slice (some ⟨b78, 0, none⟩) 1 1) := (Option.some.inj ((hdp82 10 _ 24 (by kernel_rfl) rfl rfl).1 rfl)).symm
   have hP88 := hO11
   refine op_append slt22 (ev_base hN82 rfl q82_14) hP88 (ev_base hN82 rfl q82_24) (Src.ofRd Try.underlying22 (by decide) (RdC.ofBx (sz := 3) (n := 1) hB80 rfl (by decide)) (by simp [Value.oneCell', u8v])) (by unfold maxLen; omega) (by omega) hb.size ?_
   intro v83 w84 hO86 E85 hm87
   have z_w84 := E85.size
   have hl := hl.keepO hP88 E85 (by omega)
   have hB5 := hB5.keepO hP88 E85 (by decide)
   have hO12 := hO12.keepT hP88 E85 (by decide)
   have hB74 := hB74.keepO hP88 E85 (by decide)
   have hb := below_stepO hb hP88 E85 hb.size (by omega)
   have hO86 : Own w84 w.heap.size 63 3 v83 ((colsOf nm (l.take i)).length + 1) ((((colsOf nm (l.take i)) ++ [(PItm.mk 0 nm ((l.getD i default).nm))])).flatMap cellsI) := by simpa [u8v, u16v, sv, cellsI] using hO86
   refine kt_end rfl ⟨hl, hB5⟩ ?_
   refine kt_step (rs := [20]) (by kernel_rfl) ?_
   refine one_mem ?_
   intro w90 E90 _ a90 hN90 hbs90 hdp90 o_ ho_; obtain rfl := Option.some.inj ho_
   have z_w90 := E90.size
   have hl := hl.keep0 E90
   have hB5 := hB5.keep0 E90
   have hO12 := hO12.keep0 E90
   have hB74 := hB74.keep0 E90
   have hO86 := hO86.keep0 E90
   have hb := below_step0 hb E90 hb.size
   have q90_26 : Sl a90 26 lv3 := (hdp90 12 _ 26 (by kernel_rfl) rfl rfl).2 rfl
   have q90_33 : Sl a90 33 (Value.slice (some ⟨b72, 0, none⟩) 1 1) := (Option.some.inj ((hdp90 19 _ 33 (by kernel_rfl) rfl rfl).1 rfl)).symm
   have hP96 := hO12
   refine op_append slt23 (ev_base hN90 rfl q90_26) hP96 (ev_base hN90 rfl q90_33) (Src.ofRd Try.underlying23 (by decide) (RdC.ofBx (sz := 1) (n := 1) hB74 rfl (by decide)) (by simp [Value.oneCell', u8v])) (by unfold maxLen; omega) (by omega) hb.size ?_
   intro v91 w92 hO94 E93 hm95
   have z_w92 := E93.size
   have hl := hl.keepO hP96 E93 (by omega)
   have hB5 := hB5.keepO hP96 E93 (by decide)
   have hO86 := hO86.keepT hP96 E93 (by decide)
   have hb := below_stepO hb hP96 E93 hb.size (by omega)
   have hO94 : Own w92 w.heap.size 3 1 v91 ((kindsOf (l.take i)).length + 1) ((((kindsOf (l.take i)) ++ [(l.getD i default).kind])).map (Value.int .i64)) := by simpa [u8v, u16v, sv, cellsI] using hO94
   refine kt_end rfl ⟨hl, hB5⟩ ?_
   intro w97 E97 a97 hN97 hd97 hbs97 hph97
   have hd97 := hd97.trans ((by simp only [putsL_defers] : _ = _).trans hd10)
   have z_w97 := E97.size
   have hl := hl.keep0 E97
   have hB5 := hB5.keep0 E97
   have hO86 := hO86.keep0 E97
   have hO94 := hO94.keep0 E97
   have hb := below_step0 hb E97 hb.size
   have s97_1 := (hbs97 1 rfl).trans (sl_base hN10 rfl s10_1)
   have s97_2 := (hbs97 2 rfl).trans (sl_base hN10 rfl s10_2)
   have s97_3 := (hbs97 3 rfl).trans (sl_base hN10 rfl s10_3)
   have s97_6 := (hbs97 6 rfl).trans (sl_base hN10 rfl s10_6)
   have s97_25 : Sl a97 25 v83 := (Option.some.inj ((hph97 11 _ 25 rfl rfl).1 rfl)).symm
   have s97_34 : Sl a97 34 v91 := (Option.some.inj ((hph97 20 _ 34 rfl rfl).1 rfl)).symm
   refine split_end ?_
   refine from_seq (tl := [_, _]) (by decide) (by kernel_rfl) rfl ?_
   refine op_assign (ev_base hN97 rfl s97_25) (op_assign (ev_base hN97 rfl s97_34) (reg_nil (hK15 _ _ (one_reg (op_move (ev_base hN97 rfl s97_6) (op_add (ev_hit hN97 rfl) rfl (add64 (by omega)) ?_))))))
   refine op_assign (ev_hit hN97 rfl) (reg_nil ?_)
   -- round 11T
   exact loop_next _ hN97 hd97 ⟨(i + 1), v83, v91, rfl, (sl_base hN97 rfl s97_1), (sl_base hN97 rfl s97_2), (sl_base hN97 rfl s97_3), (sl_hit hN97 rfl).trans (congrArg (Value.int .i64) (by omega)), (sl_hit hN97 rfl), (sl_hit hN97 rfl), (by omega), hb, (by omega), hl, hB5, (hO86.cast (by rw [cols_snoc (by omega)] <;> simp) (by rw [cols_snoc (by omega)] <;> simp [cellsI])), (hO94.cast (by rw [kinds_snoc (by omega)] <;> simp) (by rw [kinds_snoc (by omega)] <;> simp))⟩ (by omega)
 ·
  refine reg_nil (hK14 _ _ (wp_cond_false (ev_hit hN10 rfl) (wp_exit (then_exit (then_exit (blk_hit ?_))))))
  refine hK8 _ _ (seq_any fun K98 hK98 => one_reg ?_)
  refine op_move (ev_base hN10 rfl s10_4) (op_move (ev_base hN10 rfl s10_5) (op_assign (ev_hit hN10 rfl) (op_assign (ev_hit hN10 rfl) (reg_nil (hK98 _ _ (wp_ret ?_))))))
  refine ret2 rfl hd10 (ev_hit hN10 rfl) (ev_hit hN10 rfl) ⟨_, rfl, ?_⟩
  have e9 : l.take i = l := List.take_of_length_le (by omega)
  rw [e9] at hO11 hO12
  exact ⟨hb, _, _, rfl, hO11.rdw, hO12.rdw⟩
def ExprP (m : Nat) : Prop := ∀ {base p n Bp : Nat} {lv : Value} {bl : List UInt8} {C : List PItm} {K : List Int} {vc vk : Value} {Lc Bc : Nat} {kd : Int} {deep : Nat} {w : World}, 2 * (4 - deep) + (if kd = 3 then 1 else 0) = m → PickR w base p lv bl n (fun k => k = p) → Bp ≤ p → RdC w 0 Bp 1 lv bl.length (bl.map u8v) → RdC w Lc Bc 3 vc C.length (C.flatMap cellsI) → RdC w Lc Bc 1 vk K.length (K.map (Value.int .i64)) → Bc ≤ w.heap.size → (p < Lc ∨ Bc ≤ p) → C.length ≤ 1000 → 1 ≤ kd → kd ≤ 3 → deep ≤ 5 → (kd = 3 → deep ≤ 4) →
  Ret Try.prog 22 #[ptr p 0, vc, vk, .int .i64 kd, .int .i64 ((deep : Nat) : Int)] w (fun v' w' => Gr w w' (fun k => k = p) ∧ ∃ e : XE, v' = (Value.agg #[(Value.int .i64 e.op), (Value.int .i64 e.vk), (Value.int .i64 e.vi), (Value.string (bs e.vt)), (Value.string (bs e.tb)), (Value.string (bs e.nm)), e.av]) ∧ XFr w' w.heap.size w'.heap.size e ∧ (GoodC C K → kindX C K e = (kd, 0)) ∧ ∃ n' : Nat, PickR w' base p lv bl n' (fun k => k = p) ∧ n ≤ n')

set_option maxHeartbeats 1600000 in
theorem Expr_in {base p n Bp : Nat} {lv : Value} {bl : List UInt8} {C : List PItm} {K : List Int} {vc vk : Value} {Lc Bc : Nat} {kd : Int} {deep : Nat} {w : World} (hpk : PickR w base p lv bl n (fun k => k = p)) (hBp : Bp ≤ p) (hbl : RdC w 0 Bp 1 lv bl.length (bl.map u8v)) (hC : RdC w Lc Bc 3 vc C.length (C.flatMap cellsI)) (hK : RdC w Lc Bc 1 vk K.length (K.map (Value.int .i64))) (hBc : Bc ≤ w.heap.size) (hcp : p < Lc ∨ Bc ≤ p) (hcl : C.length ≤ 1000) (hk1 : 1 ≤ kd) (hk2 : kd ≤ 3) (hd5 : deep ≤ 5) (hd4 : kd = 3 → deep ≤ 4) (ih : ∀ m, m < 2 * (4 - deep) + (if kd = 3 then 1 else 0) → ExprP m) : Ret Try.prog 22 #[(ptr p 0), vc, vk, (Value.int .i64 kd), (Value.int .i64 ((deep : Nat) : Int))] w (fun v' w' => Gr w w' (fun k => k = p) ∧ ∃ e : XE, v' = (Value.agg #[(Value.int .i64 e.op), (Value.int .i64 e.vk), (Value.int .i64 e.vi), (Value.string (bs e.vt)), (Value.string (bs e.tb)), (Value.string (bs e.nm)), e.av]) ∧ XFr w' w.heap.size w'.heap.size e ∧ (GoodC C K → kindX C K e = (kd, 0)) ∧ ∃ n' : Nat, PickR w' base p lv bl n' (fun k => k = p) ∧ n ≤ n') := by
 have hi_p : p < w.heap.size := (hpk.lt p rfl).2
 have hb := Gr.refl w (fun k => k = p)
 refine enter (N := 137) Try.func22 rfl rfl (by simp) fun a0 hN hd hA => ?_
 have s0 : a0.tmps.getD 0 undef = (ptr p 0) := hA 0 (by simp)
 have s1 : a0.tmps.getD 1 undef = vc := hA 1 (by simp)
 have s2 : a0.tmps.getD 2 undef = vk := hA 2 (by simp)
 have s3 : a0.tmps.getD 3 undef = (Value.int .i64 kd) := hA 3 (by simp)
 have s4 : a0.tmps.getD 4 undef = (Value.int .i64 ((deep : Nat) : Int)) := hA 4 (by simp)
 clear hA
 refine seq_any fun K1 hK1 => one_reg (op_alloc (cs := [(Value.int .i64 0), (Value.int .i64 0), (Value.int .i64 0), (Value.string (bs [])), (Value.string (bs [])), (Value.string (bs [])), (Value.slice none 0 0)]) zero28 rfl ?_)
 intro w2 b3 lo_b3 hi_b3 hB5 E4
 have dj6 : ¬ (fun k => k = p) b3 := fun hf => by have := (hpk.lt _ hf).2; omega
 have z_w2 := E4.size
 have hpk := hpk.kz E4
 have hbl := hbl.keep0 E4
 have hC := hC.keep0 E4
 have hK := hK.keep0 E4
 have hb := hb.step0 E4
 refine reg_nil (hK1 _ _ (seq_any fun K7 hK7 => one_reg (op_move (ev_base hN rfl s0) (op_fn (vs := [(ptr p 0), (Value.int .i64 8)]) ok35 ⟨(ev_hit hN rfl), ⟨rfl, trivial⟩⟩ (Num_ret (m := 8) hpk (by omega) hbl (by omega) (by omega)) ?_))))
 rintro _ w9 ⟨E10, r8, rfl, hr8, n8, hk8, hn8, hn8x⟩
 have hpk_old := hpk
 have z_w9 := E10.size
 have hbl := hbl.keepG E10 (fun k hk => .inr (by have := hpk_old.lt k hk; omega))
 have hC := hC.keepG E10 (fun k hk => by have h9 : k = p := hk; omega)
 have hK := hK.keepG E10 (fun k hk => by have h9 : k = p := hk; omega)
 have hB5 := hB5.keepG E10 dj6
 have hb := hb.stepF E10 (fun _ _ h => h)
 refine op_assign (ev_hit hN rfl) (reg_nil (hK7 _ _ (seq_any fun K11 hK11 => seq_any fun K12 hK12 => ?_)))
 refine one_reg (op_move (ev_base hN rfl s3) (op_eql (ev_hit hN rfl) rfl (fun c18 => ?_) (fun c18 => ?_)))
 ·
  refine reg_nil (hK12 _ _ (wp_cond_true (ev_hit hN rfl) (seq_any fun K13 hK13 => wp_block ?_)))
  refine seq_any fun K14 hK14 => ?_
  refine one_reg (op_move (ev_base hN rfl s4) (op_gtr (ev_hit hN rfl) rfl (fun c21 => ?_) (fun c21 => ?_)))
  ·
   refine op_move (ev_hit hN rfl) (g_false (j := 2) (dj := 22) (b := false) rfl rfl rfl (ev_hit hN rfl) rfl rfl (g_false (j := 2) (dj := 22) (b := false) rfl rfl rfl (ev_hit hN rfl) rfl rfl (op_pick_t (ev_hit hN rfl) rfl ?_)))
   refine op_assign (ev_hit hN rfl) ?_
   refine reg_nil (hK14 _ _ (wp_cond_true (ev_hit hN rfl) (seq_any fun K15 hK15 => one_reg (op_move (ev_base hN rfl s0) (op_fn (vs := [(ptr p 0), (Value.int .i64 2)]) ok35 ⟨(ev_hit hN rfl), ⟨rfl, trivial⟩⟩ (Num_ret (m := 2) hk8 (by omega) hbl (by omega) (by omega)) ?_)))))
   rintro _ w17 ⟨E18, r16, rfl, hr16, n16, hk16, hn16, hn16x⟩
   have hk8_old := hk8
   have z_w17 := E18.size
   have hbl := hbl.keepG E18 (fun k hk => .inr (by have := hk8_old.lt k hk; omega))
   have hC := hC.keepG E18 (fun k hk => by have h9 : k = p := hk; omega)
   have hK := hK.keepG E18 (fun k hk => by have h9 : k = p := hk; omega)
   have hB5 := hB5.keepG E18 dj6
   have hb := hb.stepF E18 (fun _ _ h => h)
   refine op_add rfl (ev_hit hN rfl) (add64 (by omega)) ?_
   refine op_assign (ev_hit hN rfl) (reg_nil (hK15 _ _ (seq_any fun K19 hK19 => one_reg (op_move (ev_base hN rfl s0) (op_fn (vs := [(ptr p 0), (Value.int .i64 6)]) ok35 ⟨(ev_hit hN rfl), ⟨rfl, trivial⟩⟩ (Num_ret (m := 6) hk16 (by omega) hbl (by omega) (by omega)) ?_)))))
   rintro _ w21 ⟨E22, r20, rfl, hr20, n20, hk20, hn20, hn20x⟩
   have hk16_old := hk16
   have z_w21 := E22.size
   have hbl := hbl.keepG E22 (fun k hk => .inr (by have := hk16_old.lt k hk; omega))
   have hC := hC.keepG E22 (fun k hk => by have h9 : k = p := hk; omega)
   have hK := hK.keepG E22 (fun k hk => by have h9 : k = p := hk; omega)
   have hB5 := hB5.keepG E22 dj6
   have hb := hb.stepF E22 (fun _ _ h => h)
   refine op_add rfl (ev_hit hN rfl) (add64 (by omega)) ?_
   refine op_move (ev_base hN rfl s0) (op_move (ev_base hN rfl s1) (op_move (ev_base hN rfl s2) (op_move (ev_hit hN rfl) (op_move (ev_base hN rfl s4) (op_add (ev_hit hN rfl) rfl (add64 (by omega)) ?_)))))
   refine op_fn (vs := [(ptr p 0), vc, vk, (Value.int .i64 (1 + ((r16 : Nat) : Int))), (Value.int .i64 (((deep : Nat) : Int) + 1))]) ok22 ⟨(ev_hit hN rfl), ⟨(ev_hit hN rfl), ⟨(ev_hit hN rfl), ⟨(ev_hit hN rfl), ⟨(ev_hit hN rfl), trivial⟩⟩⟩⟩⟩ (ih _ (by split <;> omega) (kd := (1 + ((r16 : Nat) : Int))) (deep := (deep + 1)) rfl hk20 (by omega) hbl hC hK (by omega) (by omega) (by omega) (by omega) (by omega) (by omega) (by omega)) ?_
   rintro _ w24 ⟨E25, e23, rfl, he23, hg23, n23, hk23, hn23⟩
   have hk20_old := hk20
   have z_w24 := E25.size
   have hbl := hbl.keepG E25 (fun k hk => .inr (by have := hk20_old.lt k hk; omega))
   have hC := hC.keepG E25 (fun k hk => by have h9 : k = p := hk; omega)
   have hK := hK.keepG E25 (fun k hk => by have h9 : k = p := hk; omega)
   have hB5 := hB5.keepG E25 dj6
   have hb := hb.stepF E25 (fun _ _ h => h)
   refine op_move (ev_base hN rfl s0) (op_move (ev_base hN rfl s1) (op_move (ev_base hN rfl s2) (op_move (ev_hit hN rfl) (op_move (ev_base hN rfl s4) (op_add (ev_hit hN rfl) rfl (add64 (by omega)) ?_)))))
   refine op_fn (vs := [(ptr p 0), vc, vk, (Value.int .i64 (1 + ((r16 : Nat) : Int))), (Value.int .i64 (((deep : Nat) : Int) + 1))]) ok22 ⟨(ev_hit hN rfl), ⟨(ev_hit hN rfl), ⟨(ev_hit hN rfl), ⟨(ev_hit hN rfl), ⟨(ev_hit hN rfl), trivial⟩⟩⟩⟩⟩ (ih _ (by split <;> omega) (kd := (1 + ((r16 : Nat) : Int))) (deep := (deep + 1)) rfl hk23 (by omega) hbl hC hK (by omega) (by omega) (by omega) (by omega) (by omega) (by omega) (by omega)) ?_
   rintro _ w27 ⟨E28, e26, rfl, he26, hg26, n26, hk26, hn26⟩
   have z_w27 := E28.size
   have hB5 := hB5.keepG E28 dj6
   have he23 := he23.keepG E28 (fun k hk => .inl (by have h9 : k = p := hk; omega))
   have hb := hb.stepF E28 (fun _ _ h => h)
   refine op_fn (vs := [(Value.int .i64 (8 + ((r20 : Nat) : Int))), (Value.agg #[(Value.int .i64 e23.op), (Value.int .i64 e23.vk), (Value.int .i64 e23.vi), (Value.string (bs e23.vt)), (Value.string (bs e23.tb)), (Value.string (bs e23.nm)), e23.av]), (Value.agg #[(Value.int .i64 e26.op), (Value.int .i64 e26.vk), (Value.int .i64 e26.vi), (Value.string (bs e26.vt)), (Value.string (bs e26.tb)), (Value.string (bs e26.nm)), e26.av])]) ok53 ⟨(ev_hit hN rfl), ⟨(ev_hit hN rfl), ⟨(ev_hit hN rfl), trivial⟩⟩⟩ (two_ret (L := w21.heap.size) (8 + ((r20 : Nat) : Int)) e23 e26 _ (by omega) (he23.mono (by omega) (by omega)) (he26.mono (by omega) (by omega))) ?_
   rintro _ w30 ⟨E31, av29, rfl, hv29⟩
   have E31 := grown_of_below E31
   have z_w30 := E31.size
   have hB5 := hB5.keep0 E31
   have hk26 := hk26.kz E31
   have hb := hb.step0 E31
   refine op_store (vs := [(Value.int .i64 (8 + ((r20 : Nat) : Int))), (Value.int .i64 0), (Value.int .i64 0), (Value.string (bs [])), (Value.string (bs [])), (Value.string (bs [])), av29]) (cs' := [(Value.int .i64 (8 + ((r20 : Nat) : Int))), (Value.int .i64 0), (Value.int .i64 0), (Value.string (bs [])), (Value.string (bs [])), (Value.string (bs [])), av29]) size28 (ev_hit hN rfl) (ev_hit hN rfl) rfl rfl (by simp only [List.all_cons, List.all_nil, Bool.true_and, Bool.and_true, hv29.1.one]; try rfl) hB5 (Nat.le_of_ble_eq_true rfl) rfl ?_
   intro w34 hB5 E35
   have z_w34 := E35.size
   have hk26 := hk26.keepG (Gr.of E35) (Dj.one dj6)
   have hv29 := hv29.keep E35 (fun k hk => (by simp at hk; omega))
   have hb := hb.step1 E35 (by omega)
   refine reg_nil (hK19 _ _ (wp_ret (blk_ret (then_ret (then_ret ( ?_))))))
   refine retN (rs := [.cell 10 28]) (vs := [(Value.agg #[(Value.int .i64 (8 + ((r20 : Nat) : Int))), (Value.int .i64 0), (Value.int .i64 0), (Value.string (bs [])), (Value.string (bs [])), (Value.string (bs [])), av29])]) rfl hd ⟨⟨_, (ev_hit hN rfl), run_loadA (cs := [(Value.int .i64 (8 + ((r20 : Nat) : Int))), (Value.int .i64 0), (Value.int .i64 0), (Value.string (bs [])), (Value.string (bs [])), (Value.string (bs [])), av29]) agg28 rfl (fun j u hu => by rw [Nat.zero_add]; exact hB5.cell hu)⟩, trivial⟩ rfl ⟨_, rfl, ?_⟩
   refine ⟨hb, (XE.mk (8 + ((r20 : Nat) : Int)) 0 0 [] [] [] av29 [e23, e26]), rfl, (hv29.mono (by omega) (by omega)).node, fun hg => (kind_two (a := e23) (b := e26) rfl (hg23 hg) (hg26 hg) ?_).trans ?_, n26, hk26, by omega⟩
   · show (5 ≤ (8 + ((r20 : Nat) : Int)) ∧ (8 + ((r20 : Nat) : Int)) ≤ 7 ∧ (1 + ((r16 : Nat) : Int)) = 1) ∨ (8 ≤ (8 + ((r20 : Nat) : Int)) ∧ (8 + ((r20 : Nat) : Int)) ≤ 13 ∧ ((1 + ((r16 : Nat) : Int)) = 1 ∨ (1 + ((r16 : Nat) : Int)) = 2)) ∨ (((8 + ((r20 : Nat) : Int)) = 14 ∨ (8 + ((r20 : Nat) : Int)) = 15) ∧ (1 + ((r16 : Nat) : Int)) = 3); omega
   · show ((if 5 ≤ (8 + ((r20 : Nat) : Int)) ∧ (8 + ((r20 : Nat) : Int)) ≤ 7 then (1 : Int) else 3), (0 : Int)) = _; rw [if_neg (by omega), show kd = 3 by omega]
  ·
   refine op_move (ev_hit hN rfl) (g_true (j := 2) (dj := 22) (b := false) rfl rfl rfl (ev_hit hN rfl) (op_move (ev_hit hN rfl) (g_true (j := 2) (dj := 22) (b := false) rfl rfl rfl (ev_hit hN rfl) (op_lss (ev_hit hN rfl) rfl (fun c24 => ?_) (fun c24 => ?_)))))
   ·
    refine op_pick_f (ev_hit hN rfl) (ev_hit hN rfl) ?_
    refine op_assign (ev_hit hN rfl) ?_
    refine reg_nil (hK14 _ _ (wp_cond_true (ev_hit hN rfl) (seq_any fun K36 hK36 => one_reg (op_move (ev_base hN rfl s0) (op_fn (vs := [(ptr p 0), (Value.int .i64 2)]) ok35 ⟨(ev_hit hN rfl), ⟨rfl, trivial⟩⟩ (Num_ret (m := 2) hk8 (by omega) hbl (by omega) (by omega)) ?_)))))
    rintro _ w38 ⟨E39, r37, rfl, hr37, n37, hk37, hn37, hn37x⟩
    have hk8_old := hk8
    have z_w38 := E39.size
    have hbl := hbl.keepG E39 (fun k hk => .inr (by have := hk8_old.lt k hk; omega))
    have hC := hC.keepG E39 (fun k hk => by have h9 : k = p := hk; omega)
    have hK := hK.keepG E39 (fun k hk => by have h9 : k = p := hk; omega)
    have hB5 := hB5.keepG E39 dj6
    have hb := hb.stepF E39 (fun _ _ h => h)
    refine op_add rfl (ev_hit hN rfl) (add64 (by omega)) ?_
    refine op_assign (ev_hit hN rfl) (reg_nil (hK36 _ _ (seq_any fun K40 hK40 => one_reg (op_move (ev_base hN rfl s0) (op_fn (vs := [(ptr p 0), (Value.int .i64 6)]) ok35 ⟨(ev_hit hN rfl), ⟨rfl, trivial⟩⟩ (Num_ret (m := 6) hk37 (by omega) hbl (by omega) (by omega)) ?_)))))
    rintro _ w42 ⟨E43, r41, rfl, hr41, n41, hk41, hn41, hn41x⟩
    have hk37_old := hk37
    have z_w42 := E43.size
    have hbl := hbl.keepG E43 (fun k hk => .inr (by have := hk37_old.lt k hk; omega))
    have hC := hC.keepG E43 (fun k hk => by have h9 : k = p := hk; omega)
    have hK := hK.keepG E43 (fun k hk => by have h9 : k = p := hk; omega)
    have hB5 := hB5.keepG E43 dj6
    have hb := hb.stepF E43 (fun _ _ h => h)
    refine op_add rfl (ev_hit hN rfl) (add64 (by omega)) ?_
    refine op_move (ev_base hN rfl s0) (op_move (ev_base hN rfl s1) (op_move (ev_base hN rfl s2) (op_move (ev_hit hN rfl) (op_move (ev_base hN rfl s4) (op_add (ev_hit hN rfl) rfl (add64 (by omega)) ?_)))))
    refine op_fn (vs := [(ptr p 0), vc, vk, (Value.int .i64 (1 + ((r37 : Nat) : Int))), (Value.int .i64 (((deep : Nat) : Int) + 1))]) ok22 ⟨(ev_hit hN rfl), ⟨(ev_hit hN rfl), ⟨(ev_hit hN rfl), ⟨(ev_hit hN rfl), ⟨(ev_hit hN rfl), trivial⟩⟩⟩⟩⟩ (ih _ (by split <;> omega) (kd := (1 + ((r37 : Nat) : Int))) (deep := (deep + 1)) rfl hk41 (by omega) hbl hC hK (by omega) (by omega) (by omega) (by omega) (by omega) (by omega) (by omega)) ?_
    rintro _ w45 ⟨E46, e44, rfl, he44, hg44, n44, hk44, hn44⟩
    have hk41_old := hk41
    have z_w45 := E46.size
    have hbl := hbl.keepG E46 (fun k hk => .inr (by have := hk41_old.lt k hk; omega))
    have hC := hC.keepG E46 (fun k hk => by have h9 : k = p := hk; omega)
    have hK := hK.keepG E46 (fun k hk => by have h9 : k = p := hk; omega)
    have hB5 := hB5.keepG E46 dj6
    have hb := hb.stepF E46 (fun _ _ h => h)
    refine op_move (ev_base hN rfl s0) (op_move (ev_base hN rfl s1) (op_move (ev_base hN rfl s2) (op_move (ev_hit hN rfl) (op_move (ev_base hN rfl s4) (op_add (ev_hit hN rfl) rfl (add64 (by omega)) ?_)))))
    refine op_fn (vs := [(ptr p 0), vc, vk, (Value.int .i64 (1 + ((r37 : Nat) : Int))), (Value.int .i64 (((deep : Nat) : Int) + 1))]) ok22 ⟨(ev_hit hN rfl), ⟨(ev_hit hN rfl), ⟨(ev_hit hN rfl), ⟨(ev_hit hN rfl), ⟨(ev_hit hN rfl), trivial⟩⟩⟩⟩⟩ (ih _ (by split <;> omega) (kd := (1 + ((r37 : Nat) : Int))) (deep := (deep + 1)) rfl hk44 (by omega) hbl hC hK (by omega) (by omega) (by omega) (by omega) (by omega) (by omega) (by omega)) ?_
    rintro _ w48 ⟨E49, e47, rfl, he47, hg47, n47, hk47, hn47⟩
    have z_w48 := E49.size
    have hB5 := hB5.keepG E49 dj6
    have he44 := he44.keepG E49 (fun k hk => .inl (by have h9 : k = p := hk; omega))
    have hb := hb.stepF E49 (fun _ _ h => h)
    refine op_fn (vs := [(Value.int .i64 (8 + ((r41 : Nat) : Int))), (Value.agg #[(Value.int .i64 e44.op), (Value.int .i64 e44.vk), (Value.int .i64 e44.vi), (Value.string (bs e44.vt)), (Value.string (bs e44.tb)), (Value.string (bs e44.nm)), e44.av]), (Value.agg #[(Value.int .i64 e47.op), (Value.int .i64 e47.vk), (Value.int .i64 e47.vi), (Value.string (bs e47.vt)), (Value.string (bs e47.tb)), (Value.string (bs e47.nm)), e47.av])]) ok53 ⟨(ev_hit hN rfl), ⟨(ev_hit hN rfl), ⟨(ev_hit hN rfl), trivial⟩⟩⟩ (two_ret (L := w42.heap.size) (8 + ((r41 : Nat) : Int)) e44 e47 _ (by omega) (he44.mono (by omega) (by omega)) (he47.mono (by omega) (by omega))) ?_
    rintro _ w51 ⟨E52, av50, rfl, hv50⟩
    have E52 := grown_of_below E52
    have z_w51 := E52.size
    have hB5 := hB5.keep0 E52
    have hk47 := hk47.kz E52
    have hb := hb.step0 E52
    refine op_store (vs := [(Value.int .i64 (8 + ((r41 : Nat) : Int))), (Value.int .i64 0), (Value.int .i64 0), (Value.string (bs [])), (Value.string (bs [])), (Value.string (bs [])), av50]) (cs' := [(Value.int .i64 (8 + ((r41 : Nat) : Int))), (Value.int .i64 0), (Value.int .i64 0), (Value.string (bs [])), (Value.string (bs [])), (Value.string (bs [])), av50]) size28 (ev_hit hN rfl) (ev_hit hN rfl) rfl rfl (by simp only [List.all_cons, List.all_nil, Bool.true_and, Bool.and_true, hv50.1.one]; try rfl) hB5 (Nat.le_of_ble_eq_true rfl) rfl ?_
    intro w55 hB5 E56
    have z_w55 := E56.size
    have hk47 := hk47.keepG (Gr.of E56) (Dj.one dj6)
    have hv50 := hv50.keep E56 (fun k hk => (by simp at hk; omega))
    have hb := hb.step1 E56 (by omega)
    refine reg_nil (hK40 _ _ (wp_ret (blk_ret (then_ret (then_ret ( ?_))))))
    refine retN (rs := [.cell 10 28]) (vs := [(Value.agg #[(Value.int .i64 (8 + ((r41 : Nat) : Int))), (Value.int .i64 0), (Value.int .i64 0), (Value.string (bs [])), (Value.string (bs [])), (Value.string (bs [])), av50])]) rfl hd ⟨⟨_, (ev_hit hN rfl), run_loadA (cs := [(Value.int .i64 (8 + ((r41 : Nat) : Int))), (Value.int .i64 0), (Value.int .i64 0), (Value.string (bs [])), (Value.string (bs [])), (Value.string (bs [])), av50]) agg28 rfl (fun j u hu => by rw [Nat.zero_add]; exact hB5.cell hu)⟩, trivial⟩ rfl ⟨_, rfl, ?_⟩
    refine ⟨hb, (XE.mk (8 + ((r41 : Nat) : Int)) 0 0 [] [] [] av50 [e44, e47]), rfl, (hv50.mono (by omega) (by omega)).node, fun hg => (kind_two (a := e44) (b := e47) rfl (hg44 hg) (hg47 hg) ?_).trans ?_, n47, hk47, by omega⟩
    · show (5 ≤ (8 + ((r41 : Nat) : Int)) ∧ (8 + ((r41 : Nat) : Int)) ≤ 7 ∧ (1 + ((r37 : Nat) : Int)) = 1) ∨ (8 ≤ (8 + ((r41 : Nat) : Int)) ∧ (8 + ((r41 : Nat) : Int)) ≤ 13 ∧ ((1 + ((r37 : Nat) : Int)) = 1 ∨ (1 + ((r37 : Nat) : Int)) = 2)) ∨ (((8 + ((r41 : Nat) : Int)) = 14 ∨ (8 + ((r41 : Nat) : Int)) = 15) ∧ (1 + ((r37 : Nat) : Int)) = 3); omega
    · show ((if 5 ≤ (8 + ((r41 : Nat) : Int)) ∧ (8 + ((r41 : Nat) : Int)) ≤ 7 then (1 : Int) else 3), (0 : Int)) = _; rw [if_neg (by omega), show kd = 3 by omega]
   ·
    refine op_pick_f (ev_hit hN rfl) (ev_hit hN rfl) ?_
    refine op_assign (ev_hit hN rfl) (reg_nil (hK14 _ _ (wp_cond_false (ev_hit hN rfl) (seq_any fun K57 hK57 => ?_))))
    refine one_reg (op_move (ev_hit hN rfl) (op_eql (ev_hit hN rfl) rfl (fun c49 => ?_) (fun c49 => ?_)))
    ·
     refine op_assign (ev_hit hN rfl) (reg_nil (hK57 _ _ (wp_cond_true (ev_hit hN rfl) (seq_any fun K58 hK58 => ?_))))
     refine one_reg (op_move (ev_base hN rfl s0) (op_move (ev_base hN rfl s1) (op_move (ev_base hN rfl s2) (op_move (ev_base hN rfl s3) (op_move (ev_base hN rfl s4) (op_add (ev_hit hN rfl) rfl (add64 (by omega)) ?_))))))
     refine op_fn (vs := [(ptr p 0), vc, vk, (Value.int .i64 kd), (Value.int .i64 (((deep : Nat) : Int) + 1))]) ok22 ⟨(ev_hit hN rfl), ⟨(ev_hit hN rfl), ⟨(ev_hit hN rfl), ⟨(ev_hit hN rfl), ⟨(ev_hit hN rfl), trivial⟩⟩⟩⟩⟩ (ih _ (by split <;> omega) (kd := kd) (deep := (deep + 1)) rfl hk8 (by omega) hbl hC hK (by omega) (by omega) (by omega) (by omega) (by omega) (by omega) (by omega)) ?_
     rintro _ w60 ⟨E61, e59, rfl, he59, hg59, n59, hk59, hn59⟩
     have z_w60 := E61.size
     have hB5 := hB5.keepG E61 dj6
     have hb := hb.stepF E61 (fun _ _ h => h)
     refine op_bslice (e := 28) (pv := [(0, (Value.agg #[(Value.int .i64 e59.op), (Value.int .i64 e59.vk), (Value.int .i64 e59.vi), (Value.string (bs e59.vt)), (Value.string (bs e59.tb)), (Value.string (bs e59.nm)), e59.av]))]) (cs := [(Value.int .i64 e59.op), (Value.int .i64 e59.vk), (Value.int .i64 e59.vi), (Value.string (bs e59.vt)), (Value.string (bs e59.tb)), (Value.string (bs e59.nm)), e59.av]) ⟨rfl, (ev_hit hN rfl), trivial⟩ (by kernel_rfl) ?_
     intro w62 b63 lo_b63 hi_b63 hB65 E64
     have dj66 : ¬ (fun k => k = p) b63 := fun hf => by have := (hk59.lt _ hf).2; omega
     have z_w62 := E64.size
     have hB5 := hB5.keep0 E64
     have hk59 := hk59.kz E64
     have he59 := he59.keep0 E64
     have hb := hb.step0 E64
     refine op_build (pv := [(0, (Value.int .i64 4)), (4, (Value.slice (some ⟨b63, 0, none⟩) 1 1))]) (v := (Value.agg #[(Value.int .i64 4), (Value.int .i64 0), (Value.int .i64 0), (Value.string (bs [])), (Value.string (bs [])), (Value.string (bs [])), (Value.slice (some ⟨b63, 0, none⟩) 1 1)])) ⟨rfl, rfl, ⟨rfl, (ev_hit hN rfl), trivial⟩⟩ (by kernel_rfl) ?_
     refine op_store (vs := [(Value.int .i64 4), (Value.int .i64 0), (Value.int .i64 0), (Value.string (bs [])), (Value.string (bs [])), (Value.string (bs [])), (Value.slice (some ⟨b63, 0, none⟩) 1 1)]) (cs' := [(Value.int .i64 4), (Value.int .i64 0), (Value.int .i64 0), (Value.string (bs [])), (Value.string (bs [])), (Value.string (bs [])), (Value.slice (some ⟨b63, 0, none⟩) 1 1)]) size28 (ev_hit hN rfl) (ev_hit hN rfl) rfl rfl rfl hB5 (Nat.le_of_ble_eq_true rfl) rfl ?_
     intro w69 hB5 E70
     have z_w69 := E70.size
     have hk59 := hk59.keepG (Gr.of E70) (Dj.one dj6)
     have he59 := he59.keep E70 (fun k hk => (by simp at hk; omega))
     have hB65 := hB65.keep E70 (by simp; omega)
     have hb := hb.step1 E70 (by omega)
     refine reg_nil (hK58 _ _ (wp_ret (blk_ret (then_ret (then_ret ( ?_))))))
     refine retN (rs := [.cell 10 28]) (vs := [(Value.agg #[(Value.int .i64 4), (Value.int .i64 0), (Value.int .i64 0), (Value.string (bs [])), (Value.string (bs [])), (Value.string (bs [])), (Value.slice (some ⟨b63, 0, none⟩) 1 1)])]) rfl hd ⟨⟨_, (ev_hit hN rfl), run_loadA (cs := [(Value.int .i64 4), (Value.int .i64 0), (Value.int .i64 0), (Value.string (bs [])), (Value.string (bs [])), (Value.string (bs [])), (Value.slice (some ⟨b63, 0, none⟩) 1 1)]) agg28 rfl (fun j u hu => by rw [Nat.zero_add]; exact hB5.cell hu)⟩, trivial⟩ rfl ⟨_, rfl, ?_⟩
     exact ⟨hb, (XE.mk 4 0 0 [] [] [] (Value.slice (some ⟨b63, 0, none⟩) 1 1) [e59]), rfl, (XsFr.lit1 (x := e59) hB65 (by omega) hB65.lt (he59.mono (by omega) (by omega))).node, fun hg => kind_one rfl (hg59 hg) (by first | (left; exact ⟨rfl, by omega⟩) | (right; exact ⟨rfl, by omega⟩)), n59, hk59, by omega⟩
    ·
     refine op_assign (ev_hit hN rfl) (reg_nil (hK57 _ _ ?_))
     refine wp_cond_false (ev_hit hN rfl) (wp_skip (hK13 _ _ (seq_any fun K71 hK71 => one_reg (op_move (ev_base hN rfl s0) (op_fn (vs := [(ptr p 0), (Value.int .i64 2)]) ok35 ⟨(ev_hit hN rfl), ⟨rfl, trivial⟩⟩ (Num_ret (m := 2) hk8 (by omega) hbl (by omega) (by omega)) ?_)))))
     rintro _ w73 ⟨E74, r72, rfl, hr72, n72, hk72, hn72, hn72x⟩
     have hk8_old := hk8
     have z_w73 := E74.size
     have hbl := hbl.keepG E74 (fun k hk => .inr (by have := hk8_old.lt k hk; omega))
     have hC := hC.keepG E74 (fun k hk => by have h9 : k = p := hk; omega)
     have hK := hK.keepG E74 (fun k hk => by have h9 : k = p := hk; omega)
     have hB5 := hB5.keepG E74 dj6
     have hb := hb.stepF E74 (fun _ _ h => h)
     refine op_add rfl (ev_hit hN rfl) (add64 (by omega)) ?_
     refine op_move (ev_base hN rfl s0) (op_move (ev_base hN rfl s1) (op_move (ev_base hN rfl s2) (op_move (ev_base hN rfl s3) (op_move (ev_base hN rfl s4) (op_add (ev_hit hN rfl) rfl (add64 (by omega)) ?_)))))
     refine op_fn (vs := [(ptr p 0), vc, vk, (Value.int .i64 kd), (Value.int .i64 (((deep : Nat) : Int) + 1))]) ok22 ⟨(ev_hit hN rfl), ⟨(ev_hit hN rfl), ⟨(ev_hit hN rfl), ⟨(ev_hit hN rfl), ⟨(ev_hit hN rfl), trivial⟩⟩⟩⟩⟩ (ih _ (by split <;> omega) (kd := kd) (deep := (deep + 1)) rfl hk72 (by omega) hbl hC hK (by omega) (by omega) (by omega) (by omega) (by omega) (by omega) (by omega)) ?_
     rintro _ w76 ⟨E77, e75, rfl, he75, hg75, n75, hk75, hn75⟩
     have hk72_old := hk72
     have z_w76 := E77.size
     have hbl := hbl.keepG E77 (fun k hk => .inr (by have := hk72_old.lt k hk; omega))
     have hC := hC.keepG E77 (fun k hk => by have h9 : k = p := hk; omega)
     have hK := hK.keepG E77 (fun k hk => by have h9 : k = p := hk; omega)
     have hB5 := hB5.keepG E77 dj6
     have hb := hb.stepF E77 (fun _ _ h => h)
     refine op_move (ev_base hN rfl s0) (op_move (ev_base hN rfl s1) (op_move (ev_base hN rfl s2) (op_move (ev_base hN rfl s3) (op_move (ev_base hN rfl s4) (op_add (ev_hit hN rfl) rfl (add64 (by omega)) ?_)))))
     refine op_fn (vs := [(ptr p 0), vc, vk, (Value.int .i64 kd), (Value.int .i64 (((deep : Nat) : Int) + 1))]) ok22 ⟨(ev_hit hN rfl), ⟨(ev_hit hN rfl), ⟨(ev_hit hN rfl), ⟨(ev_hit hN rfl), ⟨(ev_hit hN rfl), trivial⟩⟩⟩⟩⟩ (ih _ (by split <;> omega) (kd := kd) (deep := (deep + 1)) rfl hk75 (by omega) hbl hC hK (by omega) (by omega) (by omega) (by omega) (by omega) (by omega) (by omega)) ?_
     rintro _ w79 ⟨E80, e78, rfl, he78, hg78, n78, hk78, hn78⟩
     have z_w79 := E80.size
     have hB5 := hB5.keepG E80 dj6
     have he75 := he75.keepG E80 (fun k hk => .inl (by have h9 : k = p := hk; omega))
     have hb := hb.stepF E80 (fun _ _ h => h)
     refine op_fn (vs := [(Value.int .i64 (14 + ((r72 : Nat) : Int))), (Value.agg #[(Value.int .i64 e75.op), (Value.int .i64 e75.vk), (Value.int .i64 e75.vi), (Value.string (bs e75.vt)), (Value.string (bs e75.tb)), (Value.string (bs e75.nm)), e75.av]), (Value.agg #[(Value.int .i64 e78.op), (Value.int .i64 e78.vk), (Value.int .i64 e78.vi), (Value.string (bs e78.vt)), (Value.string (bs e78.tb)), (Value.string (bs e78.nm)), e78.av])]) ok53 ⟨(ev_hit hN rfl), ⟨(ev_hit hN rfl), ⟨(ev_hit hN rfl), trivial⟩⟩⟩ (two_ret (L := w73.heap.size) (14 + ((r72 : Nat) : Int)) e75 e78 _ (by omega) (he75.mono (by omega) (by omega)) (he78.mono (by omega) (by omega))) ?_
     rintro _ w82 ⟨E83, av81, rfl, hv81⟩
     have E83 := grown_of_below E83
     have z_w82 := E83.size
     have hB5 := hB5.keep0 E83
     have hk78 := hk78.kz E83
     have hb := hb.step0 E83
     refine op_store (vs := [(Value.int .i64 (14 + ((r72 : Nat) : Int))), (Value.int .i64 0), (Value.int .i64 0), (Value.string (bs [])), (Value.string (bs [])), (Value.string (bs [])), av81]) (cs' := [(Value.int .i64 (14 + ((r72 : Nat) : Int))), (Value.int .i64 0), (Value.int .i64 0), (Value.string (bs [])), (Value.string (bs [])), (Value.string (bs [])), av81]) size28 (ev_hit hN rfl) (ev_hit hN rfl) rfl rfl (by simp only [List.all_cons, List.all_nil, Bool.true_and, Bool.and_true, hv81.1.one]; try rfl) hB5 (Nat.le_of_ble_eq_true rfl) rfl ?_
     intro w86 hB5 E87
     have z_w86 := E87.size
     have hk78 := hk78.keepG (Gr.of E87) (Dj.one dj6)
     have hv81 := hv81.keep E87 (fun k hk => (by simp at hk; omega))
     have hb := hb.step1 E87 (by omega)
     refine reg_nil (hK71 _ _ (wp_ret (then_ret ( ?_))))
     refine retN (rs := [.cell 10 28]) (vs := [(Value.agg #[(Value.int .i64 (14 + ((r72 : Nat) : Int))), (Value.int .i64 0), (Value.int .i64 0), (Value.string (bs [])), (Value.string (bs [])), (Value.string (bs [])), av81])]) rfl hd ⟨⟨_, (ev_hit hN rfl), run_loadA (cs := [(Value.int .i64 (14 + ((r72 : Nat) : Int))), (Value.int .i64 0), (Value.int .i64 0), (Value.string (bs [])), (Value.string (bs [])), (Value.string (bs [])), av81]) agg28 rfl (fun j u hu => by rw [Nat.zero_add]; exact hB5.cell hu)⟩, trivial⟩ rfl ⟨_, rfl, ?_⟩
     refine ⟨hb, (XE.mk (14 + ((r72 : Nat) : Int)) 0 0 [] [] [] av81 [e75, e78]), rfl, (hv81.mono (by omega) (by omega)).node, fun hg => (kind_two (a := e75) (b := e78) rfl (hg75 hg) (hg78 hg) ?_).trans ?_, n78, hk78, by omega⟩
     · show (5 ≤ (14 + ((r72 : Nat) : Int)) ∧ (14 + ((r72 : Nat) : Int)) ≤ 7 ∧ kd = 1) ∨ (8 ≤ (14 + ((r72 : Nat) : Int)) ∧ (14 + ((r72 : Nat) : Int)) ≤ 13 ∧ (kd = 1 ∨ kd = 2)) ∨ (((14 + ((r72 : Nat) : Int)) = 14 ∨ (14 + ((r72 : Nat) : Int)) = 15) ∧ kd = 3); omega
     · show ((if 5 ≤ (14 + ((r72 : Nat) : Int)) ∧ (14 + ((r72 : Nat) : Int)) ≤ 7 then (1 : Int) else 3), (0 : Int)) = _; rw [if_neg (by omega), show kd = 3 by omega]
 ·
  refine reg_nil (hK12 _ _ (wp_cond_false (ev_hit hN rfl) (wp_skip (hK11 _ _ ?_))))
  refine seq_any fun K88 hK88 => one_reg (op_move (ev_base hN rfl s0) (op_move (ev_base hN rfl s1) (op_move (ev_base hN rfl s2) (op_move (ev_base hN rfl s3) (op_fn (vs := [(ptr p 0), vc, vk, (Value.int .i64 kd)]) ok54 ⟨(ev_hit hN rfl), ⟨(ev_hit hN rfl), ⟨(ev_hit hN rfl), ⟨(ev_hit hN rfl), trivial⟩⟩⟩⟩ (pcol_ret (k := kd) hk8 (by omega) hbl hC hK (by omega) (by omega) (by omega)) ?_)))))
  rintro _ w90 ⟨E91, e89, bb89, rfl, he89, hg89, n89, hk89, hn89⟩
  have hk8_old := hk8
  have z_w90 := E91.size
  have hbl := hbl.keepG E91 (fun k hk => .inr (by have := hk8_old.lt k hk; omega))
  have hC := hC.keepG E91 (fun k hk => by have h9 : k = p := hk; omega)
  have hK := hK.keepG E91 (fun k hk => by have h9 : k = p := hk; omega)
  have hB5 := hB5.keepG E91 dj6
  have hb := hb.stepF E91 (fun _ _ h => h)
  refine op_move (ev_hit hN rfl) (op_extract (ev_hit hN rfl) rfl ?_)
  refine op_extract (ev_hit hN rfl) rfl ?_
  refine op_alloc (cs := [(Value.int .i64 0), (Value.int .i64 0), (Value.int .i64 0), (Value.string (bs [])), (Value.string (bs [])), (Value.string (bs [])), (Value.slice none 0 0)]) zero28 rfl ?_
  intro w92 b93 lo_b93 hi_b93 hB95 E94
  have dj96 : ¬ (fun k => k = p) b93 := fun hf => by have := (hk89.lt _ hf).2; omega
  have z_w92 := E94.size
  have hbl := hbl.keep0 E94
  have hC := hC.keep0 E94
  have hK := hK.keep0 E94
  have hB5 := hB5.keep0 E94
  have hk89 := hk89.kz E94
  have he89 := he89.keep0 E94
  have hb := hb.step0 E94
  refine op_store (vs := [(Value.int .i64 e89.op), (Value.int .i64 e89.vk), (Value.int .i64 e89.vi), (Value.string (bs e89.vt)), (Value.string (bs e89.tb)), (Value.string (bs e89.nm)), e89.av]) (cs' := [(Value.int .i64 e89.op), (Value.int .i64 e89.vk), (Value.int .i64 e89.vi), (Value.string (bs e89.vt)), (Value.string (bs e89.tb)), (Value.string (bs e89.nm)), e89.av]) size28 (ev_hit hN rfl) (ev_hit hN rfl) rfl rfl (by simp only [List.all_cons, List.all_nil, Bool.true_and, Bool.and_true, he89.list.1.one]; try rfl) hB95 (Nat.le_of_ble_eq_true rfl) rfl ?_
  intro w99 hB95 E100
  have z_w99 := E100.size
  have hbl := hbl.keep E100 (fun k hk => .inr (by simp at hk; omega))
  have hC := hC.keep E100 (fun k hk => (by simp at hk; omega))
  have hK := hK.keep E100 (fun k hk => (by simp at hk; omega))
  have hB5 := hB5.keep E100 (by simp; omega)
  have hk89 := hk89.keepG (Gr.of E100) (Dj.one dj96)
  have he89 := he89.keep E100 (fun k hk => (by simp at hk; omega))
  have hb := hb.step1 E100 (by omega)
  refine op_assign (ev_hit hN rfl) (reg_nil (hK88 _ _ (seq_any fun K101 hK101 => wp_block ?_)))
  refine seq_any fun K102 hK102 => one_reg (op_move (ev_hit hN rfl) (op_move (ev_hit hN rfl) ?_))
  rcases Bool.eq_false_or_eq_true (bb89) with g87 | g87
  ·
   rw [g87]
   refine g_true (j := 1) (dj := 87) (b := true) rfl rfl rfl (ev_hit hN rfl) (op_move (ev_hit hN rfl) (g_true (j := 1) (dj := 87) (b := true) rfl rfl rfl (ev_hit hN rfl) (op_lss (ev_hit hN rfl) rfl (fun c89 => ?_) (fun c89 => ?_))))
   ·
    refine op_pick_t (ev_hit hN rfl) (ev_hit hN rfl) ?_
    refine op_assign (ev_hit hN rfl) (reg_nil (hK102 _ _ (wp_cond_true (ev_hit hN rfl) (seq_any fun K103 hK103 => one_reg (op_loadA (cs := [(Value.int .i64 e89.op), (Value.int .i64 e89.vk), (Value.int .i64 e89.vi), (Value.string (bs e89.vt)), (Value.string (bs e89.tb)), (Value.string (bs e89.nm)), e89.av]) agg28 rfl (ev_hit hN rfl) (fun j u hu => by rw [Nat.zero_add]; exact hB95.cell hu) ?_)))))
    refine op_store (vs := [(Value.int .i64 e89.op), (Value.int .i64 e89.vk), (Value.int .i64 e89.vi), (Value.string (bs e89.vt)), (Value.string (bs e89.tb)), (Value.string (bs e89.nm)), e89.av]) (cs' := [(Value.int .i64 e89.op), (Value.int .i64 e89.vk), (Value.int .i64 e89.vi), (Value.string (bs e89.vt)), (Value.string (bs e89.tb)), (Value.string (bs e89.nm)), e89.av]) size28 (ev_hit hN rfl) (ev_hit hN rfl) rfl rfl (by simp only [List.all_cons, List.all_nil, Bool.true_and, Bool.and_true, he89.list.1.one]; try rfl) hB5 (Nat.le_of_ble_eq_true rfl) rfl ?_
    intro w106 hB5 E107
    have z_w106 := E107.size
    have hk89 := hk89.keepG (Gr.of E107) (Dj.one dj6)
    have he89 := he89.keep E107 (fun k hk => (by simp at hk; omega))
    have hb := hb.step1 E107 (by omega)
    refine reg_nil (hK103 _ _ (wp_ret (blk_ret (then_ret ( ?_)))))
    refine retN (rs := [.cell 10 28]) (vs := [(Value.agg #[(Value.int .i64 e89.op), (Value.int .i64 e89.vk), (Value.int .i64 e89.vi), (Value.string (bs e89.vt)), (Value.string (bs e89.tb)), (Value.string (bs e89.nm)), e89.av])]) rfl hd ⟨⟨_, (ev_hit hN rfl), run_loadA (cs := [(Value.int .i64 e89.op), (Value.int .i64 e89.vk), (Value.int .i64 e89.vi), (Value.string (bs e89.vt)), (Value.string (bs e89.tb)), (Value.string (bs e89.nm)), e89.av]) agg28 rfl (fun j u hu => by rw [Nat.zero_add]; exact hB5.cell hu)⟩, trivial⟩ rfl ⟨_, rfl, ?_⟩
    exact ⟨hb, e89, rfl, (he89.mono (by omega) (by omega)), hg89 (by first | assumption | simp_all), n89, hk89, by omega⟩
   ·
    refine op_pick_t (ev_hit hN rfl) (ev_hit hN rfl) ?_
    refine op_assign (ev_hit hN rfl) (reg_nil (hK102 _ _ (wp_cond_false (ev_hit hN rfl) (seq_any fun K108 hK108 => ?_))))
    refine one_reg (op_move (ev_base hN rfl s3) (op_eql (ev_hit hN rfl) rfl (fun c94 => ?_) (fun c94 => ?_)))
    ·
     refine op_move (ev_hit hN rfl) (g_false (j := 2) (dj := 95) (b := false) rfl rfl rfl (ev_hit hN rfl) rfl rfl (g_false (j := 2) (dj := 95) (b := false) rfl rfl rfl (ev_hit hN rfl) rfl rfl (op_pick_t (ev_hit hN rfl) rfl ?_)))
     refine op_move (ev_hit hN rfl) (g_false (j := 6) (dj := 99) (b := false) rfl rfl rfl (ev_hit hN rfl) rfl rfl (g_false (j := 6) (dj := 99) (b := false) rfl rfl rfl (ev_hit hN rfl) rfl rfl (op_pick_t (ev_hit hN rfl) rfl ?_)))
     refine op_assign (ev_hit hN rfl) (reg_nil ?_)
     refine hK108 _ _ (wp_cond_true (ev_hit hN rfl) (seq_any fun K109 hK109 => one_reg (op_move (ev_base hN rfl s0) (op_move (ev_base hN rfl s3) (op_fn (vs := [(ptr p 0), (Value.int .i64 kd)]) ok56 ⟨(ev_hit hN rfl), ⟨(ev_hit hN rfl), trivial⟩⟩ (Value_ret (kd := kd) hk89 (by omega) hbl) ?_)))))
     rintro _ w111 ⟨E112, vi110, vs110, rfl, n110, hk110, hn110⟩
     have z_w111 := E112.size
     have hB5 := hB5.keepG E112 dj6
     have hb := hb.stepF E112 (fun _ _ h => h)
     refine op_fn (vs := [(Value.agg #[(Value.int .i64 (if kd = 2 then (2 : Int) else 1)), (Value.int .i64 vi110), (Value.string (bs vs110))])]) ok55 ⟨(ev_hit hN rfl), trivial⟩ (lit_ret (if kd = 2 then (2 : Int) else 1) vi110 vs110 _) ?_
     rintro _ w113 ⟨E114, rfl⟩
     have E114 := grown_of_below E114
     have z_w113 := E114.size
     have hB5 := hB5.keep0 E114
     have hk110 := hk110.kz E114
     have hb := hb.step0 E114
     refine op_store (vs := [(Value.int .i64 1), (Value.int .i64 (if kd = 2 then (2 : Int) else 1)), (Value.int .i64 vi110), (Value.string (bs vs110)), (Value.string (bs [])), (Value.string (bs [])), (Value.slice none 0 0)]) (cs' := [(Value.int .i64 1), (Value.int .i64 (if kd = 2 then (2 : Int) else 1)), (Value.int .i64 vi110), (Value.string (bs vs110)), (Value.string (bs [])), (Value.string (bs [])), (Value.slice none 0 0)]) size28 (ev_hit hN rfl) (ev_hit hN rfl) rfl rfl rfl hB5 (Nat.le_of_ble_eq_true rfl) rfl ?_
     intro w117 hB5 E118
     have z_w117 := E118.size
     have hk110 := hk110.keepG (Gr.of E118) (Dj.one dj6)
     have hb := hb.step1 E118 (by omega)
     refine reg_nil (hK109 _ _ (wp_ret (blk_ret (then_ret ( ?_)))))
     refine retN (rs := [.cell 10 28]) (vs := [(Value.agg #[(Value.int .i64 1), (Value.int .i64 (if kd = 2 then (2 : Int) else 1)), (Value.int .i64 vi110), (Value.string (bs vs110)), (Value.string (bs [])), (Value.string (bs [])), (Value.slice none 0 0)])]) rfl hd ⟨⟨_, (ev_hit hN rfl), run_loadA (cs := [(Value.int .i64 1), (Value.int .i64 (if kd = 2 then (2 : Int) else 1)), (Value.int .i64 vi110), (Value.string (bs vs110)), (Value.string (bs [])), (Value.string (bs [])), (Value.slice none 0 0)]) agg28 rfl (fun j u hu => by rw [Nat.zero_add]; exact hB5.cell hu)⟩, trivial⟩ rfl ⟨_, rfl, ?_⟩
     exact ⟨hb, (XE.mk 1 (if kd = 2 then (2 : Int) else 1) vi110 vs110 [] [] (Value.slice none 0 0) []), rfl, .leaf rfl rfl, fun _ => (kind_lit rfl rfl).trans (by show ((if kd = 2 then (2 : Int) else 1), (0 : Int)) = _; (repeat' split) <;> first | rfl | (congr 1; omega)), n110, hk110, by omega⟩
    ·
     refine op_move (ev_hit hN rfl) (g_true (j := 2) (dj := 95) (b := false) rfl rfl rfl (ev_hit hN rfl) (op_move (ev_base hN rfl s4) (g_true (j := 2) (dj := 95) (b := false) rfl rfl rfl (ev_hit hN rfl) (op_gtr (ev_hit hN rfl) rfl (fun c97 => ?_) (fun c97 => ?_)))))
     ·
      refine op_pick_f (ev_hit hN rfl) (ev_hit hN rfl) ?_
      refine op_move (ev_hit hN rfl) (g_false (j := 6) (dj := 99) (b := false) rfl rfl rfl (ev_hit hN rfl) rfl rfl (g_false (j := 6) (dj := 99) (b := false) rfl rfl rfl (ev_hit hN rfl) rfl rfl (op_pick_t (ev_hit hN rfl) rfl ?_)))
      refine op_assign (ev_hit hN rfl) (reg_nil ?_)
      refine hK108 _ _ (wp_cond_true (ev_hit hN rfl) (seq_any fun K119 hK119 => one_reg (op_move (ev_base hN rfl s0) (op_move (ev_base hN rfl s3) (op_fn (vs := [(ptr p 0), (Value.int .i64 kd)]) ok56 ⟨(ev_hit hN rfl), ⟨(ev_hit hN rfl), trivial⟩⟩ (Value_ret (kd := kd) hk89 (by omega) hbl) ?_)))))
      rintro _ w121 ⟨E122, vi120, vs120, rfl, n120, hk120, hn120⟩
      have z_w121 := E122.size
      have hB5 := hB5.keepG E122 dj6
      have hb := hb.stepF E122 (fun _ _ h => h)
      refine op_fn (vs := [(Value.agg #[(Value.int .i64 (if kd = 2 then (2 : Int) else 1)), (Value.int .i64 vi120), (Value.string (bs vs120))])]) ok55 ⟨(ev_hit hN rfl), trivial⟩ (lit_ret (if kd = 2 then (2 : Int) else 1) vi120 vs120 _) ?_
      rintro _ w123 ⟨E124, rfl⟩
      have E124 := grown_of_below E124
      have z_w123 := E124.size
      have hB5 := hB5.keep0 E124
      have hk120 := hk120.kz E124
      have hb := hb.step0 E124
      refine op_store (vs := [(Value.int .i64 1), (Value.int .i64 (if kd = 2 then (2 : Int) else 1)), (Value.int .i64 vi120), (Value.string (bs vs120)), (Value.string (bs [])), (Value.string (bs [])), (Value.slice none 0 0)]) (cs' := [(Value.int .i64 1), (Value.int .i64 (if kd = 2 then (2 : Int) else 1)), (Value.int .i64 vi120), (Value.string (bs vs120)), (Value.string (bs [])), (Value.string (bs [])), (Value.slice none 0 0)]) size28 (ev_hit hN rfl) (ev_hit hN rfl) rfl rfl rfl hB5 (Nat.le_of_ble_eq_true rfl) rfl ?_
      intro w127 hB5 E128
      have z_w127 := E128.size
      have hk120 := hk120.keepG (Gr.of E128) (Dj.one dj6)
      have hb := hb.step1 E128 (by omega)
      refine reg_nil (hK119 _ _ (wp_ret (blk_ret (then_ret ( ?_)))))
      refine retN (rs := [.cell 10 28]) (vs := [(Value.agg #[(Value.int .i64 1), (Value.int .i64 (if kd = 2 then (2 : Int) else 1)), (Value.int .i64 vi120), (Value.string (bs vs120)), (Value.string (bs [])), (Value.string (bs [])), (Value.slice none 0 0)])]) rfl hd ⟨⟨_, (ev_hit hN rfl), run_loadA (cs := [(Value.int .i64 1), (Value.int .i64 (if kd = 2 then (2 : Int) else 1)), (Value.int .i64 vi120), (Value.string (bs vs120)), (Value.string (bs [])), (Value.string (bs [])), (Value.slice none 0 0)]) agg28 rfl (fun j u hu => by rw [Nat.zero_add]; exact hB5.cell hu)⟩, trivial⟩ rfl ⟨_, rfl, ?_⟩
      exact ⟨hb, (XE.mk 1 (if kd = 2 then (2 : Int) else 1) vi120 vs120 [] [] (Value.slice none 0 0) []), rfl, .leaf rfl rfl, fun _ => (kind_lit rfl rfl).trans (by show ((if kd = 2 then (2 : Int) else 1), (0 : Int)) = _; (repeat' split) <;> first | rfl | (congr 1; omega)), n120, hk120, by omega⟩
     ·
      refine op_pick_f (ev_hit hN rfl) (ev_hit hN rfl) ?_
      refine op_move (ev_hit hN rfl) (g_true (j := 6) (dj := 99) (b := false) rfl rfl rfl (ev_hit hN rfl) (op_move (ev_hit hN rfl) (g_true (j := 6) (dj := 99) (b := false) rfl rfl rfl (ev_hit hN rfl) (op_lss (ev_hit hN rfl) rfl (fun c101 => ?_) (fun c101 => ?_)))))
      ·
       refine op_pick_f (ev_hit hN rfl) (ev_hit hN rfl) ?_
       refine op_assign (ev_hit hN rfl) (reg_nil ?_)
       refine hK108 _ _ (wp_cond_true (ev_hit hN rfl) (seq_any fun K129 hK129 => one_reg (op_move (ev_base hN rfl s0) (op_move (ev_base hN rfl s3) (op_fn (vs := [(ptr p 0), (Value.int .i64 kd)]) ok56 ⟨(ev_hit hN rfl), ⟨(ev_hit hN rfl), trivial⟩⟩ (Value_ret (kd := kd) hk89 (by omega) hbl) ?_)))))
       rintro _ w131 ⟨E132, vi130, vs130, rfl, n130, hk130, hn130⟩
       have z_w131 := E132.size
       have hB5 := hB5.keepG E132 dj6
       have hb := hb.stepF E132 (fun _ _ h => h)
       refine op_fn (vs := [(Value.agg #[(Value.int .i64 (if kd = 2 then (2 : Int) else 1)), (Value.int .i64 vi130), (Value.string (bs vs130))])]) ok55 ⟨(ev_hit hN rfl), trivial⟩ (lit_ret (if kd = 2 then (2 : Int) else 1) vi130 vs130 _) ?_
       rintro _ w133 ⟨E134, rfl⟩
       have E134 := grown_of_below E134
       have z_w133 := E134.size
       have hB5 := hB5.keep0 E134
       have hk130 := hk130.kz E134
       have hb := hb.step0 E134
       refine op_store (vs := [(Value.int .i64 1), (Value.int .i64 (if kd = 2 then (2 : Int) else 1)), (Value.int .i64 vi130), (Value.string (bs vs130)), (Value.string (bs [])), (Value.string (bs [])), (Value.slice none 0 0)]) (cs' := [(Value.int .i64 1), (Value.int .i64 (if kd = 2 then (2 : Int) else 1)), (Value.int .i64 vi130), (Value.string (bs vs130)), (Value.string (bs [])), (Value.string (bs [])), (Value.slice none 0 0)]) size28 (ev_hit hN rfl) (ev_hit hN rfl) rfl rfl rfl hB5 (Nat.le_of_ble_eq_true rfl) rfl ?_
       intro w137 hB5 E138
       have z_w137 := E138.size
       have hk130 := hk130.keepG (Gr.of E138) (Dj.one dj6)
       have hb := hb.step1 E138 (by omega)
       refine reg_nil (hK129 _ _ (wp_ret (blk_ret (then_ret ( ?_)))))
       refine retN (rs := [.cell 10 28]) (vs := [(Value.agg #[(Value.int .i64 1), (Value.int .i64 (if kd = 2 then (2 : Int) else 1)), (Value.int .i64 vi130), (Value.string (bs vs130)), (Value.string (bs [])), (Value.string (bs [])), (Value.slice none 0 0)])]) rfl hd ⟨⟨_, (ev_hit hN rfl), run_loadA (cs := [(Value.int .i64 1), (Value.int .i64 (if kd = 2 then (2 : Int) else 1)), (Value.int .i64 vi130), (Value.string (bs vs130)), (Value.string (bs [])), (Value.string (bs [])), (Value.slice none 0 0)]) agg28 rfl (fun j u hu => by rw [Nat.zero_add]; exact hB5.cell hu)⟩, trivial⟩ rfl ⟨_, rfl, ?_⟩
       exact ⟨hb, (XE.mk 1 (if kd = 2 then (2 : Int) else 1) vi130 vs130 [] [] (Value.slice none 0 0) []), rfl, .leaf rfl rfl, fun _ => (kind_lit rfl rfl).trans (by show ((if kd = 2 then (2 : Int) else 1), (0 : Int)) = _; (repeat' split) <;> first | rfl | (congr 1; omega)), n130, hk130, by omega⟩
      ·
       refine op_pick_f (ev_hit hN rfl) (ev_hit hN rfl) ?_
       refine op_assign (ev_hit hN rfl) (reg_nil (hK108 _ _ (wp_cond_false (ev_hit hN rfl) (seq_any fun K139 hK139 => ?_))))
       refine one_reg (op_move (ev_hit hN rfl) (op_eql (ev_hit hN rfl) rfl (fun c109 => ?_) (fun c109 => ?_)))
       ·
        refine op_assign (ev_hit hN rfl) (reg_nil (hK139 _ _ (wp_cond_true (ev_hit hN rfl) (seq_any fun K140 hK140 => ?_))))
        refine one_reg (op_move (ev_base hN rfl s0) (op_move (ev_base hN rfl s1) (op_move (ev_base hN rfl s2) (op_move (ev_base hN rfl s3) (op_move (ev_base hN rfl s4) (op_add (ev_hit hN rfl) rfl (add64 (by omega)) ?_))))))
        refine op_fn (vs := [(ptr p 0), vc, vk, (Value.int .i64 kd), (Value.int .i64 (((deep : Nat) : Int) + 1))]) ok22 ⟨(ev_hit hN rfl), ⟨(ev_hit hN rfl), ⟨(ev_hit hN rfl), ⟨(ev_hit hN rfl), ⟨(ev_hit hN rfl), trivial⟩⟩⟩⟩⟩ (ih _ (by split <;> omega) (kd := kd) (deep := (deep + 1)) rfl hk89 (by omega) hbl hC hK (by omega) (by omega) (by omega) (by omega) (by omega) (by omega) (by omega)) ?_
        rintro _ w142 ⟨E143, e141, rfl, he141, hg141, n141, hk141, hn141⟩
        have z_w142 := E143.size
        have hB5 := hB5.keepG E143 dj6
        have hb := hb.stepF E143 (fun _ _ h => h)
        refine op_bslice (e := 28) (pv := [(0, (Value.agg #[(Value.int .i64 e141.op), (Value.int .i64 e141.vk), (Value.int .i64 e141.vi), (Value.string (bs e141.vt)), (Value.string (bs e141.tb)), (Value.string (bs e141.nm)), e141.av]))]) (cs := [(Value.int .i64 e141.op), (Value.int .i64 e141.vk), (Value.int .i64 e141.vi), (Value.string (bs e141.vt)), (Value.string (bs e141.tb)), (Value.string (bs e141.nm)), e141.av]) ⟨rfl, (ev_hit hN rfl), trivial⟩ (by kernel_rfl) ?_
        intro w144 b145 lo_b145 hi_b145 hB147 E146
        have dj148 : ¬ (fun k => k = p) b145 := fun hf => by have := (hk141.lt _ hf).2; omega
        have z_w144 := E146.size
        have hB5 := hB5.keep0 E146
        have hk141 := hk141.kz E146
        have he141 := he141.keep0 E146
        have hb := hb.step0 E146
        refine op_build (pv := [(0, (Value.int .i64 3)), (4, (Value.slice (some ⟨b145, 0, none⟩) 1 1))]) (v := (Value.agg #[(Value.int .i64 3), (Value.int .i64 0), (Value.int .i64 0), (Value.string (bs [])), (Value.string (bs [])), (Value.string (bs [])), (Value.slice (some ⟨b145, 0, none⟩) 1 1)])) ⟨rfl, rfl, ⟨rfl, (ev_hit hN rfl), trivial⟩⟩ (by kernel_rfl) ?_
        refine op_store (vs := [(Value.int .i64 3), (Value.int .i64 0), (Value.int .i64 0), (Value.string (bs [])), (Value.string (bs [])), (Value.string (bs [])), (Value.slice (some ⟨b145, 0, none⟩) 1 1)]) (cs' := [(Value.int .i64 3), (Value.int .i64 0), (Value.int .i64 0), (Value.string (bs [])), (Value.string (bs [])), (Value.string (bs [])), (Value.slice (some ⟨b145, 0, none⟩) 1 1)]) size28 (ev_hit hN rfl) (ev_hit hN rfl) rfl rfl rfl hB5 (Nat.le_of_ble_eq_true rfl) rfl ?_
        intro w151 hB5 E152
        have z_w151 := E152.size
        have hk141 := hk141.keepG (Gr.of E152) (Dj.one dj6)
        have he141 := he141.keep E152 (fun k hk => (by simp at hk; omega))
        have hB147 := hB147.keep E152 (by simp; omega)
        have hb := hb.step1 E152 (by omega)
        refine reg_nil (hK140 _ _ (wp_ret (blk_ret (then_ret ( ?_)))))
        refine retN (rs := [.cell 10 28]) (vs := [(Value.agg #[(Value.int .i64 3), (Value.int .i64 0), (Value.int .i64 0), (Value.string (bs [])), (Value.string (bs [])), (Value.string (bs [])), (Value.slice (some ⟨b145, 0, none⟩) 1 1)])]) rfl hd ⟨⟨_, (ev_hit hN rfl), run_loadA (cs := [(Value.int .i64 3), (Value.int .i64 0), (Value.int .i64 0), (Value.string (bs [])), (Value.string (bs [])), (Value.string (bs [])), (Value.slice (some ⟨b145, 0, none⟩) 1 1)]) agg28 rfl (fun j u hu => by rw [Nat.zero_add]; exact hB5.cell hu)⟩, trivial⟩ rfl ⟨_, rfl, ?_⟩
        exact ⟨hb, (XE.mk 3 0 0 [] [] [] (Value.slice (some ⟨b145, 0, none⟩) 1 1) [e141]), rfl, (XsFr.lit1 (x := e141) hB147 (by omega) hB147.lt (he141.mono (by omega) (by omega))).node, fun hg => kind_one rfl (hg141 hg) (by first | (left; exact ⟨rfl, by omega⟩) | (right; exact ⟨rfl, by omega⟩)), n141, hk141, by omega⟩
       ·
        refine op_assign (ev_hit hN rfl) (reg_nil (hK139 _ _ ?_))
        refine wp_cond_false (ev_hit hN rfl) (wp_skip (hK101 _ _ (seq_any fun K153 hK153 => one_reg (op_move (ev_base hN rfl s0) (op_fn (vs := [(ptr p 0), (Value.int .i64 3)]) ok35 ⟨(ev_hit hN rfl), ⟨rfl, trivial⟩⟩ (Num_ret (m := 3) hk89 (by omega) hbl (by omega) (by omega)) ?_)))))
        rintro _ w155 ⟨E156, r154, rfl, hr154, n154, hk154, hn154, hn154x⟩
        have hk89_old := hk89
        have z_w155 := E156.size
        have hbl := hbl.keepG E156 (fun k hk => .inr (by have := hk89_old.lt k hk; omega))
        have hC := hC.keepG E156 (fun k hk => by have h9 : k = p := hk; omega)
        have hK := hK.keepG E156 (fun k hk => by have h9 : k = p := hk; omega)
        have hB5 := hB5.keepG E156 dj6
        have hb := hb.stepF E156 (fun _ _ h => h)
        refine op_add rfl (ev_hit hN rfl) (add64 (by omega)) ?_
        refine op_move (ev_base hN rfl s0) (op_move (ev_base hN rfl s1) (op_move (ev_base hN rfl s2) (op_move (ev_base hN rfl s3) (op_move (ev_base hN rfl s4) (op_add (ev_hit hN rfl) rfl (add64 (by omega)) ?_)))))
        refine op_fn (vs := [(ptr p 0), vc, vk, (Value.int .i64 kd), (Value.int .i64 (((deep : Nat) : Int) + 1))]) ok22 ⟨(ev_hit hN rfl), ⟨(ev_hit hN rfl), ⟨(ev_hit hN rfl), ⟨(ev_hit hN rfl), ⟨(ev_hit hN rfl), trivial⟩⟩⟩⟩⟩ (ih _ (by split <;> omega) (kd := kd) (deep := (deep + 1)) rfl hk154 (by omega) hbl hC hK (by omega) (by omega) (by omega) (by omega) (by omega) (by omega) (by omega)) ?_
        rintro _ w158 ⟨E159, e157, rfl, he157, hg157, n157, hk157, hn157⟩
        have hk154_old := hk154
        have z_w158 := E159.size
        have hbl := hbl.keepG E159 (fun k hk => .inr (by have := hk154_old.lt k hk; omega))
        have hC := hC.keepG E159 (fun k hk => by have h9 : k = p := hk; omega)
        have hK := hK.keepG E159 (fun k hk => by have h9 : k = p := hk; omega)
        have hB5 := hB5.keepG E159 dj6
        have hb := hb.stepF E159 (fun _ _ h => h)
        refine op_move (ev_base hN rfl s0) (op_move (ev_base hN rfl s1) (op_move (ev_base hN rfl s2) (op_move (ev_base hN rfl s3) (op_move (ev_base hN rfl s4) (op_add (ev_hit hN rfl) rfl (add64 (by omega)) ?_)))))
        refine op_fn (vs := [(ptr p 0), vc, vk, (Value.int .i64 kd), (Value.int .i64 (((deep : Nat) : Int) + 1))]) ok22 ⟨(ev_hit hN rfl), ⟨(ev_hit hN rfl), ⟨(ev_hit hN rfl), ⟨(ev_hit hN rfl), ⟨(ev_hit hN rfl), trivial⟩⟩⟩⟩⟩ (ih _ (by split <;> omega) (kd := kd) (deep := (deep + 1)) rfl hk157 (by omega) hbl hC hK (by omega) (by omega) (by omega) (by omega) (by omega) (by omega) (by omega)) ?_
        rintro _ w161 ⟨E162, e160, rfl, he160, hg160, n160, hk160, hn160⟩
        have z_w161 := E162.size
        have hB5 := hB5.keepG E162 dj6
        have he157 := he157.keepG E162 (fun k hk => .inl (by have h9 : k = p := hk; omega))
        have hb := hb.stepF E162 (fun _ _ h => h)
        refine op_fn (vs := [(Value.int .i64 (5 + ((r154 : Nat) : Int))), (Value.agg #[(Value.int .i64 e157.op), (Value.int .i64 e157.vk), (Value.int .i64 e157.vi), (Value.string (bs e157.vt)), (Value.string (bs e157.tb)), (Value.string (bs e157.nm)), e157.av]), (Value.agg #[(Value.int .i64 e160.op), (Value.int .i64 e160.vk), (Value.int .i64 e160.vi), (Value.string (bs e160.vt)), (Value.string (bs e160.tb)), (Value.string (bs e160.nm)), e160.av])]) ok53 ⟨(ev_hit hN rfl), ⟨(ev_hit hN rfl), ⟨(ev_hit hN rfl), trivial⟩⟩⟩ (two_ret (L := w155.heap.size) (5 + ((r154 : Nat) : Int)) e157 e160 _ (by omega) (he157.mono (by omega) (by omega)) (he160.mono (by omega) (by omega))) ?_
        rintro _ w164 ⟨E165, av163, rfl, hv163⟩
        have E165 := grown_of_below E165
        have z_w164 := E165.size
        have hB5 := hB5.keep0 E165
        have hk160 := hk160.kz E165
        have hb := hb.step0 E165
        refine op_store (vs := [(Value.int .i64 (5 + ((r154 : Nat) : Int))), (Value.int .i64 0), (Value.int .i64 0), (Value.string (bs [])), (Value.string (bs [])), (Value.string (bs [])), av163]) (cs' := [(Value.int .i64 (5 + ((r154 : Nat) : Int))), (Value.int .i64 0), (Value.int .i64 0), (Value.string (bs [])), (Value.string (bs [])), (Value.string (bs [])), av163]) size28 (ev_hit hN rfl) (ev_hit hN rfl) rfl rfl (by simp only [List.all_cons, List.all_nil, Bool.true_and, Bool.and_true, hv163.1.one]; try rfl) hB5 (Nat.le_of_ble_eq_true rfl) rfl ?_
        intro w168 hB5 E169
        have z_w168 := E169.size
        have hk160 := hk160.keepG (Gr.of E169) (Dj.one dj6)
        have hv163 := hv163.keep E169 (fun k hk => (by simp at hk; omega))
        have hb := hb.step1 E169 (by omega)
        refine reg_nil (hK153 _ _ (wp_ret ?_))
        refine retN (rs := [.cell 10 28]) (vs := [(Value.agg #[(Value.int .i64 (5 + ((r154 : Nat) : Int))), (Value.int .i64 0), (Value.int .i64 0), (Value.string (bs [])), (Value.string (bs [])), (Value.string (bs [])), av163])]) rfl hd ⟨⟨_, (ev_hit hN rfl), run_loadA (cs := [(Value.int .i64 (5 + ((r154 : Nat) : Int))), (Value.int .i64 0), (Value.int .i64 0), (Value.string (bs [])), (Value.string (bs [])), (Value.string (bs [])), av163]) agg28 rfl (fun j u hu => by rw [Nat.zero_add]; exact hB5.cell hu)⟩, trivial⟩ rfl ⟨_, rfl, ?_⟩
        refine ⟨hb, (XE.mk (5 + ((r154 : Nat) : Int)) 0 0 [] [] [] av163 [e157, e160]), rfl, (hv163.mono (by omega) (by omega)).node, fun hg => (kind_two (a := e157) (b := e160) rfl (hg157 hg) (hg160 hg) ?_).trans ?_, n160, hk160, by omega⟩
        · show (5 ≤ (5 + ((r154 : Nat) : Int)) ∧ (5 + ((r154 : Nat) : Int)) ≤ 7 ∧ kd = 1) ∨ (8 ≤ (5 + ((r154 : Nat) : Int)) ∧ (5 + ((r154 : Nat) : Int)) ≤ 13 ∧ (kd = 1 ∨ kd = 2)) ∨ (((5 + ((r154 : Nat) : Int)) = 14 ∨ (5 + ((r154 : Nat) : Int)) = 15) ∧ kd = 3); omega
        · show ((if 5 ≤ (5 + ((r154 : Nat) : Int)) ∧ (5 + ((r154 : Nat) : Int)) ≤ 7 then (1 : Int) else 3), (0 : Int)) = _; rw [if_pos (by omega), show kd = 1 by omega]
  ·
   rw [g87]
   refine g_false (j := 1) (dj := 87) (b := true) rfl rfl rfl (ev_hit hN rfl) rfl rfl (g_false (j := 1) (dj := 87) (b := true) rfl rfl rfl (ev_hit hN rfl) rfl rfl (op_pick_f (ev_hit hN rfl) rfl ?_))
   refine op_assign (ev_hit hN rfl) (reg_nil (hK102 _ _ (wp_cond_false (ev_hit hN rfl) (seq_any fun K170 hK170 => ?_))))
   refine one_reg (op_move (ev_base hN rfl s3) (op_eql (ev_hit hN rfl) rfl (fun c94 => ?_) (fun c94 => ?_)))
   ·
    refine op_move (ev_hit hN rfl) (g_false (j := 2) (dj := 95) (b := false) rfl rfl rfl (ev_hit hN rfl) rfl rfl (g_false (j := 2) (dj := 95) (b := false) rfl rfl rfl (ev_hit hN rfl) rfl rfl (op_pick_t (ev_hit hN rfl) rfl ?_)))
    refine op_move (ev_hit hN rfl) (g_false (j := 6) (dj := 99) (b := false) rfl rfl rfl (ev_hit hN rfl) rfl rfl (g_false (j := 6) (dj := 99) (b := false) rfl rfl rfl (ev_hit hN rfl) rfl rfl (op_pick_t (ev_hit hN rfl) rfl ?_)))
    refine op_assign (ev_hit hN rfl) (reg_nil ?_)
    refine hK170 _ _ (wp_cond_true (ev_hit hN rfl) (seq_any fun K171 hK171 => one_reg (op_move (ev_base hN rfl s0) (op_move (ev_base hN rfl s3) (op_fn (vs := [(ptr p 0), (Value.int .i64 kd)]) ok56 ⟨(ev_hit hN rfl), ⟨(ev_hit hN rfl), trivial⟩⟩ (Value_ret (kd := kd) hk89 (by omega) hbl) ?_)))))
    rintro _ w173 ⟨E174, vi172, vs172, rfl, n172, hk172, hn172⟩
    have z_w173 := E174.size
    have hB5 := hB5.keepG E174 dj6
    have hb := hb.stepF E174 (fun _ _ h => h)
    refine op_fn (vs := [(Value.agg #[(Value.int .i64 (if kd = 2 then (2 : Int) else 1)), (Value.int .i64 vi172), (Value.string (bs vs172))])]) ok55 ⟨(ev_hit hN rfl), trivial⟩ (lit_ret (if kd = 2 then (2 : Int) else 1) vi172 vs172 _) ?_
    rintro _ w175 ⟨E176, rfl⟩
    have E176 := grown_of_below E176
    have z_w175 := E176.size
    have hB5 := hB5.keep0 E176
    have hk172 := hk172.kz E176
    have hb := hb.step0 E176
    refine op_store (vs := [(Value.int .i64 1), (Value.int .i64 (if kd = 2 then (2 : Int) else 1)), (Value.int .i64 vi172), (Value.string (bs vs172)), (Value.string (bs [])), (Value.string (bs [])), (Value.slice none 0 0)]) (cs' := [(Value.int .i64 1), (Value.int .i64 (if kd = 2 then (2 : Int) else 1)), (Value.int .i64 vi172), (Value.string (bs vs172)), (Value.string (bs [])), (Value.string (bs [])), (Value.slice none 0 0)]) size28 (ev_hit hN rfl) (ev_hit hN rfl) rfl rfl rfl hB5 (Nat.le_of_ble_eq_true rfl) rfl ?_
    intro w179 hB5 E180
    have z_w179 := E180.size
    have hk172 := hk172.keepG (Gr.of E180) (Dj.one dj6)
    have hb := hb.step1 E180 (by omega)
    refine reg_nil (hK171 _ _ (wp_ret (blk_ret (then_ret ( ?_)))))
    refine retN (rs := [.cell 10 28]) (vs := [(Value.agg #[(Value.int .i64 1), (Value.int .i64 (if kd = 2 then (2 : Int) else 1)), (Value.int .i64 vi172), (Value.string (bs vs172)), (Value.string (bs [])), (Value.string (bs [])), (Value.slice none 0 0)])]) rfl hd ⟨⟨_, (ev_hit hN rfl), run_loadA (cs := [(Value.int .i64 1), (Value.int .i64 (if kd = 2 then (2 : Int) else 1)), (Value.int .i64 vi172), (Value.string (bs vs172)), (Value.string (bs [])), (Value.string (bs [])), (Value.slice none 0 0)]) agg28 rfl (fun j u hu => by rw [Nat.zero_add]; exact hB5.cell hu)⟩, trivial⟩ rfl ⟨_, rfl, ?_⟩
    exact ⟨hb, (XE.mk 1 (if kd = 2 then (2 : Int) else 1) vi172 vs172 [] [] (Value.slice none 0 0) []), rfl, .leaf rfl rfl, fun _ => (kind_lit rfl rfl).trans (by show ((if kd = 2 then (2 : Int) else 1), (0 : Int)) = _; (repeat' split) <;> first | rfl | (congr 1; omega)), n172, hk172, by omega⟩
   ·
    refine op_move (ev_hit hN rfl) (g_true (j := 2) (dj := 95) (b := false) rfl rfl rfl (ev_hit hN rfl) (op_move (ev_base hN rfl s4) (g_true (j := 2) (dj := 95) (b := false) rfl rfl rfl (ev_hit hN rfl) (op_gtr (ev_hit hN rfl) rfl (fun c97 => ?_) (fun c97 => ?_)))))
    ·
     refine op_pick_f (ev_hit hN rfl) (ev_hit hN rfl) ?_
     refine op_move (ev_hit hN rfl) (g_false (j := 6) (dj := 99) (b := false) rfl rfl rfl (ev_hit hN rfl) rfl rfl (g_false (j := 6) (dj := 99) (b := false) rfl rfl rfl (ev_hit hN rfl) rfl rfl (op_pick_t (ev_hit hN rfl) rfl ?_)))
     refine op_assign (ev_hit hN rfl) (reg_nil ?_)
     refine hK170 _ _ (wp_cond_true (ev_hit hN rfl) (seq_any fun K181 hK181 => one_reg (op_move (ev_base hN rfl s0) (op_move (ev_base hN rfl s3) (op_fn (vs := [(ptr p 0), (Value.int .i64 kd)]) ok56 ⟨(ev_hit hN rfl), ⟨(ev_hit hN rfl), trivial⟩⟩ (Value_ret (kd := kd) hk89 (by omega) hbl) ?_)))))
     rintro _ w183 ⟨E184, vi182, vs182, rfl, n182, hk182, hn182⟩
     have z_w183 := E184.size
     have hB5 := hB5.keepG E184 dj6
     have hb := hb.stepF E184 (fun _ _ h => h)
     refine op_fn (vs := [(Value.agg #[(Value.int .i64 (if kd = 2 then (2 : Int) else 1)), (Value.int .i64 vi182), (Value.string (bs vs182))])]) ok55 ⟨(ev_hit hN rfl), trivial⟩ (lit_ret (if kd = 2 then (2 : Int) else 1) vi182 vs182 _) ?_
     rintro _ w185 ⟨E186, rfl⟩
     have E186 := grown_of_below E186
     have z_w185 := E186.size
     have hB5 := hB5.keep0 E186
     have hk182 := hk182.kz E186
     have hb := hb.step0 E186
     refine op_store (vs := [(Value.int .i64 1), (Value.int .i64 (if kd = 2 then (2 : Int) else 1)), (Value.int .i64 vi182), (Value.string (bs vs182)), (Value.string (bs [])), (Value.string (bs [])), (Value.slice none 0 0)]) (cs' := [(Value.int .i64 1), (Value.int .i64 (if kd = 2 then (2 : Int) else 1)), (Value.int .i64 vi182), (Value.string (bs vs182)), (Value.string (bs [])), (Value.string (bs [])), (Value.slice none 0 0)]) size28 (ev_hit hN rfl) (ev_hit hN rfl) rfl rfl rfl hB5 (Nat.le_of_ble_eq_true rfl) rfl ?_
     intro w189 hB5 E190
     have z_w189 := E190.size
     have hk182 := hk182.keepG (Gr.of E190) (Dj.one dj6)
     have hb := hb.step1 E190 (by omega)
     refine reg_nil (hK181 _ _ (wp_ret (blk_ret (then_ret ( ?_)))))
     refine retN (rs := [.cell 10 28]) (vs := [(Value.agg #[(Value.int .i64 1), (Value.int .i64 (if kd = 2 then (2 : Int) else 1)), (Value.int .i64 vi182), (Value.string (bs vs182)), (Value.string (bs [])), (Value.string (bs [])), (Value.slice none 0 0)])]) rfl hd ⟨⟨_, (ev_hit hN rfl), run_loadA (cs := [(Value.int .i64 1), (Value.int .i64 (if kd = 2 then (2 : Int) else 1)), (Value.int .i64 vi182), (Value.string (bs vs182)), (Value.string (bs [])), (Value.string (bs [])), (Value.slice none 0 0)]) agg28 rfl (fun j u hu => by rw [Nat.zero_add]; exact hB5.cell hu)⟩, trivial⟩ rfl ⟨_, rfl, ?_⟩
     exact ⟨hb, (XE.mk 1 (if kd = 2 then (2 : Int) else 1) vi182 vs182 [] [] (Value.slice none 0 0) []), rfl, .leaf rfl rfl, fun _ => (kind_lit rfl rfl).trans (by show ((if kd = 2 then (2 : Int) else 1), (0 : Int)) = _; (repeat' split) <;> first | rfl | (congr 1; omega)), n182, hk182, by omega⟩
    ·
     refine op_pick_f (ev_hit hN rfl) (ev_hit hN rfl) ?_
     refine op_move (ev_hit hN rfl) (g_true (j := 6) (dj := 99) (b := false) rfl rfl rfl (ev_hit hN rfl) (op_move (ev_hit hN rfl) (g_true (j := 6) (dj := 99) (b := false) rfl rfl rfl (ev_hit hN rfl) (op_lss (ev_hit hN rfl) rfl (fun c101 => ?_) (fun c101 => ?_)))))
     ·
      refine op_pick_f (ev_hit hN rfl) (ev_hit hN rfl) ?_
      refine op_assign (ev_hit hN rfl) (reg_nil ?_)
      refine hK170 _ _ (wp_cond_true (ev_hit hN rfl) (seq_any fun K191 hK191 => one_reg (op_move (ev_base hN rfl s0) (op_move (ev_base hN rfl s3) (op_fn (vs := [(ptr p 0), (Value.int .i64 kd)]) ok56 ⟨(ev_hit hN rfl), ⟨(ev_hit hN rfl), trivial⟩⟩ (Value_ret (kd := kd) hk89 (by omega) hbl) ?_)))))
      rintro _ w193 ⟨E194, vi192, vs192, rfl, n192, hk192, hn192⟩
      have z_w193 := E194.size
      have hB5 := hB5.keepG E194 dj6
      have hb := hb.stepF E194 (fun _ _ h => h)
      refine op_fn (vs := [(Value.agg #[(Value.int .i64 (if kd = 2 then (2 : Int) else 1)), (Value.int .i64 vi192), (Value.string (bs vs192))])]) ok55 ⟨(ev_hit hN rfl), trivial⟩ (lit_ret (if kd = 2 then (2 : Int) else 1) vi192 vs192 _) ?_
      rintro _ w195 ⟨E196, rfl⟩
      have E196 := grown_of_below E196
      have z_w195 := E196.size
      have hB5 := hB5.keep0 E196
      have hk192 := hk192.kz E196
      have hb := hb.step0 E196
      refine op_store (vs := [(Value.int .i64 1), (Value.int .i64 (if kd = 2 then (2 : Int) else 1)), (Value.int .i64 vi192), (Value.string (bs vs192)), (Value.string (bs [])), (Value.string (bs [])), (Value.slice none 0 0)]) (cs' := [(Value.int .i64 1), (Value.int .i64 (if kd = 2 then (2 : Int) else 1)), (Value.int .i64 vi192), (Value.string (bs vs192)), (Value.string (bs [])), (Value.string (bs [])), (Value.slice none 0 0)]) size28 (ev_hit hN rfl) (ev_hit hN rfl) rfl rfl rfl hB5 (Nat.le_of_ble_eq_true rfl) rfl ?_
      intro w199 hB5 E200
      have z_w199 := E200.size
      have hk192 := hk192.keepG (Gr.of E200) (Dj.one dj6)
      have hb := hb.step1 E200 (by omega)
      refine reg_nil (hK191 _ _ (wp_ret (blk_ret (then_ret ( ?_)))))
      refine retN (rs := [.cell 10 28]) (vs := [(Value.agg #[(Value.int .i64 1), (Value.int .i64 (if kd = 2 then (2 : Int) else 1)), (Value.int .i64 vi192), (Value.string (bs vs192)), (Value.string (bs [])), (Value.string (bs [])), (Value.slice none 0 0)])]) rfl hd ⟨⟨_, (ev_hit hN rfl), run_loadA (cs := [(Value.int .i64 1), (Value.int .i64 (if kd = 2 then (2 : Int) else 1)), (Value.int .i64 vi192), (Value.string (bs vs192)), (Value.string (bs [])), (Value.string (bs [])), (Value.slice none 0 0)]) agg28 rfl (fun j u hu => by rw [Nat.zero_add]; exact hB5.cell hu)⟩, trivial⟩ rfl ⟨_, rfl, ?_⟩
      exact ⟨hb, (XE.mk 1 (if kd = 2 then (2 : Int) else 1) vi192 vs192 [] [] (Value.slice none 0 0) []), rfl, .leaf rfl rfl, fun _ => (kind_lit rfl rfl).trans (by show ((if kd = 2 then (2 : Int) else 1), (0 : Int)) = _; (repeat' split) <;> first | rfl | (congr 1; omega)), n192, hk192, by omega⟩
     ·
      refine op_pick_f (ev_hit hN rfl) (ev_hit hN rfl) ?_
      refine op_assign (ev_hit hN rfl) (reg_nil (hK170 _ _ (wp_cond_false (ev_hit hN rfl) (seq_any fun K201 hK201 => ?_))))
      refine one_reg (op_move (ev_hit hN rfl) (op_eql (ev_hit hN rfl) rfl (fun c109 => ?_) (fun c109 => ?_)))
      ·
       refine op_assign (ev_hit hN rfl) (reg_nil (hK201 _ _ (wp_cond_true (ev_hit hN rfl) (seq_any fun K202 hK202 => ?_))))
       refine one_reg (op_move (ev_base hN rfl s0) (op_move (ev_base hN rfl s1) (op_move (ev_base hN rfl s2) (op_move (ev_base hN rfl s3) (op_move (ev_base hN rfl s4) (op_add (ev_hit hN rfl) rfl (add64 (by omega)) ?_))))))
       refine op_fn (vs := [(ptr p 0), vc, vk, (Value.int .i64 kd), (Value.int .i64 (((deep : Nat) : Int) + 1))]) ok22 ⟨(ev_hit hN rfl), ⟨(ev_hit hN rfl), ⟨(ev_hit hN rfl), ⟨(ev_hit hN rfl), ⟨(ev_hit hN rfl), trivial⟩⟩⟩⟩⟩ (ih _ (by split <;> omega) (kd := kd) (deep := (deep + 1)) rfl hk89 (by omega) hbl hC hK (by omega) (by omega) (by omega) (by omega) (by omega) (by omega) (by omega)) ?_
       rintro _ w204 ⟨E205, e203, rfl, he203, hg203, n203, hk203, hn203⟩
       have z_w204 := E205.size
       have hB5 := hB5.keepG E205 dj6
       have hb := hb.stepF E205 (fun _ _ h => h)
       refine op_bslice (e := 28) (pv := [(0, (Value.agg #[(Value.int .i64 e203.op), (Value.int .i64 e203.vk), (Value.int .i64 e203.vi), (Value.string (bs e203.vt)), (Value.string (bs e203.tb)), (Value.string (bs e203.nm)), e203.av]))]) (cs := [(Value.int .i64 e203.op), (Value.int .i64 e203.vk), (Value.int .i64 e203.vi), (Value.string (bs e203.vt)), (Value.string (bs e203.tb)), (Value.string (bs e203.nm)), e203.av]) ⟨rfl, (ev_hit hN rfl), trivial⟩ (by kernel_rfl) ?_
       intro w206 b207 lo_b207 hi_b207 hB209 E208
       have dj210 : ¬ (fun k => k = p) b207 := fun hf => by have := (hk203.lt _ hf).2; omega
       have z_w206 := E208.size
       have hB5 := hB5.keep0 E208
       have hk203 := hk203.kz E208
       have he203 := he203.keep0 E208
       have hb := hb.step0 E208
       refine op_build (pv := [(0, (Value.int .i64 3)), (4, (Value.slice (some ⟨b207, 0, none⟩) 1 1))]) (v := (Value.agg #[(Value.int .i64 3), (Value.int .i64 0), (Value.int .i64 0), (Value.string (bs [])), (Value.string (bs [])), (Value.string (bs [])), (Value.slice (some ⟨b207, 0, none⟩) 1 1)])) ⟨rfl, rfl, ⟨rfl, (ev_hit hN rfl), trivial⟩⟩ (by kernel_rfl) ?_
       refine op_store (vs := [(Value.int .i64 3), (Value.int .i64 0), (Value.int .i64 0), (Value.string (bs [])), (Value.string (bs [])), (Value.string (bs [])), (Value.slice (some ⟨b207, 0, none⟩) 1 1)]) (cs' := [(Value.int .i64 3), (Value.int .i64 0), (Value.int .i64 0), (Value.string (bs [])), (Value.string (bs [])), (Value.string (bs [])), (Value.slice (some ⟨b207, 0, none⟩) 1 1)]) size28 (ev_hit hN rfl) (ev_hit hN rfl) rfl rfl rfl hB5 (Nat.le_of_ble_eq_true rfl) rfl ?_
       intro w213 hB5 E214
       have z_w213 := E214.size
       have hk203 := hk203.keepG (Gr.of E214) (Dj.one dj6)
       have he203 := he203.keep E214 (fun k hk => (by simp at hk; omega))
       have hB209 := hB209.keep E214 (by simp; omega)
       have hb := hb.step1 E214 (by omega)
       refine reg_nil (hK202 _ _ (wp_ret (blk_ret (then_ret ( ?_)))))
       refine retN (rs := [.cell 10 28]) (vs := [(Value.agg #[(Value.int .i64 3), (Value.int .i64 0), (Value.int .i64 0), (Value.string (bs [])), (Value.string (bs [])), (Value.string (bs [])), (Value.slice (some ⟨b207, 0, none⟩) 1 1)])]) rfl hd ⟨⟨_, (ev_hit hN rfl), run_loadA (cs := [(Value.int .i64 3), (Value.int .i64 0), (Value.int .i64 0), (Value.string (bs [])), (Value.string (bs [])), (Value.string (bs [])), (Value.slice (some ⟨b207, 0, none⟩) 1 1)]) agg28 rfl (fun j u hu => by rw [Nat.zero_add]; exact hB5.cell hu)⟩, trivial⟩ rfl ⟨_, rfl, ?_⟩
       exact ⟨hb, (XE.mk 3 0 0 [] [] [] (Value.slice (some ⟨b207, 0, none⟩) 1 1) [e203]), rfl, (XsFr.lit1 (x := e203) hB209 (by omega) hB209.lt (he203.mono (by omega) (by omega))).node, fun hg => kind_one rfl (hg203 hg) (by first | (left; exact ⟨rfl, by omega⟩) | (right; exact ⟨rfl, by omega⟩)), n203, hk203, by omega⟩
      ·
       refine op_assign (ev_hit hN rfl) (reg_nil (hK201 _ _ ?_))
       refine wp_cond_false (ev_hit hN rfl) (wp_skip (hK101 _ _ (seq_any fun K215 hK215 => one_reg (op_move (ev_base hN rfl s0) (op_fn (vs := [(ptr p 0), (Value.int .i64 3)]) ok35 ⟨(ev_hit hN rfl), ⟨rfl, trivial⟩⟩ (Num_ret (m := 3) hk89 (by omega) hbl (by omega) (by omega)) ?_)))))
       rintro _ w217 ⟨E218, r216, rfl, hr216, n216, hk216, hn216, hn216x⟩
       have hk89_old := hk89
       have z_w217 := E218.size
       have hbl := hbl.keepG E218 (fun k hk => .inr (by have := hk89_old.lt k hk; omega))
       have hC := hC.keepG E218 (fun k hk => by have h9 : k = p := hk; omega)
       have hK := hK.keepG E218 (fun k hk => by have h9 : k = p := hk; omega)
       have hB5 := hB5.keepG E218 dj6
       have hb := hb.stepF E218 (fun _ _ h => h)
       refine op_add rfl (ev_hit hN rfl) (add64 (by omega)) ?_
       refine op_move (ev_base hN rfl s0) (op_move (ev_base hN rfl s1) (op_move (ev_base hN rfl s2) (op_move (ev_base hN rfl s3) (op_move (ev_base hN rfl s4) (op_add (ev_hit hN rfl) rfl (add64 (by omega)) ?_)))))
       refine op_fn (vs := [(ptr p 0), vc, vk, (Value.int .i64 kd), (Value.int .i64 (((deep : Nat) : Int) + 1))]) ok22 ⟨(ev_hit hN rfl), ⟨(ev_hit hN rfl), ⟨(ev_hit hN rfl), ⟨(ev_hit hN rfl), ⟨(ev_hit hN rfl), trivial⟩⟩⟩⟩⟩ (ih _ (by split <;> omega) (kd := kd) (deep := (deep + 1)) rfl hk216 (by omega) hbl hC hK (by omega) (by omega) (by omega) (by omega) (by omega) (by omega) (by omega)) ?_
       rintro _ w220 ⟨E221, e219, rfl, he219, hg219, n219, hk219, hn219⟩
       have hk216_old := hk216
       have z_w220 := E221.size
       have hbl := hbl.keepG E221 (fun k hk => .inr (by have := hk216_old.lt k hk; omega))
       have hC := hC.keepG E221 (fun k hk => by have h9 : k = p := hk; omega)
       have hK := hK.keepG E221 (fun k hk => by have h9 : k = p := hk; omega)
       have hB5 := hB5.keepG E221 dj6
       have hb := hb.stepF E221 (fun _ _ h => h)
       refine op_move (ev_base hN rfl s0) (op_move (ev_base hN rfl s1) (op_move (ev_base hN rfl s2) (op_move (ev_base hN rfl s3) (op_move (ev_base hN rfl s4) (op_add (ev_hit hN rfl) rfl (add64 (by omega)) ?_)))))
       refine op_fn (vs := [(ptr p 0), vc, vk, (Value.int .i64 kd), (Value.int .i64 (((deep : Nat) : Int) + 1))]) ok22 ⟨(ev_hit hN rfl), ⟨(ev_hit hN rfl), ⟨(ev_hit hN rfl), ⟨(ev_hit hN rfl), ⟨(ev_hit hN rfl), trivial⟩⟩⟩⟩⟩ (ih _ (by split <;> omega) (kd := kd) (deep := (deep + 1)) rfl hk219 (by omega) hbl hC hK (by omega) (by omega) (by omega) (by omega) (by omega) (by omega) (by omega)) ?_
       rintro _ w223 ⟨E224, e222, rfl, he222, hg222, n222, hk222, hn222⟩
       have z_w223 := E224.size
       have hB5 := hB5.keepG E224 dj6
       have he219 := he219.keepG E224 (fun k hk => .inl (by have h9 : k = p := hk; omega))
       have hb := hb.stepF E224 (fun _ _ h => h)
       refine op_fn (vs := [(Value.int .i64 (5 + ((r216 : Nat) : Int))), (Value.agg #[(Value.int .i64 e219.op), (Value.int .i64 e219.vk), (Value.int .i64 e219.vi), (Value.string (bs e219.vt)), (Value.string (bs e219.tb)), (Value.string (bs e219.nm)), e219.av]), (Value.agg #[(Value.int .i64 e222.op), (Value.int .i64 e222.vk), (Value.int .i64 e222.vi), (Value.string (bs e222.vt)), (Value.string (bs e222.tb)), (Value.string (bs e222.nm)), e222.av])]) ok53 ⟨(ev_hit hN rfl), ⟨(ev_hit hN rfl), ⟨(ev_hit hN rfl), trivial⟩⟩⟩ (two_ret (L := w217.heap.size) (5 + ((r216 : Nat) : Int)) e219 e222 _ (by omega) (he219.mono (by omega) (by omega)) (he222.mono (by omega) (by omega))) ?_
       rintro _ w226 ⟨E227, av225, rfl, hv225⟩
       have E227 := grown_of_below E227
       have z_w226 := E227.size
       have hB5 := hB5.keep0 E227
       have hk222 := hk222.kz E227
       have hb := hb.step0 E227
       refine op_store (vs := [(Value.int .i64 (5 + ((r216 : Nat) : Int))), (Value.int .i64 0), (Value.int .i64 0), (Value.string (bs [])), (Value.string (bs [])), (Value.string (bs [])), av225]) (cs' := [(Value.int .i64 (5 + ((r216 : Nat) : Int))), (Value.int .i64 0), (Value.int .i64 0), (Value.string (bs [])), (Value.string (bs [])), (Value.string (bs [])), av225]) size28 (ev_hit hN rfl) (ev_hit hN rfl) rfl rfl (by simp only [List.all_cons, List.all_nil, Bool.true_and, Bool.and_true, hv225.1.one]; try rfl) hB5 (Nat.le_of_ble_eq_true rfl) rfl ?_
       intro w230 hB5 E231
       have z_w230 := E231.size
       have hk222 := hk222.keepG (Gr.of E231) (Dj.one dj6)
       have hv225 := hv225.keep E231 (fun k hk => (by simp at hk; omega))
       have hb := hb.step1 E231 (by omega)
       refine reg_nil (hK215 _ _ (wp_ret ?_))
       refine retN (rs := [.cell 10 28]) (vs := [(Value.agg #[(Value.int .i64 (5 + ((r216 : Nat) : Int))), (Value.int .i64 0), (Value.int .i64 0), (Value.string (bs [])), (Value.string (bs [])), (Value.string (bs [])), av225])]) rfl hd ⟨⟨_, (ev_hit hN rfl), run_loadA (cs := [(Value.int .i64 (5 + ((r216 : Nat) : Int))), (Value.int .i64 0), (Value.int .i64 0), (Value.string (bs [])), (Value.string (bs [])), (Value.string (bs [])), av225]) agg28 rfl (fun j u hu => by rw [Nat.zero_add]; exact hB5.cell hu)⟩, trivial⟩ rfl ⟨_, rfl, ?_⟩
       refine ⟨hb, (XE.mk (5 + ((r216 : Nat) : Int)) 0 0 [] [] [] av225 [e219, e222]), rfl, (hv225.mono (by omega) (by omega)).node, fun hg => (kind_two (a := e219) (b := e222) rfl (hg219 hg) (hg222 hg) ?_).trans ?_, n222, hk222, by omega⟩
       · show (5 ≤ (5 + ((r216 : Nat) : Int)) ∧ (5 + ((r216 : Nat) : Int)) ≤ 7 ∧ kd = 1) ∨ (8 ≤ (5 + ((r216 : Nat) : Int)) ∧ (5 + ((r216 : Nat) : Int)) ≤ 13 ∧ (kd = 1 ∨ kd = 2)) ∨ (((5 + ((r216 : Nat) : Int)) = 14 ∨ (5 + ((r216 : Nat) : Int)) = 15) ∧ kd = 3); omega
       · show ((if 5 ≤ (5 + ((r216 : Nat) : Int)) ∧ (5 + ((r216 : Nat) : Int)) ≤ 7 then (1 : Int) else 3), (0 : Int)) = _; rw [if_pos (by omega), show kd = 1 by omega]

theorem Expr_all (m : Nat) : ExprP m := by
  induction m using Nat.strongRecOn with
  | _ m ih =>
    intro base p n Bp lv bl C K vc vk Lc Bc kd deep w hm hpk hBp hbl hC hK hBc hcp hcl h1 h2 h3 h4
    subst hm
    exact Expr_in hpk hBp hbl hC hK hBc hcp hcl h1 h2 h3 h4 ih
end Go.Proofs.Ythflnkfghogaoaa

namespace Go.Gx
theorem PickR.mono {w : World} {base base' p n : Nat} {lv : Value} {bl : List UInt8} {F : Nat → Prop} (h : PickR w base p lv bl n F) (hb : base' ≤ base) : PickR w base' p lv bl n F := ⟨h.1, Nat.le_trans hb h.2.1, h.2.2⟩
theorem good0 : GoodC (colsOf tabT.nm tabT.cols) (kindsOf tabT.cols) := by
  refine ⟨rfl, fun i hi => ?_⟩
  have : i = 0 ∨ i = 1 ∨ i = 2 := by have : (colsOf tabT.nm tabT.cols).length = 3 := rfl; omega
  rcases this with rfl | rfl | rfl
  · exact ⟨by kernel_rfl, fun _ => by kernel_rfl⟩
  · exact ⟨by kernel_rfl, fun _ => by kernel_rfl⟩
  · exact ⟨by kernel_rfl, fun _ => by kernel_rfl⟩
theorem sch_0 {D : List DTab} (h : D.map DTab.t = schT) : D.length = 2 ∧ (D.getD 0 default).t = tabT := by
  have h2 : D.length = 2 := by have := congrArg List.length h; simpa [schT] using this
  refine ⟨h2, ?_⟩
  match D, h, h2 with
  | [a, b], h, _ => exact (List.cons.inj h).1
section
variable {C : List PItm} {K : List Int} {e a : XE} {k : Int}
theorem one9 {l : List Int} (op : Int) (h : l = [k]) (hk : k = takesX op [k]) : ∀ j, j < l.length → l.getD j 0 = takesX op l := by
  subst h; intro j hj
  have : j = 0 := by simp at hj; exact hj
  subst this; exact hk
theorem two9 (op : Int) (hk : k = takesX op [k, k]) : ∀ j, j < [k, k].length → [k, k].getD j 0 = takesX op [k, k] := by
  intro j hj
  have : j = 0 ∨ j = 1 := by simp at hj; omega
  rcases this with rfl | rfl <;> exact hk
theorem kind_neg9 (h1 : e.op = 3) (h2 : e.args = [a]) (ha : kindX C K a = (k, 0)) : (kindX C K e).2 = if k = 1 then 0 else 11 := by
  rw [kindX_eq, h1, h2, if_neg (by simp [argsN]), if_neg (fun g => g (by simp [ha, firstE]))]
  simp only [List.map_cons, List.map_nil, ha]
  by_cases h : k = 1
  · rw [if_pos h, ofX_ok (l := [k]) (op := 3) (by decide) (by decide) (by omega) (one9 3 rfl h)]
  · rw [if_neg h, ofX_no (l := [k]) (op := 3) (i := 0) (by decide) (by decide) (by omega) (by simp) h]
theorem kind_not9 (h1 : e.op = 4) (h2 : e.args = [a]) (ha : kindX C K a = (k, 0)) : (kindX C K e).2 = if k = 3 then 0 else 11 := by
  rw [kindX_eq, h1, h2, if_neg (by simp [argsN]), if_neg (fun g => g (by simp [ha, firstE]))]
  simp only [List.map_cons, List.map_nil, ha]
  by_cases h : k = 3
  · rw [if_pos h, ofX_ok (l := [k]) (op := 4) (by decide) (by decide) (by omega) (one9 4 rfl h)]
  · rw [if_neg h, ofX_no (l := [k]) (op := 4) (i := 0) (by decide) (by decide) (by omega) (by simp) h]
theorem kind_lt9 (h1 : e.op = 10) (h2 : e.args = [a, a]) (ha : kindX C K a = (k, 0)) : (kindX C K e).2 = if k = 1 ∨ k = 2 then 0 else 11 := by
  rw [kindX_eq, h1, h2, if_neg (by simp [argsN]), if_neg (fun g => g (by simp [ha, firstE]))]
  simp only [List.map_cons, List.map_nil, ha]
  by_cases h : k = 1 ∨ k = 2
  · rw [if_pos h, ofX_ok (l := [k, k]) (op := 10) (by decide) (by decide) (by rw [List.getD_cons_zero]; omega) (two9 10 rfl)]
  · rw [if_neg h, ofX_bad (l := [k, k]) (op := 10) ⟨by decide, by decide, by rw [List.getD_cons_zero]; omega⟩]
end
end Go.Gx

namespace Go.Proofs.Ythflnkfghogaoaa
open Go.Gx Go.RowKit
attribute [local irreducible] wpList wpStill Code.wp Calls

theorem Made_ret {lv : Value} {bl : List UInt8} {B0 : Nat} {w : World} (hB0 : B0 ≤ w.heap.size) (hbl : RdC w 0 w.heap.size 1 lv bl.length (bl.map u8v)) (hl9 : bl.length ≤ 1000) : Ret Try.prog 17 #[lv] w (fun v' w' => Below w.heap.size w w' ∧ ∃ p : Nat, v' = ptr p 0 ∧ w.heap.size ≤ p ∧ PickR w' B0 p lv bl 0 (fun k => k = p)) := by
 have hb := Below.refl w.heap.size w
 refine enter (N := 6) Try.func17 rfl rfl (by simp) fun a0 hN hd hA => ?_
 have s0 : a0.tmps.getD 0 undef = lv := hA 0 (by simp)
 clear hA
 refine seq_any fun K1 hK1 => one_reg ?_
 refine op_assign rfl (reg_nil (hK1 _ _ (seq_any fun K2 hK2 => one_reg (op_move (ev_base hN rfl s0) (op_build (pv := [(0, lv)]) (v := (Value.agg #[lv, (Value.int .i64 0)])) ⟨rfl, (ev_hit hN rfl), trivial⟩ (by obtain ⟨_, _, _, rfl⟩ := hbl.sl; kernel_rfl) ?_)))))
 refine op_box (cs := [lv, (Value.int .i64 0)]) (ev_hit hN rfl) rfl ?_
 intro w3 b4 lo_b4 hi_b4 hB6 E5
 have z_w3 := E5.size
 have hb := below_step0 hb E5 hb.size
 refine op_assign (ev_hit hN rfl) (reg_nil (hK2 _ _ (wp_ret ?_)))
 refine ret1 rfl hd (ev_hit hN rfl) ⟨_, rfl, ?_⟩
 exact ⟨hb, _, rfl, by omega, rfl, by omega, Nat.zero_le _, hl9, hB6⟩

theorem three_ret (a b c : Bool) (w : World) : Ret Try.prog 23 #[(Value.bool a), (Value.bool b), (Value.bool c)] w (fun v' w' => Below w.heap.size w w' ∧ v' = .agg #[.bool a, .bool b, .bool c]) := by
 have hb := Below.refl w.heap.size w
 refine enter (N := 11) Try.func23 rfl rfl (by simp) fun a0 hN hd hA => ?_
 have s0 : a0.tmps.getD 0 undef = (Value.bool a) := hA 0 (by simp)
 have s1 : a0.tmps.getD 1 undef = (Value.bool b) := hA 1 (by simp)
 have s2 : a0.tmps.getD 2 undef = (Value.bool c) := hA 2 (by simp)
 clear hA
 refine seq_any fun K7 hK7 => one_reg (op_alloc (cs := [(Value.bool false), (Value.bool false), (Value.bool false)]) zero57 rfl ?_)
 intro w8 b9 lo_b9 hi_b9 hB11 E10
 have z_w8 := E10.size
 have hb := below_step0 hb E10 hb.size
 refine reg_nil ?_
 refine hK7 _ _ (seq_any fun K12 hK12 => one_reg (op_move (ev_base hN rfl s0) (op_move (ev_base hN rfl s1) (op_move (ev_base hN rfl s2) (op_build (pv := [(0, (Value.bool a)), (1, (Value.bool b)), (2, (Value.bool c))]) (v := (Value.agg #[(Value.bool a), (Value.bool b), (Value.bool c)])) ⟨rfl, (ev_hit hN rfl), ⟨rfl, (ev_hit hN rfl), ⟨rfl, (ev_hit hN rfl), trivial⟩⟩⟩ (by kernel_rfl) ?_)))))
 refine op_store (vs := [(Value.bool a), (Value.bool b), (Value.bool c)]) (cs' := [(Value.bool a), (Value.bool b), (Value.bool c)]) size57 (ev_hit hN rfl) (ev_hit hN rfl) rfl rfl rfl hB11 (Nat.le_of_ble_eq_true rfl) rfl ?_
 intro w15 hB11 E16
 have z_w15 := E16.size
 have hb := below_step1 hb E16 hb.size (by omega)
 refine reg_nil (hK12 _ _ (wp_ret ?_))
 refine retN (rs := [.cell 6 57]) (vs := [(Value.agg #[(Value.bool a), (Value.bool b), (Value.bool c)])]) rfl hd ⟨⟨_, (ev_hit hN rfl), run_loadA (cs := [(Value.bool a), (Value.bool b), (Value.bool c)]) agg57 rfl (fun j u hu => by rw [Nat.zero_add]; exact hB11.cell hu)⟩, trivial⟩ rfl ⟨_, rfl, ?_⟩
 exact ⟨hb, rfl⟩

theorem TypedWhole_ret {bl : List UInt8} {lv : Value} (k : UInt8) (w : World) (hbl : RdC w 0 w.heap.size 1 lv bl.length (bl.map u8v)) : Ret Try.prog 5 #[lv, (Value.int .u8 (k.toNat : Int))] w (fun v' w' => Below w.heap.size w w' ∧ v' = .bool true) := by
 have hEx9 := Expr_all
 have hb := Below.refl w.heap.size w
 refine enter (N := 119) Try.func5 rfl rfl (by simp) fun a0 hN hd hA => ?_
 have s0 : a0.tmps.getD 0 undef = lv := hA 0 (by simp)
 have s1 : a0.tmps.getD 1 undef = (Value.int .u8 (k.toNat : Int)) := hA 1 (by simp)
 clear hA
 refine seq_any fun K17 hK17 => one_reg ?_
 refine op_assign rfl (reg_nil (hK17 _ _ (seq_any fun K18 hK18 => seq_any fun K19 hK19 => one_reg (op_fn (vs := []) ok12 trivial (begun10_ret _) ?_))))
 rintro _ w20 ⟨E21, rfl⟩
 have E21 := grown_of_below E21
 have z_w20 := E21.size
 have hbl := hbl.keep0 E21
 have hb := below_step0 hb E21 hb.size
 refine op_not (ev_hit hN rfl) ?_
 refine reg_nil (hK19 _ _ (wp_cond_false (ev_hit hN rfl) ?_))
 refine wp_skip (hK18 _ _ (seq_any fun K22 hK22 => seq_any fun K23 hK23 => one_reg (op_move (ev_base hN rfl s0) (op_len_rd Try.underlying35 (ev_hit hN rfl) hbl ?_))))
 refine op_gtr (ev_hit hN rfl) rfl (fun c22 => ?_) (fun c22 => ?_)
 ·
  refine reg_nil (hK23 _ _ ?_)
  refine wp_cond_true (ev_hit hN rfl) (seq_any fun K24 hK24 => one_reg (op_assign rfl (reg_nil (hK24 _ _ (wp_ret (then_ret ( ?_)))))))
  refine ret1 rfl hd (ev_hit hN rfl) ⟨_, rfl, ?_⟩
  exact ⟨hb, rfl⟩
 ·
  refine reg_nil ?_
  refine hK23 _ _ (wp_cond_false (ev_hit hN rfl) (wp_skip (hK22 _ _ (seq_any fun K25 hK25 => one_reg (op_fn (vs := []) ok16 trivial (Schema_ret _) ?_)))))
  rintro _ w27 ⟨E28, tv26, D26, rfl, hM26, hT26⟩
  have E28 := grown_of_below E28
  have z_w27 := E28.size
  have hbl := hbl.keep0 E28
  have hb := below_step0 hb E28 hb.size
  have hR26 := hT26.1
  have hz26 := sch_sz hM26
  refine op_fieldv (v := tv26) (ev_hit hN rfl) (by obtain ⟨_, _, _, rfl⟩ := hR26.sl; kernel_rfl) ?_
  obtain ⟨hl9, ht9⟩ := sch_0 hM26
  have htc := (hT26.2 (D26.getD 0 default) (getD_mem (by omega))).1
  have hcl9 : (colsOf (D26.getD 0 default).t.nm (D26.getD 0 default).t.cols).length = 3 := by rw [cols_len, ht9]; rfl
  have hkl9 : (kindsOf (D26.getD 0 default).t.cols).length = 3 := by rw [kinds_len, ht9]; rfl
  have hcl8 : (D26.getD 0 default).t.cols.length = 3 := by rw [ht9]; rfl
  have hgd9 : GoodC (colsOf (D26.getD 0 default).t.nm (D26.getD 0 default).t.cols) (kindsOf (D26.getD 0 default).t.cols) := by rw [ht9]; exact good0
  refine op_index_rd slt36 (ev_hit hN rfl) hR26 rfl (by omega) (by omega) ?_
  intro b29 o30 h0b29 h1b29 hc31
  refine op_loadA (cs := [(Value.string (bs (D26.getD 0 default).t.nm)), (D26.getD 0 default).cv, (D26.getD 0 default).iv]) agg55 rfl (ev_hit hN rfl) (fun j u hu => hc31 j u (by have := (List.getElem?_eq_some_iff.1 hu).1; simpa using this) ((el_dt (i := 0) (by omega) (by omega)) j u hu)) ?_
  refine op_fn (vs := [(Value.agg #[(Value.string (bs (D26.getD 0 default).t.nm)), (D26.getD 0 default).cv, (D26.getD 0 default).iv])]) ok21 ⟨(ev_hit hN rfl), trivial⟩ (Cols_ret (nm := ((D26.getD 0 default).t.nm)) (by omega) (htc.mono (Nat.zero_le _) (by omega))) ?_
  rintro _ w33 ⟨E34, av32, bv32, rfl, hc32, hk32⟩
  have E34 := grown_of_below E34
  have z_w33 := E34.size
  have hbl := hbl.keep0 E34
  have hb := below_step0 hb E34 hb.size
  refine op_move (ev_hit hN rfl) (op_extract (ev_hit hN rfl) rfl ?_)
  refine op_extract (ev_hit hN rfl) rfl ?_
  refine op_assign (ev_hit hN rfl) ?_
  refine op_assign (ev_hit hN rfl) (reg_nil (hK25 _ _ (seq_any fun K35 hK35 => one_reg (op_move (ev_base hN rfl s1) (op_rem (r := ((k.toNat % 3 : Nat) : Int)) (ev_hit hN rfl) rfl (by decide) (by rw [Int.tmod_eq_emod_of_nonneg (by omega)]; omega) ?_)))))
  refine op_conv (r := ((k.toNat % 3 : Nat) : Int)) (ev_hit hN rfl) us5 Try.underlying3 (wrap_i64 (by omega)) ?_
  refine op_add rfl (ev_hit hN rfl) (add64 (by omega)) ?_
  refine op_assign (ev_hit hN rfl) (reg_nil (hK35 _ _ (seq_any fun K36 hK36 => one_reg (op_move (ev_base hN rfl s0) (op_fn (vs := [lv]) ok17 ⟨(ev_hit hN rfl), trivial⟩ (Made_ret (B0 := w.heap.size) (by omega) (hbl.mono (Nat.zero_le _) (by omega)) (by omega)) ?_)))))
  rintro _ w38 ⟨E39, p37, rfl, lo_p37, hk37⟩
  have E39 := grown_of_below E39
  have z_w38 := E39.size
  have hbl := hbl.keep0 E39
  have hc32 := hc32.keep0 E39
  have hk32 := hk32.keep0 E39
  have hb := below_step0 hb E39 hb.size
  have hi_p37 := (hk37.lt p37 rfl).2
  refine op_move (ev_hit hN rfl) (op_move (ev_hit hN rfl) (op_move (ev_hit hN rfl) (op_fn (vs := [(ptr p37 0), av32, bv32, (Value.int .i64 (1 + ((k.toNat % 3 : Nat) : Int))), (Value.int .i64 0)]) ok22 ⟨(ev_hit hN rfl), ⟨(ev_hit hN rfl), ⟨(ev_hit hN rfl), ⟨(ev_hit hN rfl), ⟨rfl, trivial⟩⟩⟩⟩⟩ (hEx9 _ (kd := (1 + ((k.toNat % 3 : Nat) : Int))) (deep := 0) rfl hk37 (by omega) hbl hc32 hk32 (by omega) (by omega) (by omega) (by omega) (by omega) (by omega) (by omega)) ?_)))
  rintro _ w41 ⟨E42, e40, rfl, he40, hg40, n40, hk40, hn40⟩
  have hk37_old := hk37
  have z_w41 := E42.size
  have hc32 := hc32.keepG E42 (fun k hk => by have h9 : k = p37 := hk; omega)
  have hk32 := hk32.keepG E42 (fun k hk => by have h9 : k = p37 := hk; omega)
  have hb := below_stepG hb E42 hb.size (fun k hk => (hk37_old.lt k hk).1)
  refine op_alloc (cs := [(Value.int .i64 0), (Value.int .i64 0), (Value.int .i64 0), (Value.string (bs [])), (Value.string (bs [])), (Value.string (bs [])), (Value.slice none 0 0)]) zero28 rfl ?_
  intro w43 b44 lo_b44 hi_b44 hB46 E45
  have dj47 : ¬ (fun k => k = p37) b44 := fun hf => by have := (hk40.lt _ hf).2; omega
  have z_w43 := E45.size
  have hc32 := hc32.keep0 E45
  have hk32 := hk32.keep0 E45
  have hk40 := hk40.kz E45
  have he40 := he40.keep0 E45
  have hb := below_step0 hb E45 hb.size
  refine op_store (vs := [(Value.int .i64 e40.op), (Value.int .i64 e40.vk), (Value.int .i64 e40.vi), (Value.string (bs e40.vt)), (Value.string (bs e40.tb)), (Value.string (bs e40.nm)), e40.av]) (cs' := [(Value.int .i64 e40.op), (Value.int .i64 e40.vk), (Value.int .i64 e40.vi), (Value.string (bs e40.vt)), (Value.string (bs e40.tb)), (Value.string (bs e40.nm)), e40.av]) size28 (ev_hit hN rfl) (ev_hit hN rfl) rfl rfl (by simp only [List.all_cons, List.all_nil, Bool.true_and, Bool.and_true, he40.list.1.one]; try rfl) hB46 (Nat.le_of_ble_eq_true rfl) rfl ?_
  intro w50 hB46 E51
  have z_w50 := E51.size
  have hc32 := hc32.keep E51 (fun k hk => (by simp at hk; omega))
  have hk32 := hk32.keep E51 (fun k hk => (by simp at hk; omega))
  have hk40 := hk40.keepG (Gr.of E51) (Dj.one dj47)
  have he40 := he40.keep E51 (fun k hk => (by simp at hk; omega))
  have hb := below_step1 hb E51 hb.size (by omega)
  refine reg_nil (hK36 _ _ (seq_any fun K52 hK52 => one_reg (op_move (ev_hit hN rfl) (op_move (ev_hit hN rfl) (op_loadA (cs := [(Value.int .i64 e40.op), (Value.int .i64 e40.vk), (Value.int .i64 e40.vi), (Value.string (bs e40.vt)), (Value.string (bs e40.tb)), (Value.string (bs e40.nm)), e40.av]) agg28 rfl (ev_hit hN rfl) (fun j u hu => by rw [Nat.zero_add]; exact hB46.cell hu) ?_)))))
  refine op_fn (vs := [av32, bv32, (Value.agg #[(Value.int .i64 e40.op), (Value.int .i64 e40.vk), (Value.int .i64 e40.vi), (Value.string (bs e40.vt)), (Value.string (bs e40.tb)), (Value.string (bs e40.nm)), e40.av])]) ok14 ⟨(ev_hit hN rfl), ⟨(ev_hit hN rfl), ⟨(ev_hit hN rfl), trivial⟩⟩⟩ ((Kind_all e40) (by first | assumption | omega | (simp only [List.length_append, List.length_cons, List.length_nil, List.length_drop, List.length_take]; omega) | (dsimp only; omega) | decide | (simp [keyV, be8_len]; done)) (by first | assumption | omega | (simp only [List.length_append, List.length_cons, List.length_nil, List.length_drop, List.length_take]; omega) | (dsimp only; omega) | decide | (simp [keyV, be8_len]; done)) (hc32.mono (Nat.zero_le _) (by omega)) (hk32.mono (Nat.zero_le _) (by omega)) (he40.rd.mono (by omega))) ?_
  rintro _ w53 ⟨E54, rfl⟩
  have E54 := grown_of_below E54
  have z_w53 := E54.size
  have hc32 := hc32.keep0 E54
  have hk32 := hk32.keep0 E54
  have hk40 := hk40.kz E54
  have he40 := he40.keep0 E54
  have hB46 := hB46.keep0 E54
  have hb := below_step0 hb E54 hb.size
  refine op_move (ev_hit hN rfl) (op_extract (ev_hit hN rfl) rfl ?_)
  refine op_extract (ev_hit hN rfl) rfl ?_
  refine op_assign (ev_hit hN rfl) (op_assign (ev_hit hN rfl) ?_)
  refine reg_nil (hK52 _ _ (seq_any fun K55 hK55 => one_reg (op_move (ev_hit hN rfl) (op_move (ev_hit hN rfl) (op_loadA (cs := [(Value.int .i64 e40.op), (Value.int .i64 e40.vk), (Value.int .i64 e40.vi), (Value.string (bs e40.vt)), (Value.string (bs e40.tb)), (Value.string (bs e40.nm)), e40.av]) agg28 rfl (ev_hit hN rfl) (fun j u hu => by rw [Nat.zero_add]; exact hB46.cell hu) ?_)))))
  refine op_bslice (e := 28) (pv := [(0, (Value.agg #[(Value.int .i64 e40.op), (Value.int .i64 e40.vk), (Value.int .i64 e40.vi), (Value.string (bs e40.vt)), (Value.string (bs e40.tb)), (Value.string (bs e40.nm)), e40.av]))]) (cs := [(Value.int .i64 e40.op), (Value.int .i64 e40.vk), (Value.int .i64 e40.vi), (Value.string (bs e40.vt)), (Value.string (bs e40.tb)), (Value.string (bs e40.nm)), e40.av]) ⟨rfl, (ev_hit hN rfl), trivial⟩ (by kernel_rfl) ?_
  intro w56 b57 lo_b57 hi_b57 hB59 E58
  have dj60 : ¬ (fun k => k = p37) b57 := fun hf => by have := (hk40.lt _ hf).2; omega
  have z_w56 := E58.size
  have hc32 := hc32.keep0 E58
  have hk32 := hk32.keep0 E58
  have hk40 := hk40.kz E58
  have he40 := he40.keep0 E58
  have hB46 := hB46.keep0 E58
  have hb := below_step0 hb E58 hb.size
  refine op_build (pv := [(0, (Value.int .i64 3)), (4, (Value.slice (some ⟨b57, 0, none⟩) 1 1))]) (v := (Value.agg #[(Value.int .i64 3), (Value.int .i64 0), (Value.int .i64 0), (Value.string (bs [])), (Value.string (bs [])), (Value.string (bs [])), (Value.slice (some ⟨b57, 0, none⟩) 1 1)])) ⟨rfl, rfl, ⟨rfl, (ev_hit hN rfl), trivial⟩⟩ (by kernel_rfl) ?_
  refine op_fn (vs := [av32, bv32, (Value.agg #[(Value.int .i64 3), (Value.int .i64 0), (Value.int .i64 0), (Value.string (bs [])), (Value.string (bs [])), (Value.string (bs [])), (Value.slice (some ⟨b57, 0, none⟩) 1 1)])]) ok14 ⟨(ev_hit hN rfl), ⟨(ev_hit hN rfl), ⟨(ev_hit hN rfl), trivial⟩⟩⟩ (Kind_all (XE.mk 3 0 0 [] [] [] (Value.slice (some ⟨b57, 0, none⟩) 1 1) [e40]) (by first | assumption | omega | (simp only [List.length_append, List.length_cons, List.length_nil, List.length_drop, List.length_take]; omega) | (dsimp only; omega) | decide | (simp [keyV, be8_len]; done)) (by first | assumption | omega | (simp only [List.length_append, List.length_cons, List.length_nil, List.length_drop, List.length_take]; omega) | (dsimp only; omega) | decide | (simp [keyV, be8_len]; done)) (hc32.mono (Nat.zero_le _) (by omega)) (hk32.mono (Nat.zero_le _) (by omega)) (XsRd.node (e := (XE.mk 3 0 0 [] [] [] (Value.slice (some ⟨b57, 0, none⟩) 1 1) [e40])) (XsRd.lit1 (e := e40) hB59 (by omega) (he40.rd.mono (by omega))))) ?_
  rintro _ w61 ⟨E62, rfl⟩
  have E62 := grown_of_below E62
  have z_w61 := E62.size
  have hc32 := hc32.keep0 E62
  have hk32 := hk32.keep0 E62
  have hk40 := hk40.kz E62
  have he40 := he40.keep0 E62
  have hB46 := hB46.keep0 E62
  have hb := below_step0 hb E62 hb.size
  refine op_move (ev_hit hN rfl) (op_extract (ev_hit hN rfl) rfl ?_)
  refine op_extract (ev_hit hN rfl) rfl ?_
  refine op_assign (ev_hit hN rfl) (op_assign (ev_hit hN rfl) ?_)
  refine reg_nil (hK55 _ _ (seq_any fun K63 hK63 => one_reg (op_move (ev_hit hN rfl) (op_move (ev_hit hN rfl) (op_loadA (cs := [(Value.int .i64 e40.op), (Value.int .i64 e40.vk), (Value.int .i64 e40.vi), (Value.string (bs e40.vt)), (Value.string (bs e40.tb)), (Value.string (bs e40.nm)), e40.av]) agg28 rfl (ev_hit hN rfl) (fun j u hu => by rw [Nat.zero_add]; exact hB46.cell hu) ?_)))))
  refine op_bslice (e := 28) (pv := [(0, (Value.agg #[(Value.int .i64 e40.op), (Value.int .i64 e40.vk), (Value.int .i64 e40.vi), (Value.string (bs e40.vt)), (Value.string (bs e40.tb)), (Value.string (bs e40.nm)), e40.av]))]) (cs := [(Value.int .i64 e40.op), (Value.int .i64 e40.vk), (Value.int .i64 e40.vi), (Value.string (bs e40.vt)), (Value.string (bs e40.tb)), (Value.string (bs e40.nm)), e40.av]) ⟨rfl, (ev_hit hN rfl), trivial⟩ (by kernel_rfl) ?_
  intro w64 b65 lo_b65 hi_b65 hB67 E66
  have dj68 : ¬ (fun k => k = p37) b65 := fun hf => by have := (hk40.lt _ hf).2; omega
  have z_w64 := E66.size
  have hc32 := hc32.keep0 E66
  have hk32 := hk32.keep0 E66
  have hk40 := hk40.kz E66
  have he40 := he40.keep0 E66
  have hB46 := hB46.keep0 E66
  have hb := below_step0 hb E66 hb.size
  refine op_build (pv := [(0, (Value.int .i64 4)), (4, (Value.slice (some ⟨b65, 0, none⟩) 1 1))]) (v := (Value.agg #[(Value.int .i64 4), (Value.int .i64 0), (Value.int .i64 0), (Value.string (bs [])), (Value.string (bs [])), (Value.string (bs [])), (Value.slice (some ⟨b65, 0, none⟩) 1 1)])) ⟨rfl, rfl, ⟨rfl, (ev_hit hN rfl), trivial⟩⟩ (by kernel_rfl) ?_
  refine op_fn (vs := [av32, bv32, (Value.agg #[(Value.int .i64 4), (Value.int .i64 0), (Value.int .i64 0), (Value.string (bs [])), (Value.string (bs [])), (Value.string (bs [])), (Value.slice (some ⟨b65, 0, none⟩) 1 1)])]) ok14 ⟨(ev_hit hN rfl), ⟨(ev_hit hN rfl), ⟨(ev_hit hN rfl), trivial⟩⟩⟩ (Kind_all (XE.mk 4 0 0 [] [] [] (Value.slice (some ⟨b65, 0, none⟩) 1 1) [e40]) (by first | assumption | omega | (simp only [List.length_append, List.length_cons, List.length_nil, List.length_drop, List.length_take]; omega) | (dsimp only; omega) | decide | (simp [keyV, be8_len]; done)) (by first | assumption | omega | (simp only [List.length_append, List.length_cons, List.length_nil, List.length_drop, List.length_take]; omega) | (dsimp only; omega) | decide | (simp [keyV, be8_len]; done)) (hc32.mono (Nat.zero_le _) (by omega)) (hk32.mono (Nat.zero_le _) (by omega)) (XsRd.node (e := (XE.mk 4 0 0 [] [] [] (Value.slice (some ⟨b65, 0, none⟩) 1 1) [e40])) (XsRd.lit1 (e := e40) hB67 (by omega) (he40.rd.mono (by omega))))) ?_
  rintro _ w69 ⟨E70, rfl⟩
  have E70 := grown_of_below E70
  have z_w69 := E70.size
  have hc32 := hc32.keep0 E70
  have hk32 := hk32.keep0 E70
  have hk40 := hk40.kz E70
  have he40 := he40.keep0 E70
  have hB46 := hB46.keep0 E70
  have hb := below_step0 hb E70 hb.size
  refine op_move (ev_hit hN rfl) (op_extract (ev_hit hN rfl) rfl ?_)
  refine op_extract (ev_hit hN rfl) rfl ?_
  refine op_assign (ev_hit hN rfl) (op_assign (ev_hit hN rfl) ?_)
  refine reg_nil (hK63 _ _ (seq_any fun K71 hK71 => one_reg (op_move (ev_hit hN rfl) (op_move (ev_hit hN rfl) (op_loadA (cs := [(Value.int .i64 e40.op), (Value.int .i64 e40.vk), (Value.int .i64 e40.vi), (Value.string (bs e40.vt)), (Value.string (bs e40.tb)), (Value.string (bs e40.nm)), e40.av]) agg28 rfl (ev_hit hN rfl) (fun j u hu => by rw [Nat.zero_add]; exact hB46.cell hu) ?_)))))
  refine op_loadA (cs := [(Value.int .i64 e40.op), (Value.int .i64 e40.vk), (Value.int .i64 e40.vi), (Value.string (bs e40.vt)), (Value.string (bs e40.tb)), (Value.string (bs e40.nm)), e40.av]) agg28 rfl (ev_hit hN rfl) (fun j u hu => by rw [Nat.zero_add]; exact hB46.cell hu) ?_
  refine op_bslice (e := 28) (pv := [(0, (Value.agg #[(Value.int .i64 e40.op), (Value.int .i64 e40.vk), (Value.int .i64 e40.vi), (Value.string (bs e40.vt)), (Value.string (bs e40.tb)), (Value.string (bs e40.nm)), e40.av])), (1, (Value.agg #[(Value.int .i64 e40.op), (Value.int .i64 e40.vk), (Value.int .i64 e40.vi), (Value.string (bs e40.vt)), (Value.string (bs e40.tb)), (Value.string (bs e40.nm)), e40.av]))]) (cs := [(Value.int .i64 e40.op), (Value.int .i64 e40.vk), (Value.int .i64 e40.vi), (Value.string (bs e40.vt)), (Value.string (bs e40.tb)), (Value.string (bs e40.nm)), e40.av, (Value.int .i64 e40.op), (Value.int .i64 e40.vk), (Value.int .i64 e40.vi), (Value.string (bs e40.vt)), (Value.string (bs e40.tb)), (Value.string (bs e40.nm)), e40.av]) ⟨rfl, (ev_hit hN rfl), ⟨rfl, (ev_hit hN rfl), trivial⟩⟩ (by kernel_rfl) ?_
  intro w72 b73 lo_b73 hi_b73 hB75 E74
  have dj76 : ¬ (fun k => k = p37) b73 := fun hf => by have := (hk40.lt _ hf).2; omega
  have z_w72 := E74.size
  have hc32 := hc32.keep0 E74
  have hk32 := hk32.keep0 E74
  have hk40 := hk40.kz E74
  have he40 := he40.keep0 E74
  have hb := below_step0 hb E74 hb.size
  refine op_build (pv := [(0, (Value.int .i64 10)), (4, (Value.slice (some ⟨b73, 0, none⟩) 2 2))]) (v := (Value.agg #[(Value.int .i64 10), (Value.int .i64 0), (Value.int .i64 0), (Value.string (bs [])), (Value.string (bs [])), (Value.string (bs [])), (Value.slice (some ⟨b73, 0, none⟩) 2 2)])) ⟨rfl, rfl, ⟨rfl, (ev_hit hN rfl), trivial⟩⟩ (by kernel_rfl) ?_
  refine op_fn (vs := [av32, bv32, (Value.agg #[(Value.int .i64 10), (Value.int .i64 0), (Value.int .i64 0), (Value.string (bs [])), (Value.string (bs [])), (Value.string (bs [])), (Value.slice (some ⟨b73, 0, none⟩) 2 2)])]) ok14 ⟨(ev_hit hN rfl), ⟨(ev_hit hN rfl), ⟨(ev_hit hN rfl), trivial⟩⟩⟩ (Kind_all (XE.mk 10 0 0 [] [] [] (Value.slice (some ⟨b73, 0, none⟩) 2 2) [e40, e40]) (by first | assumption | omega | (simp only [List.length_append, List.length_cons, List.length_nil, List.length_drop, List.length_take]; omega) | (dsimp only; omega) | decide | (simp [keyV, be8_len]; done)) (by first | assumption | omega | (simp only [List.length_append, List.length_cons, List.length_nil, List.length_drop, List.length_take]; omega) | (dsimp only; omega) | decide | (simp [keyV, be8_len]; done)) (hc32.mono (Nat.zero_le _) (by omega)) (hk32.mono (Nat.zero_le _) (by omega)) (XsRd.node (e := (XE.mk 10 0 0 [] [] [] (Value.slice (some ⟨b73, 0, none⟩) 2 2) [e40, e40])) (XsRd.lit2 (e := e40) (e2 := e40) hB75 (by omega) (he40.rd.mono (by omega)) (he40.rd.mono (by omega))))) ?_
  rintro _ w77 ⟨E78, rfl⟩
  have E78 := grown_of_below E78
  have z_w77 := E78.size
  have hc32 := hc32.keep0 E78
  have hk40 := hk40.kz E78
  have hb := below_step0 hb E78 hb.size
  refine op_move (ev_hit hN rfl) (op_extract (ev_hit hN rfl) rfl ?_)
  refine op_extract (ev_hit hN rfl) rfl ?_
  refine op_assign (ev_hit hN rfl) (op_assign (ev_hit hN rfl) (reg_nil (hK71 _ _ (seq_any fun K79 hK79 => one_reg ?_))))
  have e0 := hg40 hgd9
  have n1 : (kindX (colsOf ((D26.getD 0 default).t.nm) ((D26.getD 0 default).t.cols)) (kindsOf ((D26.getD 0 default).t.cols)) (XE.mk 3 0 0 [] [] [] (Value.slice (some ⟨b57, 0, none⟩) 1 1) [e40])).2 = _ := kind_neg9 rfl rfl e0
  have n2 : (kindX (colsOf ((D26.getD 0 default).t.nm) ((D26.getD 0 default).t.cols)) (kindsOf ((D26.getD 0 default).t.cols)) (XE.mk 4 0 0 [] [] [] (Value.slice (some ⟨b65, 0, none⟩) 1 1) [e40])).2 = _ := kind_not9 rfl rfl e0
  have n3 : (kindX (colsOf ((D26.getD 0 default).t.nm) ((D26.getD 0 default).t.cols)) (kindsOf ((D26.getD 0 default).t.cols)) (XE.mk 10 0 0 [] [] [] (Value.slice (some ⟨b73, 0, none⟩) 2 2) [e40, e40])).2 = _ := kind_lt9 rfl rfl e0
  refine op_move (ev_hit hN rfl) (op_eql (ev_hit hN rfl) rfl (fun c77 => ?_) (fun c77 => ?_))
  ·
   refine op_move (ev_hit hN rfl) (op_eql (ev_hit hN rfl) rfl (fun c79 => ?_) (fun c79 => ?_))
   ·
    exfalso; omega
   ·
    refine op_move (ev_hit hN rfl) (op_neq (ev_hit hN rfl) rfl (fun c81 => ?_) (fun c81 => ?_))
    ·
     refine op_fn (vs := [(Value.bool true), (Value.bool false), (Value.bool true)]) ok23 ⟨(ev_hit hN rfl), ⟨(ev_hit hN rfl), ⟨(ev_hit hN rfl), trivial⟩⟩⟩ (three_ret true false true _) ?_
     rintro _ w80 ⟨E81, rfl⟩
     have E81 := grown_of_below E81
     have z_w80 := E81.size
     have hc32 := hc32.keep0 E81
     have hk40 := hk40.kz E81
     have hb := below_step0 hb E81 hb.size
     refine op_alloc (cs := [(Value.bool false), (Value.bool false), (Value.bool false)]) zero57 rfl ?_
     intro w82 b83 lo_b83 hi_b83 hB85 E84
     have dj86 : ¬ (fun k => k = p37) b83 := fun hf => by have := (hk40.lt _ hf).2; omega
     have z_w82 := E84.size
     have hc32 := hc32.keep0 E84
     have hb := below_step0 hb E84 hb.size
     refine op_store (vs := [(Value.bool true), (Value.bool false), (Value.bool true)]) (cs' := [(Value.bool true), (Value.bool false), (Value.bool true)]) size57 (ev_hit hN rfl) (ev_hit hN rfl) rfl rfl rfl hB85 (Nat.le_of_ble_eq_true rfl) rfl ?_
     intro w89 hB85 E90
     have z_w89 := E90.size
     have hc32 := hc32.keep E90 (fun k hk => (by simp at hk; omega))
     have hb := below_step1 hb E90 hb.size (by omega)
     refine reg_nil (hK79 _ _ (seq_any fun K91 hK91 => ?_))
     refine one_reg (op_move (ev_hit hN rfl) (op_eql (ev_hit hN rfl) rfl (fun c84 => ?_) (fun c84 => ?_)))
     ·
      refine op_move (ev_hit hN rfl) (g_true (j := 2) (dj := 85) (b := true) rfl rfl rfl (ev_hit hN rfl) (op_move (ev_hit hN rfl) (g_true (j := 2) (dj := 85) (b := true) rfl rfl rfl (ev_hit hN rfl) (op_move (ev_hit hN rfl) (g_true (j := 2) (dj := 85) (b := true) rfl rfl rfl (ev_hit hN rfl) (op_eql (ev_hit hN rfl) (ev_hit hN rfl) (fun c88 => ?_) (fun c88 => ?_)))))))
      ·
       refine op_pick_t (ev_hit hN rfl) (ev_hit hN rfl) ?_
       refine op_move (ev_hit hN rfl) (g_true (j := 7) (dj := 90) (b := true) rfl rfl rfl (ev_hit hN rfl) (op_move (ev_hit hN rfl) (g_true (j := 7) (dj := 90) (b := true) rfl rfl rfl (ev_hit hN rfl) (op_eql (ev_hit hN rfl) rfl (fun c92 => ?_) (fun c92 => ?_)))))
       ·
        refine g_true (j := 7) (dj := 90) (b := true) rfl rfl rfl (ev_hit hN rfl) (op_index_arr (j := 0) arr57 (ev_hit hN rfl) rfl rfl (by decide) ?_)
        refine g_true (j := 7) (dj := 90) (b := true) rfl rfl rfl (ev_hit hN rfl) (op_load1 (v := (Value.bool true)) one4 (ev_hit hN rfl) (hB85.cell rfl) (g_true (j := 7) (dj := 90) (b := true) rfl rfl rfl (ev_hit hN rfl) (op_eqb Try.underlying4 (ev_hit hN rfl) (ev_hit hN rfl) ?_)))
        refine op_pick_t (ev_hit hN rfl) (ev_hit hN rfl) ?_
        refine op_move (ev_hit hN rfl) (g_true (j := 14) (dj := 97) (b := true) rfl rfl rfl (ev_hit hN rfl) (op_move (ev_hit hN rfl) (g_true (j := 14) (dj := 97) (b := true) rfl rfl rfl (ev_hit hN rfl) (op_eql (ev_hit hN rfl) rfl (fun c99 => ?_) (fun c99 => ?_)))))
        ·
         exfalso; split at n2 <;> omega
        ·
         refine g_true (j := 14) (dj := 97) (b := true) rfl rfl rfl (ev_hit hN rfl) (op_index_arr (j := 1) arr57 (ev_hit hN rfl) rfl rfl (by decide) ?_)
         refine g_true (j := 14) (dj := 97) (b := true) rfl rfl rfl (ev_hit hN rfl) (op_load1 (v := (Value.bool false)) one4 (ev_hit hN rfl) (hB85.cell rfl) (g_true (j := 14) (dj := 97) (b := true) rfl rfl rfl (ev_hit hN rfl) (op_eqb Try.underlying4 (ev_hit hN rfl) (ev_hit hN rfl) ?_)))
         refine op_pick_t (ev_hit hN rfl) (ev_hit hN rfl) ?_
         refine op_move (ev_hit hN rfl) (g_true (j := 21) (dj := 104) (b := true) rfl rfl rfl (ev_hit hN rfl) (op_move (ev_hit hN rfl) (g_true (j := 21) (dj := 104) (b := true) rfl rfl rfl (ev_hit hN rfl) (op_eql (ev_hit hN rfl) rfl (fun c106 => ?_) (fun c106 => ?_)))))
         ·
          refine g_true (j := 21) (dj := 104) (b := true) rfl rfl rfl (ev_hit hN rfl) (op_index_arr (j := 2) arr57 (ev_hit hN rfl) rfl rfl (by decide) ?_)
          refine g_true (j := 21) (dj := 104) (b := true) rfl rfl rfl (ev_hit hN rfl) (op_load1 (v := (Value.bool true)) one4 (ev_hit hN rfl) (hB85.cell rfl) (g_true (j := 21) (dj := 104) (b := true) rfl rfl rfl (ev_hit hN rfl) (op_eqb Try.underlying4 (ev_hit hN rfl) (ev_hit hN rfl) ?_)))
          refine op_pick_t (ev_hit hN rfl) (ev_hit hN rfl) ?_
          refine op_move (ev_hit hN rfl) (g_true (j := 28) (dj := 111) (b := true) rfl rfl rfl (ev_hit hN rfl) (op_move (ev_hit hN rfl) (g_true (j := 28) (dj := 111) (b := true) rfl rfl rfl (ev_hit hN rfl) (op_eql (ev_hit hN rfl) rfl (fun c113 => ?_) (fun c113 => ?_)))))
          ·
           refine g_true (j := 28) (dj := 111) (b := true) rfl rfl rfl (ev_hit hN rfl) (op_move (ev_hit hN rfl) (g_false (j := 31) (dj := 114) (b := false) rfl rfl rfl (ev_hit hN rfl) rfl rfl (g_false (j := 31) (dj := 114) (b := false) rfl rfl rfl (ev_hit hN rfl) rfl rfl (g_true (j := 28) (dj := 111) (b := true) rfl rfl rfl (ev_hit hN rfl) (op_pick_t (ev_hit hN rfl) rfl ?_)))))
           refine op_pick_t (ev_hit hN rfl) (ev_hit hN rfl) ?_
           refine op_assign (ev_hit hN rfl) (reg_nil (hK91 _ _ (wp_ret ?_)))
           refine ret1 rfl hd (ev_hit hN rfl) ⟨_, rfl, ?_⟩
           exact ⟨hb, rfl⟩
          ·
           exfalso; omega
         ·
          exfalso; split at n3 <;> omega
       ·
        exfalso; split at n1 <;> omega
      ·
       exact absurd (congrArg Prod.fst e0) c88
     ·
      exact absurd (congrArg Prod.snd e0) c84
    ·
     exfalso; omega
  ·
   refine op_move (ev_hit hN rfl) (op_eql (ev_hit hN rfl) rfl (fun c79 => ?_) (fun c79 => ?_))
   ·
    refine op_move (ev_hit hN rfl) (op_neq (ev_hit hN rfl) rfl (fun c81 => ?_) (fun c81 => ?_))
    ·
     exfalso; omega
    ·
     refine op_fn (vs := [(Value.bool false), (Value.bool true), (Value.bool false)]) ok23 ⟨(ev_hit hN rfl), ⟨(ev_hit hN rfl), ⟨(ev_hit hN rfl), trivial⟩⟩⟩ (three_ret false true false _) ?_
     rintro _ w92 ⟨E93, rfl⟩
     have E93 := grown_of_below E93
     have z_w92 := E93.size
     have hc32 := hc32.keep0 E93
     have hk40 := hk40.kz E93
     have hb := below_step0 hb E93 hb.size
     refine op_alloc (cs := [(Value.bool false), (Value.bool false), (Value.bool false)]) zero57 rfl ?_
     intro w94 b95 lo_b95 hi_b95 hB97 E96
     have dj98 : ¬ (fun k => k = p37) b95 := fun hf => by have := (hk40.lt _ hf).2; omega
     have z_w94 := E96.size
     have hc32 := hc32.keep0 E96
     have hb := below_step0 hb E96 hb.size
     refine op_store (vs := [(Value.bool false), (Value.bool true), (Value.bool false)]) (cs' := [(Value.bool false), (Value.bool true), (Value.bool false)]) size57 (ev_hit hN rfl) (ev_hit hN rfl) rfl rfl rfl hB97 (Nat.le_of_ble_eq_true rfl) rfl ?_
     intro w101 hB97 E102
     have z_w101 := E102.size
     have hc32 := hc32.keep E102 (fun k hk => (by simp at hk; omega))
     have hb := below_step1 hb E102 hb.size (by omega)
     refine reg_nil (hK79 _ _ (seq_any fun K103 hK103 => ?_))
     refine one_reg (op_move (ev_hit hN rfl) (op_eql (ev_hit hN rfl) rfl (fun c84 => ?_) (fun c84 => ?_)))
     ·
      refine op_move (ev_hit hN rfl) (g_true (j := 2) (dj := 85) (b := true) rfl rfl rfl (ev_hit hN rfl) (op_move (ev_hit hN rfl) (g_true (j := 2) (dj := 85) (b := true) rfl rfl rfl (ev_hit hN rfl) (op_move (ev_hit hN rfl) (g_true (j := 2) (dj := 85) (b := true) rfl rfl rfl (ev_hit hN rfl) (op_eql (ev_hit hN rfl) (ev_hit hN rfl) (fun c88 => ?_) (fun c88 => ?_)))))))
      ·
       refine op_pick_t (ev_hit hN rfl) (ev_hit hN rfl) ?_
       refine op_move (ev_hit hN rfl) (g_true (j := 7) (dj := 90) (b := true) rfl rfl rfl (ev_hit hN rfl) (op_move (ev_hit hN rfl) (g_true (j := 7) (dj := 90) (b := true) rfl rfl rfl (ev_hit hN rfl) (op_eql (ev_hit hN rfl) rfl (fun c92 => ?_) (fun c92 => ?_)))))
       ·
        exfalso; split at n1 <;> omega
       ·
        refine g_true (j := 7) (dj := 90) (b := true) rfl rfl rfl (ev_hit hN rfl) (op_index_arr (j := 0) arr57 (ev_hit hN rfl) rfl rfl (by decide) ?_)
        refine g_true (j := 7) (dj := 90) (b := true) rfl rfl rfl (ev_hit hN rfl) (op_load1 (v := (Value.bool false)) one4 (ev_hit hN rfl) (hB97.cell rfl) (g_true (j := 7) (dj := 90) (b := true) rfl rfl rfl (ev_hit hN rfl) (op_eqb Try.underlying4 (ev_hit hN rfl) (ev_hit hN rfl) ?_)))
        refine op_pick_t (ev_hit hN rfl) (ev_hit hN rfl) ?_
        refine op_move (ev_hit hN rfl) (g_true (j := 14) (dj := 97) (b := true) rfl rfl rfl (ev_hit hN rfl) (op_move (ev_hit hN rfl) (g_true (j := 14) (dj := 97) (b := true) rfl rfl rfl (ev_hit hN rfl) (op_eql (ev_hit hN rfl) rfl (fun c99 => ?_) (fun c99 => ?_)))))
        ·
         refine g_true (j := 14) (dj := 97) (b := true) rfl rfl rfl (ev_hit hN rfl) (op_index_arr (j := 1) arr57 (ev_hit hN rfl) rfl rfl (by decide) ?_)
         refine g_true (j := 14) (dj := 97) (b := true) rfl rfl rfl (ev_hit hN rfl) (op_load1 (v := (Value.bool true)) one4 (ev_hit hN rfl) (hB97.cell rfl) (g_true (j := 14) (dj := 97) (b := true) rfl rfl rfl (ev_hit hN rfl) (op_eqb Try.underlying4 (ev_hit hN rfl) (ev_hit hN rfl) ?_)))
         refine op_pick_t (ev_hit hN rfl) (ev_hit hN rfl) ?_
         refine op_move (ev_hit hN rfl) (g_true (j := 21) (dj := 104) (b := true) rfl rfl rfl (ev_hit hN rfl) (op_move (ev_hit hN rfl) (g_true (j := 21) (dj := 104) (b := true) rfl rfl rfl (ev_hit hN rfl) (op_eql (ev_hit hN rfl) rfl (fun c106 => ?_) (fun c106 => ?_)))))
         ·
          exfalso; split at n3 <;> omega
         ·
          refine g_true (j := 21) (dj := 104) (b := true) rfl rfl rfl (ev_hit hN rfl) (op_index_arr (j := 2) arr57 (ev_hit hN rfl) rfl rfl (by decide) ?_)
          refine g_true (j := 21) (dj := 104) (b := true) rfl rfl rfl (ev_hit hN rfl) (op_load1 (v := (Value.bool false)) one4 (ev_hit hN rfl) (hB97.cell rfl) (g_true (j := 21) (dj := 104) (b := true) rfl rfl rfl (ev_hit hN rfl) (op_eqb Try.underlying4 (ev_hit hN rfl) (ev_hit hN rfl) ?_)))
          refine op_pick_t (ev_hit hN rfl) (ev_hit hN rfl) ?_
          refine op_move (ev_hit hN rfl) (g_true (j := 28) (dj := 111) (b := true) rfl rfl rfl (ev_hit hN rfl) (op_move (ev_hit hN rfl) (g_true (j := 28) (dj := 111) (b := true) rfl rfl rfl (ev_hit hN rfl) (op_eql (ev_hit hN rfl) rfl (fun c113 => ?_) (fun c113 => ?_)))))
          ·
           exfalso; omega
          ·
           refine g_true (j := 28) (dj := 111) (b := true) rfl rfl rfl (ev_hit hN rfl) (op_move (ev_hit hN rfl) (g_true (j := 31) (dj := 114) (b := false) rfl rfl rfl (ev_hit hN rfl) (op_move (ev_hit hN rfl) (g_true (j := 31) (dj := 114) (b := false) rfl rfl rfl (ev_hit hN rfl) (op_eql (ev_hit hN rfl) rfl (fun c116 => ?_) (fun c116 => ?_))))))
           ·
            refine g_true (j := 28) (dj := 111) (b := true) rfl rfl rfl (ev_hit hN rfl) (op_pick_f (ev_hit hN rfl) (ev_hit hN rfl) ?_)
            refine op_pick_t (ev_hit hN rfl) (ev_hit hN rfl) ?_
            refine op_assign (ev_hit hN rfl) (reg_nil (hK103 _ _ (wp_ret ?_)))
            refine ret1 rfl hd (ev_hit hN rfl) ⟨_, rfl, ?_⟩
            exact ⟨hb, rfl⟩
           ·
            exfalso; split at n1 <;> omega
        ·
         exfalso; split at n2 <;> omega
      ·
       exact absurd (congrArg Prod.fst e0) c88
     ·
      exact absurd (congrArg Prod.snd e0) c84
   ·
    refine op_move (ev_hit hN rfl) (op_neq (ev_hit hN rfl) rfl (fun c81 => ?_) (fun c81 => ?_))
    ·
     refine op_fn (vs := [(Value.bool false), (Value.bool false), (Value.bool true)]) ok23 ⟨(ev_hit hN rfl), ⟨(ev_hit hN rfl), ⟨(ev_hit hN rfl), trivial⟩⟩⟩ (three_ret false false true _) ?_
     rintro _ w104 ⟨E105, rfl⟩
     have E105 := grown_of_below E105
     have z_w104 := E105.size
     have hc32 := hc32.keep0 E105
     have hk40 := hk40.kz E105
     have hb := below_step0 hb E105 hb.size
     refine op_alloc (cs := [(Value.bool false), (Value.bool false), (Value.bool false)]) zero57 rfl ?_
     intro w106 b107 lo_b107 hi_b107 hB109 E108
     have dj110 : ¬ (fun k => k = p37) b107 := fun hf => by have := (hk40.lt _ hf).2; omega
     have z_w106 := E108.size
     have hc32 := hc32.keep0 E108
     have hb := below_step0 hb E108 hb.size
     refine op_store (vs := [(Value.bool false), (Value.bool false), (Value.bool true)]) (cs' := [(Value.bool false), (Value.bool false), (Value.bool true)]) size57 (ev_hit hN rfl) (ev_hit hN rfl) rfl rfl rfl hB109 (Nat.le_of_ble_eq_true rfl) rfl ?_
     intro w113 hB109 E114
     have z_w113 := E114.size
     have hc32 := hc32.keep E114 (fun k hk => (by simp at hk; omega))
     have hb := below_step1 hb E114 hb.size (by omega)
     refine reg_nil (hK79 _ _ (seq_any fun K115 hK115 => ?_))
     refine one_reg (op_move (ev_hit hN rfl) (op_eql (ev_hit hN rfl) rfl (fun c84 => ?_) (fun c84 => ?_)))
     ·
      refine op_move (ev_hit hN rfl) (g_true (j := 2) (dj := 85) (b := true) rfl rfl rfl (ev_hit hN rfl) (op_move (ev_hit hN rfl) (g_true (j := 2) (dj := 85) (b := true) rfl rfl rfl (ev_hit hN rfl) (op_move (ev_hit hN rfl) (g_true (j := 2) (dj := 85) (b := true) rfl rfl rfl (ev_hit hN rfl) (op_eql (ev_hit hN rfl) (ev_hit hN rfl) (fun c88 => ?_) (fun c88 => ?_)))))))
      ·
       refine op_pick_t (ev_hit hN rfl) (ev_hit hN rfl) ?_
       refine op_move (ev_hit hN rfl) (g_true (j := 7) (dj := 90) (b := true) rfl rfl rfl (ev_hit hN rfl) (op_move (ev_hit hN rfl) (g_true (j := 7) (dj := 90) (b := true) rfl rfl rfl (ev_hit hN rfl) (op_eql (ev_hit hN rfl) rfl (fun c92 => ?_) (fun c92 => ?_)))))
       ·
        exfalso; split at n1 <;> omega
       ·
        refine g_true (j := 7) (dj := 90) (b := true) rfl rfl rfl (ev_hit hN rfl) (op_index_arr (j := 0) arr57 (ev_hit hN rfl) rfl rfl (by decide) ?_)
        refine g_true (j := 7) (dj := 90) (b := true) rfl rfl rfl (ev_hit hN rfl) (op_load1 (v := (Value.bool false)) one4 (ev_hit hN rfl) (hB109.cell rfl) (g_true (j := 7) (dj := 90) (b := true) rfl rfl rfl (ev_hit hN rfl) (op_eqb Try.underlying4 (ev_hit hN rfl) (ev_hit hN rfl) ?_)))
        refine op_pick_t (ev_hit hN rfl) (ev_hit hN rfl) ?_
        refine op_move (ev_hit hN rfl) (g_true (j := 14) (dj := 97) (b := true) rfl rfl rfl (ev_hit hN rfl) (op_move (ev_hit hN rfl) (g_true (j := 14) (dj := 97) (b := true) rfl rfl rfl (ev_hit hN rfl) (op_eql (ev_hit hN rfl) rfl (fun c99 => ?_) (fun c99 => ?_)))))
        ·
         exfalso; split at n2 <;> omega
        ·
         refine g_true (j := 14) (dj := 97) (b := true) rfl rfl rfl (ev_hit hN rfl) (op_index_arr (j := 1) arr57 (ev_hit hN rfl) rfl rfl (by decide) ?_)
         refine g_true (j := 14) (dj := 97) (b := true) rfl rfl rfl (ev_hit hN rfl) (op_load1 (v := (Value.bool false)) one4 (ev_hit hN rfl) (hB109.cell rfl) (g_true (j := 14) (dj := 97) (b := true) rfl rfl rfl (ev_hit hN rfl) (op_eqb Try.underlying4 (ev_hit hN rfl) (ev_hit hN rfl) ?_)))
         refine op_pick_t (ev_hit hN rfl) (ev_hit hN rfl) ?_
         refine op_move (ev_hit hN rfl) (g_true (j := 21) (dj := 104) (b := true) rfl rfl rfl (ev_hit hN rfl) (op_move (ev_hit hN rfl) (g_true (j := 21) (dj := 104) (b := true) rfl rfl rfl (ev_hit hN rfl) (op_eql (ev_hit hN rfl) rfl (fun c106 => ?_) (fun c106 => ?_)))))
         ·
          refine g_true (j := 21) (dj := 104) (b := true) rfl rfl rfl (ev_hit hN rfl) (op_index_arr (j := 2) arr57 (ev_hit hN rfl) rfl rfl (by decide) ?_)
          refine g_true (j := 21) (dj := 104) (b := true) rfl rfl rfl (ev_hit hN rfl) (op_load1 (v := (Value.bool true)) one4 (ev_hit hN rfl) (hB109.cell rfl) (g_true (j := 21) (dj := 104) (b := true) rfl rfl rfl (ev_hit hN rfl) (op_eqb Try.underlying4 (ev_hit hN rfl) (ev_hit hN rfl) ?_)))
          refine op_pick_t (ev_hit hN rfl) (ev_hit hN rfl) ?_
          refine op_move (ev_hit hN rfl) (g_true (j := 28) (dj := 111) (b := true) rfl rfl rfl (ev_hit hN rfl) (op_move (ev_hit hN rfl) (g_true (j := 28) (dj := 111) (b := true) rfl rfl rfl (ev_hit hN rfl) (op_eql (ev_hit hN rfl) rfl (fun c113 => ?_) (fun c113 => ?_)))))
          ·
           exfalso; omega
          ·
           refine g_true (j := 28) (dj := 111) (b := true) rfl rfl rfl (ev_hit hN rfl) (op_move (ev_hit hN rfl) (g_true (j := 31) (dj := 114) (b := false) rfl rfl rfl (ev_hit hN rfl) (op_move (ev_hit hN rfl) (g_true (j := 31) (dj := 114) (b := false) rfl rfl rfl (ev_hit hN rfl) (op_eql (ev_hit hN rfl) rfl (fun c116 => ?_) (fun c116 => ?_))))))
           ·
            refine g_true (j := 28) (dj := 111) (b := true) rfl rfl rfl (ev_hit hN rfl) (op_pick_f (ev_hit hN rfl) (ev_hit hN rfl) ?_)
            refine op_pick_t (ev_hit hN rfl) (ev_hit hN rfl) ?_
            refine op_assign (ev_hit hN rfl) (reg_nil (hK115 _ _ (wp_ret ?_)))
            refine ret1 rfl hd (ev_hit hN rfl) ⟨_, rfl, ?_⟩
            exact ⟨hb, rfl⟩
           ·
            exfalso; split at n1 <;> omega
         ·
          exfalso; split at n3 <;> omega
      ·
       exact absurd (congrArg Prod.fst e0) c88
     ·
      exact absurd (congrArg Prod.snd e0) c84
    ·
     exfalso; omega

end Go.Proofs.Ythflnkfghogaoaa

namespace Go.Gx
open Go.RowKit Go.WideShapes
section
variable {H : Type} {enc : TypeId × Value → H} {P : Program} {w : World} {base : Nat} {spare : Nat → Bool} {held : Bool} {t e : TypeId}
end
end Go.Gx

namespace Go.Proofs.Ythflnkfghogaoaa
open Go.Gx Go.RowKit
theorem cells5 : Try.prog.cellsOf 5 = 1 := by kernel_rfl
theorem flat_u8v (l : List UInt8) : l.flatMap (fun c => [u8v c]) = l.map u8v := by induction l with | nil => rfl | cons c l ih => simp [ih]
theorem dec35 {H : Type} {enc : TypeId × Value → H} {w : World} {base : Nat} {spare : Nat → Bool} {held : Bool} : Dec enc Try.prog w base spare held 35 (fun p : Value × List UInt8 => [p.1]) (fun p => RdC w 0 w.heap.size 1 p.1 p.2.length (p.2.map u8v)) :=
  (Dec.slice Try.underlying35 (by rw [cells5]; decide) (Dec.u8 Try.underlying5) (fun _ _ => by rw [cells5]; rfl)).map fun p hp => ⟨p, rfl, by have hq := hp.1; rwa [cells5, flat_u8v] at hq⟩
end Go.Proofs.Ythflnkfghogaoaa
