/- Walks, written by a program: what each function of the translation hands back. -/
import Derived.Test.YtmhdbphpmgjpcaaProg
import Derived.KernelRfl
import Derived.Test.YtmhdbphpmgjpcaaB3
namespace Go.Proofs.Ytmhdbphpmgjpcaa
open Go.Gx Go.RowKit
attribute [local irreducible] wpList wpStill Code.wp Calls

theorem LenZ_i (z : Nat) (w : World) (hz : Bx w z 37 [.chan none, .slice none 0 0]) : Ret Try.prog 27 #[(ptr z 0)] w (fun v' w' => Below w.heap.size w w' ∧ v' = .int .i64 0) := by
 have hb := Below.refl w.heap.size w
 refine enter (N := 16) Try.func27 rfl rfl (by simp) fun a0 hN hd hA => ?_
 have s0 : a0.tmps.getD 0 undef = (ptr z 0) := hA 0 (by simp)
 clear hA
 refine seq_any fun K1 hK1 => ?_
 refine one_reg ?_
 refine op_assign rfl ?_
 refine reg_nil ?_
 refine hK1 _ _ ?_
 refine seq_any fun K2 hK2 => ?_
 refine seq_any fun K3 hK3 => ?_
 refine one_reg ?_
 refine op_move (ev_base hN rfl s0) ?_
 refine op_peq_some ptrt33 (ev_hit hN rfl) rfl ?_
 refine reg_nil ?_
 refine hK3 _ _ ?_
 refine wp_cond_false (ev_hit hN rfl) ?_
 refine wp_skip ?_
 refine hK2 _ _ ?_
 refine seq_any fun K4 hK4 => ?_
 refine reg_still mixed (by kernel_rfl) ?_
 intro w6 E5
 have z_w6 := E5.size
 have hz := hz.keep0 E5
 have hb := below_step0 hb E5 hb.size
 refine st_step rfl (fun _ h9 => op_move (ev_base hN rfl s0) h9) ?_
 refine st_step rfl (fun _ h9 => op_nil (ev_hit hN rfl) h9) ?_
 refine st_step rfl (fun _ h9 => op_field fld37_1 (ev_hit hN rfl) h9) ?_
 refine st_step rfl (fun _ h9 => op_load1 (v := (Value.slice none 0 0)) one35 (ev_hit hN rfl) (hz.cell rfl) h9) ?_
 refine st_step rfl (fun _ h9 => op_len_rd Try.underlying35 (ev_hit hN rfl) (RdC.nil _ 0 0 1) h9) ?_
 refine st_step rfl (fun _ h9 => op_move (ev_base hN rfl s0) h9) ?_
 refine st_step rfl (fun _ h9 => op_nil (ev_hit hN rfl) h9) ?_
 refine st_step rfl (fun _ h9 => op_field fld37_0 (ev_hit hN rfl) h9) ?_
 refine st_step rfl (fun _ h9 => op_load1 (v := (Value.chan none)) one34 (ev_hit hN rfl) (hz.cell rfl) h9) ?_
 refine st_step rfl (fun _ h9 => op_len_nilchan Try.underlying34 (ev_hit hN rfl) h9) ?_
 refine st_step rfl (fun _ h9 => op_add (r := 0) (ev_hit hN rfl) (ev_hit hN rfl) (by decide) h9) ?_
 refine st_step rfl (fun _ h9 => op_assign (ev_hit hN rfl) h9) ?_
 refine st_nil ?_
 refine hK4 _ _ ?_
 refine wp_ret ?_
 refine ret1 rfl hd (ev_hit hN rfl) ⟨_, rfl, ?_⟩
 -- path
 exact ⟨hb, rfl⟩

theorem PutZ_i (x : Int) (z : Nat) (w : World) (hz : Bx w z 37 [.chan none, .slice none 0 0]) : Ret Try.prog 26 #[(ptr z 0), (Value.int .i64 x)] w (fun v' w' => Below w.heap.size w w' ∧ v' = .bool false) := by
 have hb := Below.refl w.heap.size w
 refine enter (N := 25) Try.func26 rfl rfl (by simp) fun a0 hN hd hA => ?_
 have s0 : a0.tmps.getD 0 undef = (ptr z 0) := hA 0 (by simp)
 have s1 : a0.tmps.getD 1 undef = (Value.int .i64 x) := hA 1 (by simp)
 clear hA
 refine seq_any fun K7 hK7 => ?_
 refine one_reg ?_
 refine op_assign rfl ?_
 refine reg_nil ?_
 refine hK7 _ _ ?_
 refine seq_any fun K8 hK8 => ?_
 refine seq_any fun K9 hK9 => ?_
 refine reg_split (hd := [_, _, _, _, _, _, _, _, _]) (tl := _) 9 mixed (by kernel_rfl) rfl rfl ?_
 refine any_quiet (Φ := phiL [(fun uz _ => uz = (ptr z 0)), (fun uz _ => uz = (Value.bool false)), (fun uz _ => uz = (Value.bool false)), (fun uz _ => uz = (ptr z 0)), (fun uz _ => uz = (Value.int .i64 0)), (fun uz _ => uz = (ptr z 0)), (fun uz _ => uz = (ptr z 0)), (fun uz _ => uz = (ptr z 0)), (fun uz _ => uz = (Value.chan none))]) (by kernel_rfl) (by kernel_rfl) (by kernel_rfl) hN (StL.get (StL.eq (StL.eq (StL.eq (StL.eq (StL.eq (StL.eq (StL.eq (StL.eq (StL.eq (StL.nil _))))))))))) (ObL.get (s := 9) (ObL.cons ?_ (ObL.cons ?_ (ObL.cons ?_ (ObL.cons ?_ (ObL.cons ?_ (ObL.cons ?_ (ObL.cons ?_ (ObL.cons ?_ (ObL.cons ?_ (ObL.nil)))))))))) rfl) ?_
 ·
  intro aA wA hNA hRA hbsA hdpA
  have qA_0 := (hbsA 0 rfl).trans (sl_base hN rfl s0)
  refine op_move (ev_base hNA rfl qA_0) ?_
  exact obN_end rfl rfl (grown_refl _ _)
 ·
  intro aA wA hNA hRA hbsA hdpA
  have qA_5 : Sl aA 5 (ptr z 0) := hdpA 0 _ 5 (by kernel_rfl) rfl rfl
  refine op_peq_some ptrt33 (ev_base hNA rfl qA_5) rfl ?_
  exact obN_end rfl rfl (grown_refl _ _)
 ·
  intro aA wA hNA hRA hbsA hdpA
  have qA_6 : Sl aA 6 (Value.bool false) := hdpA 1 _ 6 (by kernel_rfl) rfl rfl
  refine op_move (ev_base hNA rfl qA_6) ?_
  exact obN_end rfl rfl (grown_refl _ _)
 ·
  intro aA wA hNA hRA hbsA hdpA
  have qA_0 := (hbsA 0 rfl).trans (sl_base hN rfl s0)
  have qA_7 : Sl aA 7 (Value.bool false) := hdpA 2 _ 7 (by kernel_rfl) rfl rfl
  refine g_true (j := 2) (dj := 7) (b := false) rfl rfl rfl (ev_base hNA rfl qA_7) ?_
  refine op_move (ev_base hNA rfl qA_0) ?_
  exact obN_end rfl rfl (grown_refl _ _)
 ·
  intro aA wA hNA hRA hbsA hdpA
  have hRA : w.grownBy wA none := hRA
  have z_wA := hRA.size
  have hz := hz.keep0 hRA
  have hb := below_step0 hb hRA hb.size
  have qA_8 : Sl aA 8 (ptr z 0) := hdpA 3 _ 8 (by kernel_rfl) rfl rfl
  have qA_7 : Sl aA 7 (Value.bool false) := hdpA 2 _ 7 (by kernel_rfl) rfl rfl
  clear hbsA hdpA
  refine g_true (j := 2) (dj := 7) (b := false) rfl rfl rfl (ev_base hNA rfl qA_7) ?_
  refine op_fn (vs := [(ptr z 0)]) ok27 ⟨(ev_base hNA rfl qA_8), trivial⟩ (LenZ_i _ _ hz) ?_
  rintro _ w10 ⟨E11, rfl⟩
  have E11 := grown_of_below E11
  have z_w10 := E11.size
  have hz := hz.keep0 E11
  have hb := below_step0 hb E11 hb.size
  exact obN_end rfl rfl (E11)
 ·
  intro aA wA hNA hRA hbsA hdpA
  have qA_0 := (hbsA 0 rfl).trans (sl_base hN rfl s0)
  have qA_7 : Sl aA 7 (Value.bool false) := hdpA 2 _ 7 (by kernel_rfl) rfl rfl
  refine g_true (j := 2) (dj := 7) (b := false) rfl rfl rfl (ev_base hNA rfl qA_7) ?_
  refine op_move (ev_base hNA rfl qA_0) ?_
  exact obN_end rfl rfl (grown_refl _ _)
 ·
  intro aA wA hNA hRA hbsA hdpA
  have qA_10 : Sl aA 10 (ptr z 0) := hdpA 5 _ 10 (by kernel_rfl) rfl rfl
  have qA_7 : Sl aA 7 (Value.bool false) := hdpA 2 _ 7 (by kernel_rfl) rfl rfl
  refine g_true (j := 2) (dj := 7) (b := false) rfl rfl rfl (ev_base hNA rfl qA_7) ?_
  refine op_nil (ev_base hNA rfl qA_10) ?_
  exact obN_end rfl rfl (grown_refl _ _)
 ·
  intro aA wA hNA hRA hbsA hdpA
  have qA_11 : Sl aA 11 (ptr z 0) := hdpA 6 _ 11 (by kernel_rfl) rfl rfl
  have qA_7 : Sl aA 7 (Value.bool false) := hdpA 2 _ 7 (by kernel_rfl) rfl rfl
  refine g_true (j := 2) (dj := 7) (b := false) rfl rfl rfl (ev_base hNA rfl qA_7) ?_
  refine op_field fld37_0 (ev_base hNA rfl qA_11) ?_
  exact obN_end rfl rfl (grown_refl _ _)
 ·
  intro aA wA hNA hRA hbsA hdpA
  have hRA : w.grownBy wA none := hRA
  have z_wA := hRA.size
  have hz := hz.keep0 hRA
  have hb := below_step0 hb hRA hb.size
  have qA_12 : Sl aA 12 (ptr z 0) := hdpA 7 _ 12 (by kernel_rfl) rfl rfl
  have qA_7 : Sl aA 7 (Value.bool false) := hdpA 2 _ 7 (by kernel_rfl) rfl rfl
  clear hbsA hdpA
  refine g_true (j := 2) (dj := 7) (b := false) rfl rfl rfl (ev_base hNA rfl qA_7) ?_
  refine op_load1 (v := (Value.chan none)) one34 (ev_base hNA rfl qA_12) (hz.cell rfl) ?_
  exact obN_end rfl rfl (grown_refl _ _)
 ·
  intro a12 w12 hN12 hd12 hbs12 hph12 E12
  have hd12 := hd12.trans hd
  have s12_0 := (hbs12 0 rfl).trans (sl_base hN rfl s0)
  have s12_1 := (hbs12 1 rfl).trans (sl_base hN rfl s1)
  have s12_4 := (hbs12 4 rfl).trans (sl_hit hN rfl)
  have s12_7 : Sl a12 7 (Value.bool false) := hph12 2 _ 7 rfl rfl
  have s12_9 : Sl a12 9 (Value.int .i64 0) := hph12 4 _ 9 rfl rfl
  have s12_13 : Sl a12 13 (Value.chan none) := hph12 8 _ 13 rfl rfl
  clear hbs12 hph12
  have E12 : w.grownBy w12 none := E12
  have z_w12 := E12.size
  have hz := hz.keep0 E12
  have hb := below_step0 hb E12 hb.size
  refine split_end ?_
  refine from_seq (tl := [_, _, _]) (by decide) (by kernel_rfl) rfl ?_
  refine g_true (j := 2) (dj := 7) (b := false) rfl rfl rfl (ev_base hN12 rfl s12_7) ?_
  refine op_cap_nilchan Try.underlying34 (ev_base hN12 rfl s12_13) ?_
  refine g_true (j := 2) (dj := 7) (b := false) rfl rfl rfl (ev_base hN12 rfl s12_7) ?_
  refine op_bin (v := .bool true) (ev_base hN12 rfl s12_9) (ev_hit hN12 rfl) (by rw [binOp_geq]; rfl) ?_
  refine op_pick_f (ev_base hN12 rfl s12_7) (ev_hit hN12 rfl) ?_
  refine reg_nil ?_
  refine hK9 _ _ ?_
  refine wp_cond_true (ev_hit hN12 rfl) ?_
  refine seq_any fun K13 hK13 => ?_
  refine one_reg ?_
  refine op_assign rfl ?_
  refine reg_nil ?_
  refine hK13 _ _ ?_
  refine wp_ret (then_ret ( ?_))
  refine ret1 rfl hd12 (ev_hit hN12 rfl) ⟨_, rfl, ?_⟩
  -- path
  exact ⟨hb, rfl⟩

theorem begun20_ret (w : World) : Ret Try.prog 16 #[] w (fun v' w' => Below w.heap.size w w' ∧ v' = .bool true) := by
 have hb := Below.refl w.heap.size w
 refine enter (N := 53) Try.func16 rfl rfl (by simp) fun a0 hN hd hA => ?_
 clear hA
 refine seq_any fun K14 hK14 => ?_
 refine one_reg ?_
 refine op_assign rfl ?_
 refine reg_nil ?_
 refine hK14 _ _ ?_
 refine seq_any fun K15 hK15 => ?_
 refine one_reg ?_
 refine op_fn (vs := [(Value.int .i64 2)]) ok71 ⟨rfl, trivial⟩ (NewR_i 2 _ (by omega)) ?_
 rintro _ w17 ⟨E18, p16, F16, rfl, hp16⟩
 have lo_F16 : ∀ k, F16 k → w.heap.size ≤ k := fun k hk => (hp16.lt k hk).1
 have E18 := grown_of_below E18
 have z_w17 := E18.size
 have hb := below_step0 hb E18 hb.size
 have hp16 : (PostR (Value.int .i64) 37 3) w17 w.heap.size p16 2 ([] : List Int) F16 := hp16.mono (by omega)
 refine op_assign (ev_hit hN rfl) ?_
 refine reg_nil ?_
 refine hK15 _ _ ?_
 refine seq_any fun K19 hK19 => ?_
 refine one_reg ?_
 refine op_move (ev_hit hN rfl) ?_
 refine op_fn (vs := [(ptr p16 0), (Value.int .i64 1)]) ok26 ⟨(ev_hit hN rfl), ⟨rfl, trivial⟩⟩ (PutR_i 1 (by omega) hp16) ?_
 rintro _ w21 ⟨E22, rfl, hp20⟩
 have hp16_old := hp16
 have z_w21 := E22.size
 have hb := below_stepG hb E22 hb.size (fun k hk => (hp16_old.lt k hk).1)
 have hp20 : (PostR (Value.int .i64) 37 3) w21 w.heap.size p16 2 ([1] : List Int) F16 := hp20
 refine op_move (ev_hit hN rfl) ?_
 refine op_fn (vs := [(ptr p16 0), (Value.int .i64 2)]) ok26 ⟨(ev_hit hN rfl), ⟨rfl, trivial⟩⟩ (PutR_i 2 (by omega) hp20) ?_
 rintro _ w24 ⟨E25, rfl, hp23⟩
 have hp20_old := hp20
 have z_w24 := E25.size
 have hb := below_stepG hb E25 hb.size (fun k hk => (hp20_old.lt k hk).1)
 have hp23 : (PostR (Value.int .i64) 37 3) w24 w.heap.size p16 2 ([1, 2] : List Int) F16 := hp23
 refine op_move (ev_hit hN rfl) ?_
 refine op_fn (vs := [(ptr p16 0), (Value.int .i64 3)]) ok26 ⟨(ev_hit hN rfl), ⟨rfl, trivial⟩⟩ (PutR_i 3 (by omega) hp23) ?_
 rintro _ w27 ⟨E28, rfl, hp26⟩
 have hp23_old := hp23
 have z_w27 := E28.size
 have hb := below_stepG hb E28 hb.size (fun k hk => (hp23_old.lt k hk).1)
 have hp26 : (PostR (Value.int .i64) 37 3) w27 w.heap.size p16 2 ([1, 2] : List Int) F16 := hp26
 refine op_assign (ev_hit hN rfl) ?_
 refine op_assign (ev_hit hN rfl) ?_
 refine op_assign (ev_hit hN rfl) ?_
 refine reg_nil ?_
 refine hK19 _ _ ?_
 refine seq_any fun K29 hK29 => ?_
 refine one_reg ?_
 refine op_move (ev_hit hN rfl) ?_
 refine op_fn (vs := [(ptr p16 0)]) ok24 ⟨(ev_hit hN rfl), trivial⟩ (HeadR_i (by omega) hp26) ?_
 rintro _ w31 ⟨E32, rfl, F30, hp30, hN30⟩
 have hp26_old := hp26
 have z_w31 := E32.size
 have hb := below_stepG hb E32 hb.size (fun k hk => (hp26_old.lt k hk).1)
 have hp30 : (PostR (Value.int .i64) 37 3) w31 w.heap.size p16 2 ([1, 2] : List Int) F30 := hp30
 refine op_move (ev_hit hN rfl) ?_
 refine op_extract (ev_hit hN rfl) rfl ?_
 refine op_extract (ev_hit hN rfl) rfl ?_
 refine op_assign (ev_hit hN rfl) ?_
 refine op_assign (ev_hit hN rfl) ?_
 refine reg_nil ?_
 refine hK29 _ _ ?_
 refine seq_any fun K33 hK33 => ?_
 refine one_reg ?_
 refine op_move (ev_hit hN rfl) ?_
 refine op_fn (vs := [(ptr p16 0)]) ok25 ⟨(ev_hit hN rfl), trivial⟩ (TakeR_i (by omega) hp30) ?_
 rintro _ w35 ⟨E36, rfl, F34, hp34, hN34⟩
 have hp30_old := hp30
 have z_w35 := E36.size
 have hb := below_stepG hb E36 hb.size (fun k hk => (hp30_old.lt k hk).1)
 have hp34 : (PostR (Value.int .i64) 37 3) w35 w.heap.size p16 2 ([2] : List Int) F34 := hp34
 refine op_move (ev_hit hN rfl) ?_
 refine op_extract (ev_hit hN rfl) rfl ?_
 refine op_extract (ev_hit hN rfl) rfl ?_
 refine op_assign (ev_hit hN rfl) ?_
 refine op_assign (ev_hit hN rfl) ?_
 refine reg_nil ?_
 refine hK33 _ _ ?_
 refine seq_any fun K37 hK37 => ?_
 refine one_reg ?_
 refine op_move (ev_hit hN rfl) ?_
 refine op_move (ev_hit hN rfl) ?_
 refine g_true (j := 1) (dj := 27) (b := true) rfl rfl rfl (ev_hit hN rfl) ?_
 refine op_move (ev_hit hN rfl) ?_
 refine op_pick_t (ev_hit hN rfl) (ev_hit hN rfl) ?_
 refine op_move (ev_hit hN rfl) ?_
 refine g_true (j := 4) (dj := 30) (b := true) rfl rfl rfl (ev_hit hN rfl) ?_
 refine op_move (ev_hit hN rfl) ?_
 refine g_true (j := 4) (dj := 30) (b := true) rfl rfl rfl (ev_hit hN rfl) ?_
 refine op_not (ev_hit hN rfl) ?_
 refine op_pick_t (ev_hit hN rfl) (ev_hit hN rfl) ?_
 refine op_move (ev_hit hN rfl) ?_
 refine g_true (j := 8) (dj := 34) (b := true) rfl rfl rfl (ev_hit hN rfl) ?_
 refine op_move (ev_hit hN rfl) ?_
 refine op_pick_t (ev_hit hN rfl) (ev_hit hN rfl) ?_
 refine op_move (ev_hit hN rfl) ?_
 refine g_true (j := 11) (dj := 37) (b := true) rfl rfl rfl (ev_hit hN rfl) ?_
 refine op_move (ev_hit hN rfl) ?_
 refine g_true (j := 11) (dj := 37) (b := true) rfl rfl rfl (ev_hit hN rfl) ?_
 refine op_bin (v := .bool true) (ev_hit hN rfl) rfl (by rw [binOp_eql]; rfl) ?_
 refine op_pick_t (ev_hit hN rfl) (ev_hit hN rfl) ?_
 refine op_move (ev_hit hN rfl) ?_
 refine g_true (j := 15) (dj := 41) (b := true) rfl rfl rfl (ev_hit hN rfl) ?_
 refine op_move (ev_hit hN rfl) ?_
 refine op_pick_t (ev_hit hN rfl) (ev_hit hN rfl) ?_
 refine op_move (ev_hit hN rfl) ?_
 refine g_true (j := 18) (dj := 44) (b := true) rfl rfl rfl (ev_hit hN rfl) ?_
 refine op_move (ev_hit hN rfl) ?_
 refine g_true (j := 18) (dj := 44) (b := true) rfl rfl rfl (ev_hit hN rfl) ?_
 refine op_bin (v := .bool true) (ev_hit hN rfl) rfl (by rw [binOp_eql]; rfl) ?_
 refine op_pick_t (ev_hit hN rfl) (ev_hit hN rfl) ?_
 refine op_move (ev_hit hN rfl) ?_
 refine g_true (j := 22) (dj := 48) (b := true) rfl rfl rfl (ev_hit hN rfl) ?_
 refine op_move (ev_hit hN rfl) ?_
 refine g_true (j := 22) (dj := 48) (b := true) rfl rfl rfl (ev_hit hN rfl) ?_
 refine op_fn (vs := [(ptr p16 0)]) ok27 ⟨(ev_hit hN rfl), trivial⟩ (LenR_i (by omega) hp34) ?_
 rintro _ w39 ⟨E40, rfl⟩
 have E40 := grown_of_below E40
 have z_w39 := E40.size
 have hp34 := hp34.keepG (Gr.of0 E40 NoB) (fun _ _ h => h)
 have hb := below_step0 hb E40 hb.size
 refine g_true (j := 22) (dj := 48) (b := true) rfl rfl rfl (ev_hit hN rfl) ?_
 refine op_bin (v := .bool true) (ev_hit hN rfl) rfl (by rw [binOp_eql]; rfl) ?_
 refine op_pick_t (ev_hit hN rfl) (ev_hit hN rfl) ?_
 refine op_assign (ev_hit hN rfl) ?_
 refine reg_nil ?_
 refine hK37 _ _ ?_
 refine wp_ret ?_
 refine ret1 rfl hd (ev_hit hN rfl) ⟨_, rfl, ?_⟩
 -- path
 exact ⟨hb, rfl⟩

end Go.Proofs.Ytmhdbphpmgjpcaa

/- Walks, written by a program: what each function of the translation hands back. -/
namespace Go.Proofs.Ytmhdbphpmgjpcaa
open Go.Gx Go.RowKit
attribute [local irreducible] wpList wpStill Code.wp Calls

theorem postAll_ret (n : Int) (l : List UInt8) (v0 : Value) (w : World) (hn : -9223372036854775808 ≤ n ∧ n ≤ 9223372036854775807) (hl : RdC w 0 w.heap.size 1 v0 l.length (l.map u8v)) : Ret Try.prog 3 #[(Value.int .i64 n), v0] w (fun v' w' => Below w.heap.size w w' ∧ v' = .bool true) := by
 obtain ⟨cap, hcap⟩ : ∃ cap, cap = (min (max n 0) 1000).toNat := ⟨_, rfl⟩
 have hb := Below.refl w.heap.size w
 refine enter (N := 198) Try.func3 rfl rfl (by simp) fun a0 hN hd hA => ?_
 have s0 : a0.tmps.getD 0 undef = (Value.int .i64 n) := hA 0 (by simp)
 have s1 : a0.tmps.getD 1 undef = v0 := hA 1 (by simp)
 clear hA
 refine seq_any fun K1 hK1 => ?_
 refine one_reg ?_
 refine op_assign rfl ?_
 refine reg_nil ?_
 refine hK1 _ _ ?_
 refine seq_any fun K2 hK2 => ?_
 refine seq_any fun K3 hK3 => ?_
 refine one_reg ?_
 refine op_fn (vs := []) ok16 trivial (begun20_ret _) ?_
 rintro _ w4 ⟨E5, rfl⟩
 have E5 := grown_of_below E5
 have z_w4 := E5.size
 have hl := hl.keep0 E5
 have hb := below_step0 hb E5 hb.size
 refine op_not (ev_hit hN rfl) ?_
 refine reg_nil ?_
 refine hK3 _ _ ?_
 refine wp_cond_false (ev_hit hN rfl) ?_
 refine wp_skip ?_
 refine hK2 _ _ ?_
 refine seq_any fun K6 hK6 => ?_
 refine seq_any fun K7 hK7 => ?_
 refine one_reg ?_
 refine op_move (ev_base hN rfl s1) ?_
 refine op_len_rd Try.underlying22 (ev_hit hN rfl) hl ?_
 refine op_gtr (ev_hit hN rfl) rfl (fun c26 => ?_) (fun c26 => ?_)
 · -- 26T
  refine reg_nil ?_
  refine hK7 _ _ ?_
  refine wp_cond_true (ev_hit hN rfl) ?_
  refine seq_any fun K8 hK8 => ?_
  refine one_reg ?_
  refine op_assign rfl ?_
  refine reg_nil ?_
  refine hK8 _ _ ?_
  refine wp_ret (then_ret ( ?_))
  refine ret1 rfl hd (ev_hit hN rfl) ⟨_, rfl, ?_⟩
  -- path 26T
  exact ⟨hb, rfl⟩
 · -- 26F
  refine reg_nil ?_
  refine hK7 _ _ ?_
  refine wp_cond_false (ev_hit hN rfl) ?_
  refine wp_skip ?_
  refine hK6 _ _ ?_
  refine seq_any fun K9 hK9 => ?_
  refine one_reg ?_
  refine op_move (ev_base hN rfl s0) ?_
  refine op_fn (vs := [(Value.int .i64 n)]) ok17 ⟨(ev_hit hN rfl), trivial⟩ (NewR_s n _ (by omega)) ?_
  rintro _ w11 ⟨E12, p10, F10, rfl, hp10⟩
  have lo_F10 : ∀ k, F10 k → w4.heap.size ≤ k := fun k hk => (hp10.lt k hk).1
  have E12 := grown_of_below E12
  have z_w11 := E12.size
  have hl := hl.keep0 E12
  have hb := below_step0 hb E12 hb.size
  have hp10_c : (min (max n 0) 1000).toNat = cap := by omega
  rw [hp10_c] at hp10
  have hp10 : (PostR sv 126 9) w11 w.heap.size p10 cap ([] : List (List UInt8)) F10 := hp10.mono (by omega)
  refine op_assign (ev_hit hN rfl) ?_
  refine reg_nil ?_
  refine hK9 _ _ ?_
  refine seq_any fun K13 hK13 => ?_
  refine one_reg ?_
  refine op_move (ev_base hN rfl s0) ?_
  refine op_max (r := (max n 0)) (ev_hit hN rfl) rfl (by omega) ?_
  refine op_min (r := ((cap : Nat) : Int)) (ev_hit hN rfl) rfl (by omega) ?_
  refine op_assign (ev_hit hN rfl) ?_
  refine reg_nil ?_
  refine hK13 _ _ ?_
  refine seq_any fun K14 hK14 => ?_
  refine one_reg ?_
  refine op_assign rfl ?_
  refine reg_nil ?_
  refine hK14 _ _ ?_
  refine seq_any fun K15 hK15 => ?_
  refine seq_any fun K16 hK16 => ?_
  refine one_reg ?_
  refine op_assign rfl ?_
  refine reg_nil ?_
  refine hK16 _ _ ?_
  refine wp_block ?_
  refine loop_m (fun mz_ az_ w' => ∃ (i : Nat) (v : Value) (p : Nat) (F : Nat → Prop) (L : List (List UInt8)), mz_ = l.length - i ∧ (az_.tmps.getD 1 undef = v0) ∧ (az_.tmps.getD 6 undef = (Value.int .i64 ((cap : Nat) : Int))) ∧ (az_.tmps.getD 8 undef = (Value.int .i64 ((i : Nat) : Int))) ∧ (az_.tmps.getD 5 undef = (ptr p 0)) ∧ (az_.tmps.getD 7 undef = v) ∧ (i ≤ l.length) ∧ (L.length ≤ i) ∧ (Dj F (Bl v)) ∧ (Below w.heap.size w w') ∧ (w11.heap.size ≤ w'.heap.size) ∧ (RdC w' 0 w.heap.size 1 v0 l.length (l.map u8v)) ∧ ((PostR sv 126 9) w' w.heap.size p cap L F) ∧ (Own w' w.heap.size 9 1 v L.length (L.map sv))) _ hN hd ⟨0, (Value.slice none 0 0), p10, F10, [], rfl, (sl_base hN rfl s1), (sl_hit hN rfl), (sl_hit hN rfl), (sl_hit hN rfl), (sl_hit hN rfl), (Nat.zero_le _), (Nat.le_refl _), (Dj.nil _), hb, (Nat.le_refl _), hl, hp10, (Own.nil _ _ _ _)⟩ ?_
  rintro _ a17 w17 hN17 hd17 ⟨i, v, p, F, L, rfl, s17_1, s17_6, s17_8, s17_5, s17_7, hi, hL, hdj, hb, zl_w17, hl, hR, hO18⟩
  have z_w17 := hb.size
  refine seq_any fun K19 hK19 => ?_
  refine seq_any fun K20 hK20 => ?_
  refine one_reg ?_
  refine op_move (ev_base hN17 rfl s17_8) ?_
  refine op_move (ev_base hN17 rfl s17_1) ?_
  refine op_len_rd Try.underlying22 (ev_hit hN17 rfl) hl ?_
  refine op_lss (ev_hit hN17 rfl) (ev_hit hN17 rfl) (fun c35 => ?_) (fun c35 => ?_)
  · -- 35T
   refine reg_nil ?_
   refine hK20 _ _ ?_
   refine wp_cond_true (ev_hit hN17 rfl) ?_
   refine wp_skip ?_
   refine hK19 _ _ ?_
   refine seq_any fun K21 hK21 => ?_
   refine wp_block ?_
   refine seq_any fun K22 hK22 => ?_
   refine one_reg ?_
   refine op_move (ev_base hN17 rfl s17_1) ?_
   refine op_move (ev_base hN17 rfl s17_8) ?_
   refine op_index_rd slt22 (ev_hit hN17 rfl) hl (ev_hit hN17 rfl) (by omega) (by omega) ?_
   intro b23 o24 h0b23 h1b23 hc25
   refine op_load1 (v := (Value.int .u8 ((l.getD i 0).toNat : Int))) one5 (ev_hit hN17 rfl) (by have := hc25 0 (Value.int .u8 ((l.getD i 0).toNat : Int)) (by decide) (el_u8 (i := i) (by omega) (by omega)); simpa using this) ?_
   refine op_move (ev_base hN17 rfl s17_8) ?_
   refine op_conv (r := ((UInt8.ofNat i).toNat : Int)) (ev_hit hN17 rfl) us3 Try.underlying5 (by rw [wrap_u8 (by omega)]; simp [UInt8.toNat_ofNat']; omega) ?_
   refine op_bslice (e := 5) (pv := [(0, (Value.int .u8 ((l.getD i 0).toNat : Int))), (1, (Value.int .u8 ((UInt8.ofNat i).toNat : Int)))]) (cs := [(Value.int .u8 ((l.getD i 0).toNat : Int)), (Value.int .u8 ((UInt8.ofNat i).toNat : Int))]) ⟨rfl, (ev_hit hN17 rfl), ⟨rfl, (ev_hit hN17 rfl), trivial⟩⟩ (by kernel_rfl) ?_
   intro w26 b27 lo_b27 hi_b27 hB29 E28
   have dj30 : ¬ F b27 := fun hf => by have := (hR.lt _ hf).2; omega
   have z_w26 := E28.size
   have hl := hl.keep0 E28
   have hR := hR.keepG (Gr.of0 E28 NoB) (fun _ _ h => h)
   have hO18 := hO18.keep0 E28
   have hb := below_step0 hb E28 hb.size
   refine op_str_of (bl := [(l.getD i 0), (UInt8.ofNat i)]) Try.underlying22 Try.underlying5 Try.underlying9 (ev_hit hN17 rfl) (RdC.ofBx (sz := 1) (n := 2) hB29 rfl (by decide)) ?_
   refine op_assign (ev_hit hN17 rfl) ?_
   refine reg_nil ?_
   refine hK22 _ _ ?_
   refine seq_join1 (N := 198) (fun az_ w' => ∃ (v : Value) (p : Nat) (F : Nat → Prop) (L : List (List UInt8)), (az_.tmps.getD 1 undef = v0) ∧ (az_.tmps.getD 6 undef = (Value.int .i64 ((cap : Nat) : Int))) ∧ (az_.tmps.getD 8 undef = (Value.int .i64 ((i : Nat) : Int))) ∧ (az_.tmps.getD 5 undef = (ptr p 0)) ∧ (az_.tmps.getD 7 undef = v) ∧ (Dj F (Bl v)) ∧ (L.length ≤ i + 1) ∧ (Below w.heap.size w w') ∧ (w26.heap.size ≤ w'.heap.size) ∧ (RdC w' 0 w.heap.size 1 v0 l.length (l.map u8v)) ∧ (Own w' w.heap.size 9 1 v L.length (L.map sv)) ∧ ((PostR sv 126 9) w' w.heap.size p cap L F)) (fun hJ31 => ?_) ?_
   ·
    refine seq_any fun K33 hK33 => ?_
    refine seq_any fun K34 hK34 => ?_
    refine one_reg ?_
    refine op_move (ev_base hN17 rfl s17_1) ?_
    refine op_move (ev_base hN17 rfl s17_8) ?_
    refine op_index_rd slt22 (ev_hit hN17 rfl) hl (ev_hit hN17 rfl) (by omega) (by omega) ?_
    intro b35 o36 h0b35 h1b35 hc37
    refine op_load1 (v := (Value.int .u8 ((l.getD i 0).toNat : Int))) one5 (ev_hit hN17 rfl) (by have := hc37 0 (Value.int .u8 ((l.getD i 0).toNat : Int)) (by decide) (el_u8 (i := i) (by omega) (by omega)); simpa using this) ?_
    refine op_rem (r := (Int.tmod ((l.getD i 0).toNat : Int) 10)) (ev_hit hN17 rfl) rfl (by decide) rfl ?_
    refine op_assign (ev_hit hN17 rfl) ?_
    refine reg_nil ?_
    refine hK34 _ _ ?_
    refine wp_block ?_
    refine seq_any fun K38 hK38 => ?_
    refine one_reg ?_
    refine op_move (ev_hit hN17 rfl) ?_
    refine op_lss (ev_hit hN17 rfl) rfl (fun c60 => ?_) (fun c60 => ?_)
    · -- 60T
     refine op_assign (ev_hit hN17 rfl) ?_
     refine reg_nil ?_
     refine hK38 _ _ ?_
     refine wp_cond_true (ev_hit hN17 rfl) ?_
     refine seq_any fun K39 hK39 => ?_
     refine seq_any fun K40 hK40 => ?_
     refine one_reg ?_
     refine op_move (ev_base hN17 rfl s17_5) ?_
     refine op_move (ev_hit hN17 rfl) ?_
     refine op_fn (vs := [(ptr p 0), (Value.string (bs [(l.getD i 0), (UInt8.ofNat i)]))]) ok18 ⟨(ev_hit hN17 rfl), ⟨(ev_hit hN17 rfl), trivial⟩⟩ (PutR_s [(l.getD i 0), (UInt8.ofNat i)] (by omega) hR) ?_
     rintro _ w42 ⟨E43, rfl, hp41⟩
     have hR_old := hR
     have z_w42 := E43.size
     have hl := hl.keepG E43 (fun k hk => .inr (by have := hR_old.lt k hk; omega))
     have hO18 := hO18.keepG E43 hdj.symm
     have hB29 := hB29.keepG E43 dj30
     have hb := below_stepG hb E43 hb.size (fun k hk => (hR_old.lt k hk).1)
     refine op_move (ev_base hN17 rfl s17_7) ?_
     refine op_len_rd Try.underlying26 (ev_hit hN17 rfl) hO18.rdw ?_
     refine op_move (ev_base hN17 rfl s17_6) ?_
     refine op_lss (ev_hit hN17 rfl) (ev_hit hN17 rfl) (fun c67 => ?_) (fun c67 => ?_)
     · -- 67T
      refine op_neb Try.underlying4 (ev_hit hN17 rfl) (ev_hit hN17 rfl) ?_
      rcases Bool.eq_false_or_eq_true (((decide (L.length < cap)) != true)) with c68 | c68
      · -- 68T
       exfalso; revert c68; simp; omega
      · -- 68F
       rw [c68]
       refine reg_nil ?_
       refine hK40 _ _ ?_
       refine wp_cond_false (ev_hit hN17 rfl) ?_
       refine wp_skip ?_
       refine hK39 _ _ ?_
       refine seq_any fun K44 hK44 => ?_
       refine one_reg ?_
       refine op_move (ev_base hN17 rfl s17_7) ?_
       refine op_len_rd Try.underlying26 (ev_hit hN17 rfl) hO18.rdw ?_
       refine op_move (ev_base hN17 rfl s17_6) ?_
       refine op_lss (ev_hit hN17 rfl) (ev_hit hN17 rfl) (fun c72 => ?_) (fun c72 => ?_)
       · -- 72T
        refine reg_nil ?_
        refine hK44 _ _ ?_
        refine wp_cond_true (ev_hit hN17 rfl) ?_
        refine one_reg ?_
        refine op_move (ev_base hN17 rfl s17_7) ?_
        refine op_move (ev_hit hN17 rfl) ?_
        refine op_bslice (e := 9) (pv := [(0, (Value.string (bs [(l.getD i 0), (UInt8.ofNat i)])))]) (cs := [(Value.string (bs [(l.getD i 0), (UInt8.ofNat i)]))]) ⟨rfl, (ev_hit hN17 rfl), trivial⟩ (by kernel_rfl) ?_
        intro w45 b46 lo_b46 hi_b46 hB48 E47
        have dj49 : ¬ F b46 := fun hf => by have := (hp41.lt _ hf).2; omega
        have ne_b46_v : v.ownBlock ≠ some b46 := fun hh => by have := (hO18.lt _ hh).2; omega
        have z_w45 := E47.size
        have hl := hl.keep0 E47
        have hO18 := hO18.keep0 E47
        have hB29 := hB29.keep0 E47
        have hp41 := hp41.keepG (Gr.of0 E47 NoB) (fun _ _ h => h)
        have hb := below_step0 hb E47 hb.size
        have hP55 := hO18
        refine op_append slt26 (ev_hit hN17 rfl) hP55 (ev_hit hN17 rfl) (Src.ofRd Try.underlying26 (by decide) (RdC.ofBx (sz := 1) (n := 1) hB48 rfl (by decide)) (by simp [Value.oneCell', u8v])) (by unfold maxLen; omega) (by omega) hb.size ?_
        intro v50 w51 hO53 E52 hm54
        have dj56 : Dj F (Bl v50) := Dj.step hm54 (fun k hk => (hp41.lt k hk).2) hdj
        have z_w51 := E52.size
        have hl := hl.keepO hP55 E52 (by omega)
        have hB29 := hB29.keepO hP55 E52 (by decide)
        have hp41 := hp41.keepG (Gr.of E52) hdj
        have hB48 := hB48.keep E52 (fun hh => ne_b46_v hh.symm)
        have hb := below_stepO hb hP55 E52 hb.size (by omega)
        have hO53 : Own w51 w.heap.size 9 1 v50 (L.length + 1) (((L ++ [[(l.getD i 0), (UInt8.ofNat i)]])).map sv) := by simpa [u8v, u16v, sv] using hO53
        have ne_b46_v50 : v50.ownBlock ≠ some b46 := ne_step (w1 := w45) ⟨E52, hm54⟩ (by omega) ne_b46_v
        refine op_assign (ev_hit hN17 rfl) ?_
        refine reg_nil ?_
        refine hK33 _ _ ?_
        exact hJ31 _ _ _ hN17 hd17 ⟨v50, p, F, (L ++ [[(l.getD i 0), (UInt8.ofNat i)]]), (sl_base hN17 rfl s17_1), (sl_base hN17 rfl s17_6), (sl_base hN17 rfl s17_8), (sl_base hN17 rfl s17_5), (sl_hit hN17 rfl), dj56, (by first | omega | (simp; omega)), hb, (by omega), hl, (hO53.cast (by first | rfl | (simp; done) | (simp; omega)) rfl), (by have hq := hp41; unfold putL at hq; rw [if_pos (by omega)] at hq; exact hq)⟩
       · -- 72F
        refine reg_nil ?_
        refine hK44 _ _ ?_
        refine wp_cond_false (ev_hit hN17 rfl) ?_
        refine wp_skip ?_
        refine hK33 _ _ ?_
        exact hJ31 _ _ _ hN17 hd17 ⟨v, p, F, L, (sl_base hN17 rfl s17_1), (sl_base hN17 rfl s17_6), (sl_base hN17 rfl s17_8), (sl_base hN17 rfl s17_5), (sl_base hN17 rfl s17_7), hdj, (by first | omega | (simp; omega)), hb, (by omega), hl, (hO18.cast (by first | rfl | (simp; done) | (simp; omega)) rfl), (by have hq := hp41; unfold putL at hq; rw [if_neg (by omega)] at hq; exact hq)⟩
     · -- 67F
      refine op_neb Try.underlying4 (ev_hit hN17 rfl) (ev_hit hN17 rfl) ?_
      rcases Bool.eq_false_or_eq_true (((decide (L.length < cap)) != false)) with c68 | c68
      · -- 68T
       exfalso; revert c68; simp; omega
      · -- 68F
       rw [c68]
       refine reg_nil ?_
       refine hK40 _ _ ?_
       refine wp_cond_false (ev_hit hN17 rfl) ?_
       refine wp_skip ?_
       refine hK39 _ _ ?_
       refine seq_any fun K57 hK57 => ?_
       refine one_reg ?_
       refine op_move (ev_base hN17 rfl s17_7) ?_
       refine op_len_rd Try.underlying26 (ev_hit hN17 rfl) hO18.rdw ?_
       refine op_move (ev_base hN17 rfl s17_6) ?_
       refine op_lss (ev_hit hN17 rfl) (ev_hit hN17 rfl) (fun c72 => ?_) (fun c72 => ?_)
       · -- 72T
        refine reg_nil ?_
        refine hK57 _ _ ?_
        refine wp_cond_true (ev_hit hN17 rfl) ?_
        refine one_reg ?_
        refine op_move (ev_base hN17 rfl s17_7) ?_
        refine op_move (ev_hit hN17 rfl) ?_
        refine op_bslice (e := 9) (pv := [(0, (Value.string (bs [(l.getD i 0), (UInt8.ofNat i)])))]) (cs := [(Value.string (bs [(l.getD i 0), (UInt8.ofNat i)]))]) ⟨rfl, (ev_hit hN17 rfl), trivial⟩ (by kernel_rfl) ?_
        intro w58 b59 lo_b59 hi_b59 hB61 E60
        have dj62 : ¬ F b59 := fun hf => by have := (hp41.lt _ hf).2; omega
        have ne_b59_v : v.ownBlock ≠ some b59 := fun hh => by have := (hO18.lt _ hh).2; omega
        have z_w58 := E60.size
        have hl := hl.keep0 E60
        have hO18 := hO18.keep0 E60
        have hB29 := hB29.keep0 E60
        have hp41 := hp41.keepG (Gr.of0 E60 NoB) (fun _ _ h => h)
        have hb := below_step0 hb E60 hb.size
        have hP68 := hO18
        refine op_append slt26 (ev_hit hN17 rfl) hP68 (ev_hit hN17 rfl) (Src.ofRd Try.underlying26 (by decide) (RdC.ofBx (sz := 1) (n := 1) hB61 rfl (by decide)) (by simp [Value.oneCell', u8v])) (by unfold maxLen; omega) (by omega) hb.size ?_
        intro v63 w64 hO66 E65 hm67
        have dj69 : Dj F (Bl v63) := Dj.step hm67 (fun k hk => (hp41.lt k hk).2) hdj
        have z_w64 := E65.size
        have hl := hl.keepO hP68 E65 (by omega)
        have hB29 := hB29.keepO hP68 E65 (by decide)
        have hp41 := hp41.keepG (Gr.of E65) hdj
        have hB61 := hB61.keep E65 (fun hh => ne_b59_v hh.symm)
        have hb := below_stepO hb hP68 E65 hb.size (by omega)
        have hO66 : Own w64 w.heap.size 9 1 v63 (L.length + 1) (((L ++ [[(l.getD i 0), (UInt8.ofNat i)]])).map sv) := by simpa [u8v, u16v, sv] using hO66
        have ne_b59_v63 : v63.ownBlock ≠ some b59 := ne_step (w1 := w58) ⟨E65, hm67⟩ (by omega) ne_b59_v
        refine op_assign (ev_hit hN17 rfl) ?_
        refine reg_nil ?_
        refine hK33 _ _ ?_
        exact hJ31 _ _ _ hN17 hd17 ⟨v63, p, F, (L ++ [[(l.getD i 0), (UInt8.ofNat i)]]), (sl_base hN17 rfl s17_1), (sl_base hN17 rfl s17_6), (sl_base hN17 rfl s17_8), (sl_base hN17 rfl s17_5), (sl_hit hN17 rfl), dj69, (by first | omega | (simp; omega)), hb, (by omega), hl, (hO66.cast (by first | rfl | (simp; done) | (simp; omega)) rfl), (by have hq := hp41; unfold putL at hq; rw [if_pos (by omega)] at hq; exact hq)⟩
       · -- 72F
        refine reg_nil ?_
        refine hK57 _ _ ?_
        refine wp_cond_false (ev_hit hN17 rfl) ?_
        refine wp_skip ?_
        refine hK33 _ _ ?_
        exact hJ31 _ _ _ hN17 hd17 ⟨v, p, F, L, (sl_base hN17 rfl s17_1), (sl_base hN17 rfl s17_6), (sl_base hN17 rfl s17_8), (sl_base hN17 rfl s17_5), (sl_base hN17 rfl s17_7), hdj, (by first | omega | (simp; omega)), hb, (by omega), hl, (hO18.cast (by first | rfl | (simp; done) | (simp; omega)) rfl), (by have hq := hp41; unfold putL at hq; rw [if_neg (by omega)] at hq; exact hq)⟩
    · -- 60F
     refine op_assign (ev_hit hN17 rfl) ?_
     refine reg_nil ?_
     refine hK38 _ _ ?_
     refine wp_cond_false (ev_hit hN17 rfl) ?_
     refine seq_any fun K70 hK70 => ?_
     refine one_reg ?_
     refine op_move (ev_hit hN17 rfl) ?_
     refine op_lss (ev_hit hN17 rfl) rfl (fun c79 => ?_) (fun c79 => ?_)
     · -- 79T
      refine op_assign (ev_hit hN17 rfl) ?_
      refine reg_nil ?_
      refine hK70 _ _ ?_
      refine wp_cond_true (ev_hit hN17 rfl) ?_
      refine seq_any fun K71 hK71 => ?_
      refine one_reg ?_
      refine op_move (ev_base hN17 rfl s17_5) ?_
      refine op_fn (vs := [(ptr p 0)]) ok19 ⟨(ev_hit hN17 rfl), trivial⟩ (HeadR_s (by omega) hR) ?_
      rintro _ w73 ⟨E74, rfl, F72, hp72, hN72⟩
      have bd75 := hO18.lt
      have bd76 := hB29.lt
      have hR_old := hR
      have z_w73 := E74.size
      have hl := hl.keepG E74 (fun k hk => .inr (by have := hR_old.lt k hk; omega))
      have hO18 := hO18.keepG E74 hdj.symm
      have hB29 := hB29.keepG E74 dj30
      have hb := below_stepG hb E74 hb.size (fun k hk => (hR_old.lt k hk).1)
      have dj77 : Dj (Bl v) F72 := Dj.stepF hN72 (fun k hk => (bd75 k hk).2) hdj.symm
      have dj78 : ¬ F72 b27 := ne_stepF hN72 bd76 dj30
      refine op_move (ev_hit hN17 rfl) ?_
      refine op_extract (ev_hit hN17 rfl) rfl ?_
      refine op_extract (ev_hit hN17 rfl) rfl ?_
      refine op_assign (ev_hit hN17 rfl) ?_
      refine op_assign (ev_hit hN17 rfl) ?_
      refine reg_nil ?_
      refine hK71 _ _ ?_
      refine seq_any fun K79 hK79 => ?_
      refine seq_any fun K80 hK80 => ?_
      refine one_reg ?_
      refine op_move (ev_hit hN17 rfl) ?_
      refine op_lss (ev_hit hN17 rfl) rfl (fun c86 => ?_) (fun c86 => ?_)
      · -- 86T
       refine reg_nil ?_
       refine hK80 _ _ ?_
       refine wp_cond_true (ev_hit hN17 rfl) ?_
       refine one_reg ?_
       refine op_move (ev_base hN17 rfl s17_5) ?_
       refine op_fn (vs := [(ptr p 0)]) ok20 ⟨(ev_hit hN17 rfl), trivial⟩ (TakeR_s (by omega) hp72) ?_
       rintro _ w82 ⟨E83, rfl, F81, hp81, hN81⟩
       have bd84 := hO18.lt
       have bd85 := hB29.lt
       have hp72_old := hp72
       have z_w82 := E83.size
       have hl := hl.keepG E83 (fun k hk => .inr (by have := hp72_old.lt k hk; omega))
       have hO18 := hO18.keepG E83 dj77
       have hB29 := hB29.keepG E83 dj78
       have hb := below_stepG hb E83 hb.size (fun k hk => (hp72_old.lt k hk).1)
       have dj86 : Dj (Bl v) F81 := Dj.stepF hN81 (fun k hk => (bd84 k hk).2) dj77
       have dj87 : ¬ F81 b27 := ne_stepF hN81 bd85 dj78
       refine op_move (ev_hit hN17 rfl) ?_
       refine op_extract (ev_hit hN17 rfl) rfl ?_
       refine op_extract (ev_hit hN17 rfl) rfl ?_
       refine op_assign (ev_hit hN17 rfl) ?_
       refine op_assign (ev_hit hN17 rfl) ?_
       refine reg_nil ?_
       refine hK79 _ _ ?_
       refine seq_any fun K88 hK88 => ?_
       refine seq_any fun K89 hK89 => ?_
       refine one_reg ?_
       rcases Bool.eq_false_or_eq_true ((decide (0 < L.length))) with c92 | c92
       · -- 92T
        rw [c92]
        refine op_move (ev_hit hN17 rfl) ?_
        replace c92 := of_decide_eq_true c92
        refine op_move (ev_base hN17 rfl s17_7) ?_
        refine op_len_rd Try.underlying26 (ev_hit hN17 rfl) hO18.rdw ?_
        refine op_gtr (ev_hit hN17 rfl) rfl (fun c95 => ?_) (fun c95 => ?_)
        · -- 95T
         refine op_neb Try.underlying4 (ev_hit hN17 rfl) (ev_hit hN17 rfl) ?_
         refine op_move (ev_hit hN17 rfl) ?_
         refine g_true (j := 5) (dj := 97) (b := false) rfl rfl rfl (ev_hit hN17 rfl) ?_
         refine op_move (ev_hit hN17 rfl) ?_
         refine g_true (j := 5) (dj := 97) (b := false) rfl rfl rfl (ev_hit hN17 rfl) ?_
         refine op_move (ev_hit hN17 rfl) ?_
         refine g_true (j := 7) (dj := 99) (b := true) rfl rfl rfl (ev_hit hN17 rfl) ?_
         refine op_move (ev_hit hN17 rfl) ?_
         refine g_true (j := 7) (dj := 99) (b := true) rfl rfl rfl (ev_hit hN17 rfl) ?_
         refine op_move (ev_base hN17 rfl s17_7) ?_
         refine g_true (j := 7) (dj := 99) (b := true) rfl rfl rfl (ev_hit hN17 rfl) ?_
         refine op_index_rd slt26 (ev_hit hN17 rfl) hO18.rdw rfl (by omega) (by omega) ?_
         intro b90 o91 h0b90 h1b90 hc92
         refine g_true (j := 7) (dj := 99) (b := true) rfl rfl rfl (ev_hit hN17 rfl) ?_
         refine op_load1 (v := (Value.string (bs (L.getD 0 [])))) one9 (ev_hit hN17 rfl) (by have := hc92 0 (Value.string (bs (L.getD 0 []))) (by decide) (el_sv (i := 0) (by omega) (by omega)); simpa using this) ?_
         refine g_true (j := 7) (dj := 99) (b := true) rfl rfl rfl (ev_hit hN17 rfl) ?_
         refine op_sneq (ev_hit hN17 rfl) (ev_hit hN17 rfl) (fun c104 => ?_) (fun c104 => ?_)
         · -- 104T
          exact absurd rfl c104
         · -- 104F
          refine g_true (j := 5) (dj := 97) (b := false) rfl rfl rfl (ev_hit hN17 rfl) ?_
          refine op_pick_t (ev_hit hN17 rfl) (ev_hit hN17 rfl) ?_
          refine op_pick_f (ev_hit hN17 rfl) (ev_hit hN17 rfl) ?_
          refine op_move (ev_hit hN17 rfl) ?_
          refine g_true (j := 15) (dj := 107) (b := false) rfl rfl rfl (ev_hit hN17 rfl) ?_
          refine op_move (ev_hit hN17 rfl) ?_
          refine g_true (j := 15) (dj := 107) (b := false) rfl rfl rfl (ev_hit hN17 rfl) ?_
          refine op_not (ev_hit hN17 rfl) ?_
          refine g_true (j := 15) (dj := 107) (b := false) rfl rfl rfl (ev_hit hN17 rfl) ?_
          refine op_move (ev_hit hN17 rfl) ?_
          refine g_false (j := 18) (dj := 110) (b := true) rfl rfl rfl (ev_hit hN17 rfl) rfl rfl ?_
          refine g_false (j := 18) (dj := 110) (b := true) rfl rfl rfl (ev_hit hN17 rfl) rfl rfl ?_
          refine g_true (j := 15) (dj := 107) (b := false) rfl rfl rfl (ev_hit hN17 rfl) ?_
          refine op_pick_f (ev_hit hN17 rfl) rfl ?_
          refine op_pick_f (ev_hit hN17 rfl) (ev_hit hN17 rfl) ?_
          refine reg_nil ?_
          refine hK89 _ _ ?_
          refine wp_cond_false (ev_hit hN17 rfl) ?_
          refine wp_skip ?_
          refine hK88 _ _ ?_
          refine seq_any fun K93 hK93 => ?_
          refine one_reg ?_
          refine op_move (ev_hit hN17 rfl) ?_
          refine op_move (ev_hit hN17 rfl) ?_
          refine g_true (j := 1) (dj := 116) (b := true) rfl rfl rfl (ev_hit hN17 rfl) ?_
          refine op_move (ev_hit hN17 rfl) ?_
          refine g_true (j := 1) (dj := 116) (b := true) rfl rfl rfl (ev_hit hN17 rfl) ?_
          refine op_lss (ev_hit hN17 rfl) rfl (fun c118 => ?_) (fun c118 => ?_)
          · -- 118T
           refine op_pick_t (ev_hit hN17 rfl) (ev_hit hN17 rfl) ?_
           refine reg_nil ?_
           refine hK93 _ _ ?_
           refine wp_cond_true (ev_hit hN17 rfl) ?_
           refine one_reg ?_
           refine op_move (ev_base hN17 rfl s17_7) ?_
           refine op_slice_own_lo (k := 1) slt26 (ev_hit hN17 rfl) hO18 rfl (by omega) (by omega) ?_
           intro v94 hO95 ho96
           have hO95 : Own w82 w.heap.size 9 1 v94 (L.length - 1) (((L.drop 1)).map sv) := by simpa [List.map_drop] using hO95
           have dj97 : Dj F81 (Bl v94) := fun k hk hg => dj86.symm k hk (ho96.symm.trans hg)
           refine op_assign (ev_hit hN17 rfl) ?_
           refine reg_nil ?_
           refine hK33 _ _ ?_
           exact hJ31 _ _ _ hN17 hd17 ⟨v94, p, F81, (L.drop 1), (sl_base hN17 rfl s17_1), (sl_base hN17 rfl s17_6), (sl_base hN17 rfl s17_8), (sl_base hN17 rfl s17_5), (sl_hit hN17 rfl), dj97, (by first | omega | (simp; omega)), hb, (by omega), hl, (hO95.cast (by first | rfl | (simp; done) | (simp; omega)) rfl), hp81⟩
          · -- 118F
           exfalso; omega
        · -- 95F
         exfalso; omega
       · -- 92F
        rw [c92]
        refine op_move (ev_hit hN17 rfl) ?_
        replace c92 := of_decide_eq_false c92
        refine op_move (ev_base hN17 rfl s17_7) ?_
        refine op_len_rd Try.underlying26 (ev_hit hN17 rfl) hO18.rdw ?_
        refine op_gtr (ev_hit hN17 rfl) rfl (fun c95 => ?_) (fun c95 => ?_)
        · -- 95T
         exfalso; omega
        · -- 95F
         refine op_neb Try.underlying4 (ev_hit hN17 rfl) (ev_hit hN17 rfl) ?_
         refine op_move (ev_hit hN17 rfl) ?_
         refine g_true (j := 5) (dj := 97) (b := false) rfl rfl rfl (ev_hit hN17 rfl) ?_
         refine op_move (ev_hit hN17 rfl) ?_
         refine g_true (j := 5) (dj := 97) (b := false) rfl rfl rfl (ev_hit hN17 rfl) ?_
         refine op_move (ev_hit hN17 rfl) ?_
         refine g_false (j := 7) (dj := 99) (b := true) rfl rfl rfl (ev_hit hN17 rfl) rfl rfl ?_
         refine g_false (j := 7) (dj := 99) (b := true) rfl rfl rfl (ev_hit hN17 rfl) rfl rfl ?_
         refine g_false (j := 7) (dj := 99) (b := true) rfl rfl rfl (ev_hit hN17 rfl) rfl rfl ?_
         refine g_false (j := 7) (dj := 99) (b := true) rfl rfl rfl (ev_hit hN17 rfl) rfl rfl ?_
         refine g_false (j := 7) (dj := 99) (b := true) rfl rfl rfl (ev_hit hN17 rfl) rfl rfl ?_
         refine g_true (j := 5) (dj := 97) (b := false) rfl rfl rfl (ev_hit hN17 rfl) ?_
         refine op_pick_f (ev_hit hN17 rfl) rfl ?_
         refine op_pick_f (ev_hit hN17 rfl) (ev_hit hN17 rfl) ?_
         refine op_move (ev_hit hN17 rfl) ?_
         refine g_true (j := 15) (dj := 107) (b := false) rfl rfl rfl (ev_hit hN17 rfl) ?_
         refine op_move (ev_hit hN17 rfl) ?_
         refine g_true (j := 15) (dj := 107) (b := false) rfl rfl rfl (ev_hit hN17 rfl) ?_
         refine op_not (ev_hit hN17 rfl) ?_
         refine g_true (j := 15) (dj := 107) (b := false) rfl rfl rfl (ev_hit hN17 rfl) ?_
         refine op_move (ev_hit hN17 rfl) ?_
         refine g_true (j := 18) (dj := 110) (b := true) rfl rfl rfl (ev_hit hN17 rfl) ?_
         refine op_move (ev_hit hN17 rfl) ?_
         refine g_true (j := 18) (dj := 110) (b := true) rfl rfl rfl (ev_hit hN17 rfl) ?_
         refine op_sneq (ev_hit hN17 rfl) rfl (fun c112 => ?_) (fun c112 => ?_)
         · -- 112T
          exact absurd (show L.getD 0 [] = [] by rw [show L = [] from List.length_eq_zero_iff.1 (by omega)]; rfl) c112
         · -- 112F
          refine g_true (j := 15) (dj := 107) (b := false) rfl rfl rfl (ev_hit hN17 rfl) ?_
          refine op_pick_t (ev_hit hN17 rfl) (ev_hit hN17 rfl) ?_
          refine op_pick_f (ev_hit hN17 rfl) (ev_hit hN17 rfl) ?_
          refine reg_nil ?_
          refine hK89 _ _ ?_
          refine wp_cond_false (ev_hit hN17 rfl) ?_
          refine wp_skip ?_
          refine hK88 _ _ ?_
          refine seq_any fun K98 hK98 => ?_
          refine one_reg ?_
          refine op_move (ev_hit hN17 rfl) ?_
          refine op_move (ev_hit hN17 rfl) ?_
          refine g_false (j := 1) (dj := 116) (b := true) rfl rfl rfl (ev_hit hN17 rfl) rfl rfl ?_
          refine g_false (j := 1) (dj := 116) (b := true) rfl rfl rfl (ev_hit hN17 rfl) rfl rfl ?_
          refine op_pick_f (ev_hit hN17 rfl) rfl ?_
          refine reg_nil ?_
          refine hK98 _ _ ?_
          refine wp_cond_false (ev_hit hN17 rfl) ?_
          refine wp_skip ?_
          refine hK33 _ _ ?_
          exact hJ31 _ _ _ hN17 hd17 ⟨v, p, F81, L, (sl_base hN17 rfl s17_1), (sl_base hN17 rfl s17_6), (sl_base hN17 rfl s17_8), (sl_base hN17 rfl s17_5), (sl_base hN17 rfl s17_7), dj86.symm, (by first | omega | (simp; omega)), hb, (by omega), hl, (hO18.cast (by first | rfl | (simp; done) | (simp; omega)) rfl), (by have hq := hp81; first | exact hq | (rw [show L = [] from List.length_eq_zero_iff.1 (by omega)] at hq ⊢; exact hq))⟩
      · -- 86F
       refine reg_nil ?_
       refine hK80 _ _ ?_
       refine wp_cond_false (ev_hit hN17 rfl) ?_
       refine wp_skip ?_
       refine hK79 _ _ ?_
       refine seq_any fun K99 hK99 => ?_
       refine seq_any fun K100 hK100 => ?_
       refine one_reg ?_
       rcases Bool.eq_false_or_eq_true ((decide (0 < L.length))) with c92 | c92
       · -- 92T
        rw [c92]
        refine op_move (ev_hit hN17 rfl) ?_
        replace c92 := of_decide_eq_true c92
        refine op_move (ev_base hN17 rfl s17_7) ?_
        refine op_len_rd Try.underlying26 (ev_hit hN17 rfl) hO18.rdw ?_
        refine op_gtr (ev_hit hN17 rfl) rfl (fun c95 => ?_) (fun c95 => ?_)
        · -- 95T
         refine op_neb Try.underlying4 (ev_hit hN17 rfl) (ev_hit hN17 rfl) ?_
         refine op_move (ev_hit hN17 rfl) ?_
         refine g_true (j := 5) (dj := 97) (b := false) rfl rfl rfl (ev_hit hN17 rfl) ?_
         refine op_move (ev_hit hN17 rfl) ?_
         refine g_true (j := 5) (dj := 97) (b := false) rfl rfl rfl (ev_hit hN17 rfl) ?_
         refine op_move (ev_hit hN17 rfl) ?_
         refine g_true (j := 7) (dj := 99) (b := true) rfl rfl rfl (ev_hit hN17 rfl) ?_
         refine op_move (ev_hit hN17 rfl) ?_
         refine g_true (j := 7) (dj := 99) (b := true) rfl rfl rfl (ev_hit hN17 rfl) ?_
         refine op_move (ev_base hN17 rfl s17_7) ?_
         refine g_true (j := 7) (dj := 99) (b := true) rfl rfl rfl (ev_hit hN17 rfl) ?_
         refine op_index_rd slt26 (ev_hit hN17 rfl) hO18.rdw rfl (by omega) (by omega) ?_
         intro b101 o102 h0b101 h1b101 hc103
         refine g_true (j := 7) (dj := 99) (b := true) rfl rfl rfl (ev_hit hN17 rfl) ?_
         refine op_load1 (v := (Value.string (bs (L.getD 0 [])))) one9 (ev_hit hN17 rfl) (by have := hc103 0 (Value.string (bs (L.getD 0 []))) (by decide) (el_sv (i := 0) (by omega) (by omega)); simpa using this) ?_
         refine g_true (j := 7) (dj := 99) (b := true) rfl rfl rfl (ev_hit hN17 rfl) ?_
         refine op_sneq (ev_hit hN17 rfl) (ev_hit hN17 rfl) (fun c104 => ?_) (fun c104 => ?_)
         · -- 104T
          exact absurd rfl c104
         · -- 104F
          refine g_true (j := 5) (dj := 97) (b := false) rfl rfl rfl (ev_hit hN17 rfl) ?_
          refine op_pick_t (ev_hit hN17 rfl) (ev_hit hN17 rfl) ?_
          refine op_pick_f (ev_hit hN17 rfl) (ev_hit hN17 rfl) ?_
          refine op_move (ev_hit hN17 rfl) ?_
          refine g_true (j := 15) (dj := 107) (b := false) rfl rfl rfl (ev_hit hN17 rfl) ?_
          refine op_move (ev_hit hN17 rfl) ?_
          refine g_true (j := 15) (dj := 107) (b := false) rfl rfl rfl (ev_hit hN17 rfl) ?_
          refine op_not (ev_hit hN17 rfl) ?_
          refine g_true (j := 15) (dj := 107) (b := false) rfl rfl rfl (ev_hit hN17 rfl) ?_
          refine op_move (ev_hit hN17 rfl) ?_
          refine g_false (j := 18) (dj := 110) (b := true) rfl rfl rfl (ev_hit hN17 rfl) rfl rfl ?_
          refine g_false (j := 18) (dj := 110) (b := true) rfl rfl rfl (ev_hit hN17 rfl) rfl rfl ?_
          refine g_true (j := 15) (dj := 107) (b := false) rfl rfl rfl (ev_hit hN17 rfl) ?_
          refine op_pick_f (ev_hit hN17 rfl) rfl ?_
          refine op_pick_f (ev_hit hN17 rfl) (ev_hit hN17 rfl) ?_
          refine reg_nil ?_
          refine hK100 _ _ ?_
          refine wp_cond_false (ev_hit hN17 rfl) ?_
          refine wp_skip ?_
          refine hK99 _ _ ?_
          refine seq_any fun K104 hK104 => ?_
          refine one_reg ?_
          refine op_move (ev_hit hN17 rfl) ?_
          refine op_move (ev_hit hN17 rfl) ?_
          refine g_true (j := 1) (dj := 116) (b := true) rfl rfl rfl (ev_hit hN17 rfl) ?_
          refine op_move (ev_hit hN17 rfl) ?_
          refine g_true (j := 1) (dj := 116) (b := true) rfl rfl rfl (ev_hit hN17 rfl) ?_
          refine op_lss (ev_hit hN17 rfl) rfl (fun c118 => ?_) (fun c118 => ?_)
          · -- 118T
           exfalso; omega
          · -- 118F
           refine op_pick_t (ev_hit hN17 rfl) (ev_hit hN17 rfl) ?_
           refine reg_nil ?_
           refine hK104 _ _ ?_
           refine wp_cond_false (ev_hit hN17 rfl) ?_
           refine wp_skip ?_
           refine hK33 _ _ ?_
           exact hJ31 _ _ _ hN17 hd17 ⟨v, p, F72, L, (sl_base hN17 rfl s17_1), (sl_base hN17 rfl s17_6), (sl_base hN17 rfl s17_8), (sl_base hN17 rfl s17_5), (sl_base hN17 rfl s17_7), dj77.symm, (by first | omega | (simp; omega)), hb, (by omega), hl, (hO18.cast (by first | rfl | (simp; done) | (simp; omega)) rfl), hp72⟩
        · -- 95F
         exfalso; omega
       · -- 92F
        rw [c92]
        refine op_move (ev_hit hN17 rfl) ?_
        replace c92 := of_decide_eq_false c92
        refine op_move (ev_base hN17 rfl s17_7) ?_
        refine op_len_rd Try.underlying26 (ev_hit hN17 rfl) hO18.rdw ?_
        refine op_gtr (ev_hit hN17 rfl) rfl (fun c95 => ?_) (fun c95 => ?_)
        · -- 95T
         exfalso; omega
        · -- 95F
         refine op_neb Try.underlying4 (ev_hit hN17 rfl) (ev_hit hN17 rfl) ?_
         refine op_move (ev_hit hN17 rfl) ?_
         refine g_true (j := 5) (dj := 97) (b := false) rfl rfl rfl (ev_hit hN17 rfl) ?_
         refine op_move (ev_hit hN17 rfl) ?_
         refine g_true (j := 5) (dj := 97) (b := false) rfl rfl rfl (ev_hit hN17 rfl) ?_
         refine op_move (ev_hit hN17 rfl) ?_
         refine g_false (j := 7) (dj := 99) (b := true) rfl rfl rfl (ev_hit hN17 rfl) rfl rfl ?_
         refine g_false (j := 7) (dj := 99) (b := true) rfl rfl rfl (ev_hit hN17 rfl) rfl rfl ?_
         refine g_false (j := 7) (dj := 99) (b := true) rfl rfl rfl (ev_hit hN17 rfl) rfl rfl ?_
         refine g_false (j := 7) (dj := 99) (b := true) rfl rfl rfl (ev_hit hN17 rfl) rfl rfl ?_
         refine g_false (j := 7) (dj := 99) (b := true) rfl rfl rfl (ev_hit hN17 rfl) rfl rfl ?_
         refine g_true (j := 5) (dj := 97) (b := false) rfl rfl rfl (ev_hit hN17 rfl) ?_
         refine op_pick_f (ev_hit hN17 rfl) rfl ?_
         refine op_pick_f (ev_hit hN17 rfl) (ev_hit hN17 rfl) ?_
         refine op_move (ev_hit hN17 rfl) ?_
         refine g_true (j := 15) (dj := 107) (b := false) rfl rfl rfl (ev_hit hN17 rfl) ?_
         refine op_move (ev_hit hN17 rfl) ?_
         refine g_true (j := 15) (dj := 107) (b := false) rfl rfl rfl (ev_hit hN17 rfl) ?_
         refine op_not (ev_hit hN17 rfl) ?_
         refine g_true (j := 15) (dj := 107) (b := false) rfl rfl rfl (ev_hit hN17 rfl) ?_
         refine op_move (ev_hit hN17 rfl) ?_
         refine g_true (j := 18) (dj := 110) (b := true) rfl rfl rfl (ev_hit hN17 rfl) ?_
         refine op_move (ev_hit hN17 rfl) ?_
         refine g_true (j := 18) (dj := 110) (b := true) rfl rfl rfl (ev_hit hN17 rfl) ?_
         refine op_sneq (ev_hit hN17 rfl) rfl (fun c112 => ?_) (fun c112 => ?_)
         · -- 112T
          exact absurd (show L.getD 0 [] = [] by rw [show L = [] from List.length_eq_zero_iff.1 (by omega)]; rfl) c112
         · -- 112F
          refine g_true (j := 15) (dj := 107) (b := false) rfl rfl rfl (ev_hit hN17 rfl) ?_
          refine op_pick_t (ev_hit hN17 rfl) (ev_hit hN17 rfl) ?_
          refine op_pick_f (ev_hit hN17 rfl) (ev_hit hN17 rfl) ?_
          refine reg_nil ?_
          refine hK100 _ _ ?_
          refine wp_cond_false (ev_hit hN17 rfl) ?_
          refine wp_skip ?_
          refine hK99 _ _ ?_
          refine seq_any fun K105 hK105 => ?_
          refine one_reg ?_
          refine op_move (ev_hit hN17 rfl) ?_
          refine op_move (ev_hit hN17 rfl) ?_
          refine g_false (j := 1) (dj := 116) (b := true) rfl rfl rfl (ev_hit hN17 rfl) rfl rfl ?_
          refine g_false (j := 1) (dj := 116) (b := true) rfl rfl rfl (ev_hit hN17 rfl) rfl rfl ?_
          refine op_pick_f (ev_hit hN17 rfl) rfl ?_
          refine reg_nil ?_
          refine hK105 _ _ ?_
          refine wp_cond_false (ev_hit hN17 rfl) ?_
          refine wp_skip ?_
          refine hK33 _ _ ?_
          exact hJ31 _ _ _ hN17 hd17 ⟨v, p, F72, L, (sl_base hN17 rfl s17_1), (sl_base hN17 rfl s17_6), (sl_base hN17 rfl s17_8), (sl_base hN17 rfl s17_5), (sl_base hN17 rfl s17_7), dj77.symm, (by first | omega | (simp; omega)), hb, (by omega), hl, (hO18.cast (by first | rfl | (simp; done) | (simp; omega)) rfl), hp72⟩
     · -- 79F
      refine op_assign (ev_hit hN17 rfl) ?_
      refine reg_nil ?_
      refine hK70 _ _ ?_
      refine wp_cond_false (ev_hit hN17 rfl) ?_
      refine seq_any fun K106 hK106 => ?_
      refine one_reg ?_
      refine op_move (ev_base hN17 rfl s17_5) ?_
      refine op_fn (vs := [(ptr p 0)]) ok21 ⟨(ev_hit hN17 rfl), trivial⟩ (CopyR_s (by omega) hR) ?_
      rintro _ w108 ⟨E109, p107, F107, rfl, hp107, hq107⟩
      have lo_F107 : ∀ k, F107 k → w26.heap.size ≤ k := fun k hk => (hp107.lt k hk).1
      have dj110 : Dj F F107 := Dj.fresh (fun k hk => (hR.lt k hk).2) lo_F107
      have dj111 : Dj (Bl v) F107 := Dj.fresh (fun k hk => (hO18.lt k hk).2) lo_F107
      have dj112 : ¬ F107 b27 := fun hf => by have := lo_F107 _ hf; have := hB29.lt; omega
      have hR_old := hR
      have z_w108 := E109.size
      have hl := hl.keepG E109 (fun k hk => .inr (by have := hR_old.lt k hk; omega))
      have hO18 := hO18.keepG E109 hdj.symm
      have hB29 := hB29.keepG E109 dj30
      have hb := below_stepG hb E109 hb.size (fun k hk => (hR_old.lt k hk).1)
      have hp107 : (PostR sv 126 9) w108 w.heap.size p107 cap L F107 := hp107.mono (by omega)
      refine op_assign (ev_hit hN17 rfl) ?_
      refine reg_nil ?_
      refine hK106 _ _ ?_
      refine seq_any fun K113 hK113 => ?_
      refine one_reg ?_
      refine op_move (ev_base hN17 rfl s17_5) ?_
      refine op_fn (vs := [(ptr p 0)]) ok20 ⟨(ev_hit hN17 rfl), trivial⟩ (TakeR_s (by omega) hq107) ?_
      rintro _ w115 ⟨E116, rfl, F114, hp114, hN114⟩
      have bd117 := hO18.lt
      have bd118 := hB29.lt
      have bd119 := hp107.lt
      have hq107_old := hq107
      have z_w115 := E116.size
      have hl := hl.keepG E116 (fun k hk => .inr (by have := hq107_old.lt k hk; omega))
      have hO18 := hO18.keepG E116 hdj.symm
      have hB29 := hB29.keepG E116 dj30
      have hp107 := hp107.keepG E116 dj110.symm
      have hb := below_stepG hb E116 hb.size (fun k hk => (hq107_old.lt k hk).1)
      have dj120 : Dj (Bl v) F114 := Dj.stepF hN114 (fun k hk => (bd117 k hk).2) hdj.symm
      have dj121 : ¬ F114 b27 := ne_stepF hN114 bd118 dj30
      have dj122 : Dj F107 F114 := Dj.stepF hN114 (fun k hk => (bd119 k hk).2) dj110.symm
      refine reg_nil ?_
      refine hK113 _ _ ?_
      refine seq_any fun K123 hK123 => ?_
      refine one_reg ?_
      refine op_move (ev_base hN17 rfl s17_5) ?_
      refine op_fn (vs := [(ptr p 0), (Value.string (bs [115, 112, 111, 105, 108, 116]))]) ok18 ⟨(ev_hit hN17 rfl), ⟨rfl, trivial⟩⟩ (PutR_s [115, 112, 111, 105, 108, 116] (by omega) hp114) ?_
      rintro _ w125 ⟨E126, rfl, hp124⟩
      have hp114_old := hp114
      have z_w125 := E126.size
      have hl := hl.keepG E126 (fun k hk => .inr (by have := hp114_old.lt k hk; omega))
      have hO18 := hO18.keepG E126 dj120
      have hB29 := hB29.keepG E126 dj121
      have hp107 := hp107.keepG E126 dj122
      have hb := below_stepG hb E126 hb.size (fun k hk => (hp114_old.lt k hk).1)
      refine reg_nil ?_
      refine hK123 _ _ ?_
      refine one_reg ?_
      refine op_move (ev_hit hN17 rfl) ?_
      refine op_assign (ev_hit hN17 rfl) ?_
      refine reg_nil ?_
      refine hK33 _ _ ?_
      exact hJ31 _ _ _ hN17 hd17 ⟨v, p107, F107, L, (sl_base hN17 rfl s17_1), (sl_base hN17 rfl s17_6), (sl_base hN17 rfl s17_8), (sl_hit hN17 rfl), (sl_base hN17 rfl s17_7), dj111.symm, (by first | omega | (simp; omega)), hb, (by omega), hl, (hO18.cast (by first | rfl | (simp; done) | (simp; omega)) rfl), hp107⟩
   ·
    rintro a31 w31 hN31 hd31 ⟨v, p, F, L, s31_1, s31_6, s31_8, s31_5, s31_7, hdj, hL, hb, zl_w31, hl, hO32, hR⟩
    have z_w31 := hb.size
    refine seq_any fun K127 hK127 => ?_
    refine one_reg ?_
    refine op_move (ev_base hN31 rfl s31_5) ?_
    refine op_fn (vs := [(ptr p 0)]) ok22 ⟨(ev_hit hN31 rfl), trivial⟩ (AllR_s (by omega) hR) ?_
    rintro v128 w129 ⟨E130, hO128, hp128⟩
    have dj131 : DJ v128 v := fun k hk hg => by have q1 := (hO128.lt k hk).1; have q2 := (hO32.lt k hg).2; omega
    have dj132 : Dj F (Bl v128) := Dj.fresh (fun k hk => (hR.lt k hk).2) (fun k hk => (hO128.lt k hk).1)
    have hO128_m := hO128.mono (base' := w.heap.size) (by omega)
    have hR_old := hR
    have z_w129 := E130.size
    have hl := hl.keepG E130 (fun k hk => .inr (by have := hR_old.lt k hk; omega))
    have hO32 := hO32.keepG E130 hdj.symm
    have hb := below_stepG hb E130 hb.size (fun k hk => (hR_old.lt k hk).1)
    have hO128 := hO128_m
    refine op_assign (ev_hit hN31 rfl) ?_
    refine reg_nil ?_
    refine hK127 _ _ ?_
    refine seq_any fun K133 hK133 => ?_
    refine seq_any fun K134 hK134 => ?_
    refine one_reg ?_
    refine op_move (ev_base hN31 rfl s31_5) ?_
    refine op_fn (vs := [(ptr p 0)]) ok23 ⟨(ev_hit hN31 rfl), trivial⟩ (LenR_s (by omega) hp128) ?_
    rintro _ w136 ⟨E137, rfl⟩
    have E137 := grown_of_below E137
    have z_w136 := E137.size
    have hl := hl.keep0 E137
    have hO32 := hO32.keep0 E137
    have hO128 := hO128.keep0 E137
    have hp128 := hp128.keepG (Gr.of0 E137 NoB) (fun _ _ h => h)
    have hb := below_step0 hb E137 hb.size
    refine op_move (ev_base hN31 rfl s31_7) ?_
    refine op_len_rd Try.underlying26 (ev_hit hN31 rfl) hO32.rdw ?_
    refine op_neq (ev_hit hN31 rfl) (ev_hit hN31 rfl) (fun c128 => ?_) (fun c128 => ?_)
    · -- 128T
     exfalso; omega
    · -- 128F
     refine op_move (ev_hit hN31 rfl) ?_
     refine g_true (j := 5) (dj := 129) (b := false) rfl rfl rfl (ev_hit hN31 rfl) ?_
     refine op_move (ev_hit hN31 rfl) ?_
     refine g_true (j := 5) (dj := 129) (b := false) rfl rfl rfl (ev_hit hN31 rfl) ?_
     refine op_len_rd Try.underlying26 (ev_hit hN31 rfl) hO128.rdw ?_
     refine g_true (j := 5) (dj := 129) (b := false) rfl rfl rfl (ev_hit hN31 rfl) ?_
     refine op_move (ev_base hN31 rfl s31_7) ?_
     refine g_true (j := 5) (dj := 129) (b := false) rfl rfl rfl (ev_hit hN31 rfl) ?_
     refine op_len_rd Try.underlying26 (ev_hit hN31 rfl) hO32.rdw ?_
     refine g_true (j := 5) (dj := 129) (b := false) rfl rfl rfl (ev_hit hN31 rfl) ?_
     refine op_neq (ev_hit hN31 rfl) (ev_hit hN31 rfl) (fun c134 => ?_) (fun c134 => ?_)
     · -- 134T
      exfalso; omega
     · -- 134F
      refine op_pick_f (ev_hit hN31 rfl) (ev_hit hN31 rfl) ?_
      refine reg_nil ?_
      refine hK134 _ _ ?_
      refine wp_cond_false (ev_hit hN31 rfl) ?_
      refine wp_skip ?_
      refine hK133 _ _ ?_
      refine seq_any fun K138 hK138 => ?_
      refine one_reg ?_
      refine op_assign rfl ?_
      refine reg_nil ?_
      refine hK138 _ _ ?_
      refine wp_block ?_
      refine loop_m (fun mz_ az_ w' => ∃ (j : Nat), mz_ = L.length - j ∧ (az_.tmps.getD 1 undef = v0) ∧ (az_.tmps.getD 5 undef = (ptr p 0)) ∧ (az_.tmps.getD 6 undef = (Value.int .i64 ((cap : Nat) : Int))) ∧ (az_.tmps.getD 7 undef = v) ∧ (az_.tmps.getD 8 undef = (Value.int .i64 ((i : Nat) : Int))) ∧ (az_.tmps.getD 14 undef = v128) ∧ (az_.tmps.getD 15 undef = (Value.int .i64 ((j : Nat) : Int))) ∧ (j ≤ L.length) ∧ (Below w.heap.size w w') ∧ (w136.heap.size ≤ w'.heap.size) ∧ (RdC w' 0 w.heap.size 1 v0 l.length (l.map u8v)) ∧ (Own w' w.heap.size 9 1 v L.length (L.map sv)) ∧ (Own w' w.heap.size 9 1 v128 L.length (L.map sv)) ∧ ((PostR sv 126 9) w' w.heap.size p cap L F)) _ hN31 hd31 ⟨0, rfl, (sl_base hN31 rfl s31_1), (sl_base hN31 rfl s31_5), (sl_base hN31 rfl s31_6), (sl_base hN31 rfl s31_7), (sl_base hN31 rfl s31_8), (sl_hit hN31 rfl), (sl_hit hN31 rfl), (Nat.zero_le _), hb, (Nat.le_refl _), hl, hO32, hO128, hp128⟩ ?_
      rintro _ a139 w139 hN139 hd139 ⟨j, rfl, s139_1, s139_5, s139_6, s139_7, s139_8, s139_14, s139_15, hj, hb, zl_w139, hl, hO32, hO128, hp128⟩
      have z_w139 := hb.size
      refine seq_any fun K140 hK140 => ?_
      refine seq_any fun K141 hK141 => ?_
      refine one_reg ?_
      refine op_move (ev_base hN139 rfl s139_15) ?_
      refine op_move (ev_base hN139 rfl s139_14) ?_
      refine op_len_rd Try.underlying26 (ev_hit hN139 rfl) hO128.rdw ?_
      refine op_lss (ev_hit hN139 rfl) (ev_hit hN139 rfl) (fun c139 => ?_) (fun c139 => ?_)
      · -- 139T
       refine reg_nil ?_
       refine hK141 _ _ ?_
       refine wp_cond_true (ev_hit hN139 rfl) ?_
       refine wp_skip ?_
       refine hK140 _ _ ?_
       refine seq_any fun K142 hK142 => ?_
       refine wp_block ?_
       refine seq_any fun K143 hK143 => ?_
       refine reg_still mixed (by kernel_rfl) ?_
       intro w145 E144
       have z_w145 := E144.size
       have hl := hl.keep0 E144
       have hO32 := hO32.keep0 E144
       have hO128 := hO128.keep0 E144
       have hp128 := hp128.keepG (Gr.of0 E144 NoB) (fun _ _ h => h)
       have hb := below_step0 hb E144 hb.size
       refine st_step rfl (fun _ h9 => op_move (ev_base hN139 rfl s139_14) h9) ?_
       refine st_step rfl (fun _ h9 => op_move (ev_base hN139 rfl s139_15) h9) ?_
       refine st_index_rd slt26 (ev_hit hN139 rfl) hO128.rdw (ev_hit hN139 rfl) (by omega) (by omega) ?_
       intro b146 o147 h0b146 h1b146 hc148
       refine st_step rfl (fun _ h9 => op_load1 (v := (Value.string (bs (L.getD j [])))) one9 (ev_hit hN139 rfl) (by have := hc148 0 (Value.string (bs (L.getD j []))) (by decide) (el_sv (i := j) (by omega) (by omega)); simpa using this) h9) ?_
       refine st_step rfl (fun _ h9 => op_move (ev_base hN139 rfl s139_7) h9) ?_
       refine st_step rfl (fun _ h9 => op_move (ev_base hN139 rfl s139_15) h9) ?_
       refine st_index_rd slt26 (ev_hit hN139 rfl) hO32.rdw (ev_hit hN139 rfl) (by omega) (by omega) ?_
       intro b149 o150 h0b149 h1b149 hc151
       refine st_step rfl (fun _ h9 => op_load1 (v := (Value.string (bs (L.getD j [])))) one9 (ev_hit hN139 rfl) (by have := hc151 0 (Value.string (bs (L.getD j []))) (by decide) (el_sv (i := j) (by omega) (by omega)); simpa using this) h9) ?_
       refine st_step rfl (fun _ h9 => op_sneqb (b := (decide ((L.getD j []) ≠ (L.getD j [])))) (ev_hit hN139 rfl) (ev_hit hN139 rfl) rfl h9) ?_
       refine st_nil ?_
       refine hK143 _ _ ?_
       refine wp_cond_split (ev_hit hN139 rfl) (fun c150 => ?_) (fun c150 => ?_)
       · -- 150T
        have c150 := of_decide_eq_true c150
        exact absurd rfl c150
       · -- 150F
        have c150 := of_decide_eq_false c150
        refine wp_skip ?_
        refine hK142 _ _ ?_
        refine one_reg ?_
        refine op_move (ev_base hN139 rfl s139_15) ?_
        refine op_add (ev_hit hN139 rfl) rfl (add64 (by omega)) ?_
        refine op_assign (ev_hit hN139 rfl) ?_
        refine reg_nil ?_
        -- round 26F 35T 128F 134F 139T 150F
        exact loop_next _ hN139 hd139 ⟨(j + 1), rfl, (sl_base hN139 rfl s139_1), (sl_base hN139 rfl s139_5), (sl_base hN139 rfl s139_6), (sl_base hN139 rfl s139_7), (sl_base hN139 rfl s139_8), (sl_base hN139 rfl s139_14), (sl_hit hN139 rfl).trans (congrArg (Value.int .i64) (by omega)), (by omega), hb, (by omega), hl, hO32, hO128, hp128⟩ (by omega)
      · -- 139F
       refine reg_nil ?_
       refine hK141 _ _ ?_
       refine wp_cond_false (ev_hit hN139 rfl) ?_
       refine wp_exit (then_exit (then_exit (blk_hit ?_)))
       refine hK21 _ _ ?_
       refine one_reg ?_
       refine op_move (ev_base hN139 rfl s139_8) ?_
       refine op_add (ev_hit hN139 rfl) rfl (add64 (by omega)) ?_
       refine op_assign (ev_hit hN139 rfl) ?_
       refine reg_nil ?_
       -- round 26F 35T 128F 134F 139F
       exact loop_next _ hN139 hd139 ⟨(i + 1), v, p, F, L, rfl, (sl_base hN139 rfl s139_1), (sl_base hN139 rfl s139_6), (sl_hit hN139 rfl).trans (congrArg (Value.int .i64) (by omega)), (sl_base hN139 rfl s139_5), (sl_base hN139 rfl s139_7), (by omega), (by omega), hdj, hb, (by omega), hl, hp128, hO32⟩ (by omega)
  · -- 35F
   refine reg_nil ?_
   refine hK20 _ _ ?_
   refine wp_cond_false (ev_hit hN17 rfl) ?_
   refine wp_exit (then_exit (then_exit (blk_hit ?_)))
   refine hK15 _ _ ?_
   refine seq_any fun K152 hK152 => ?_
   refine one_reg ?_
   refine op_assign rfl ?_
   refine reg_nil ?_
   refine hK152 _ _ ?_
   refine seq_any fun K153 hK153 => ?_
   refine one_reg ?_
   refine op_build (pv := []) (v := (Value.agg #[(Value.chan none), (Value.slice none 0 0)])) trivial (by kernel_rfl) ?_
   refine op_box (cs := [(Value.chan none), (Value.slice none 0 0)]) (ev_hit hN17 rfl) rfl ?_
   intro w154 b155 lo_b155 hi_b155 hB157 E156
   have dj158 : ¬ F b155 := fun hf => by have := (hR.lt _ hf).2; omega
   have z_w154 := E156.size
   have hl := hl.keep0 E156
   have hR := hR.keepG (Gr.of0 E156 NoB) (fun _ _ h => h)
   have hO18 := hO18.keep0 E156
   have hb := below_step0 hb E156 hb.size
   refine op_assign (ev_hit hN17 rfl) ?_
   refine reg_nil ?_
   refine hK153 _ _ ?_
   refine seq_any fun K159 hK159 => ?_
   refine one_reg ?_
   refine op_move (ev_hit hN17 rfl) ?_
   refine op_fn (vs := [(Value.pointer none)]) ok24 ⟨(ev_hit hN17 rfl), trivial⟩ (Head0_i _) ?_
   rintro _ w160 ⟨E161, rfl⟩
   have E161 := grown_of_below E161
   have z_w160 := E161.size
   have hl := hl.keep0 E161
   have hR := hR.keepG (Gr.of0 E161 NoB) (fun _ _ h => h)
   have hO18 := hO18.keep0 E161
   have hB157 := hB157.keep0 E161
   have hb := below_step0 hb E161 hb.size
   refine op_move (ev_hit hN17 rfl) ?_
   refine op_extract (ev_hit hN17 rfl) rfl ?_
   refine op_extract (ev_hit hN17 rfl) rfl ?_
   refine op_assign (ev_hit hN17 rfl) ?_
   refine op_assign (ev_hit hN17 rfl) ?_
   refine reg_nil ?_
   refine hK159 _ _ ?_
   refine seq_any fun K162 hK162 => ?_
   refine one_reg ?_
   refine op_move (ev_hit hN17 rfl) ?_
   refine op_fn (vs := [(Value.pointer none)]) ok25 ⟨(ev_hit hN17 rfl), trivial⟩ (Take0_i _) ?_
   rintro _ w163 ⟨E164, rfl⟩
   have E164 := grown_of_below E164
   have z_w163 := E164.size
   have hl := hl.keep0 E164
   have hR := hR.keepG (Gr.of0 E164 NoB) (fun _ _ h => h)
   have hO18 := hO18.keep0 E164
   have hB157 := hB157.keep0 E164
   have hb := below_step0 hb E164 hb.size
   refine op_move (ev_hit hN17 rfl) ?_
   refine op_extract (ev_hit hN17 rfl) rfl ?_
   refine op_extract (ev_hit hN17 rfl) rfl ?_
   refine op_assign (ev_hit hN17 rfl) ?_
   refine op_assign (ev_hit hN17 rfl) ?_
   refine reg_nil ?_
   refine hK162 _ _ ?_
   refine seq_any fun K165 hK165 => ?_
   refine one_reg ?_
   refine op_move (ev_hit hN17 rfl) ?_
   refine op_not (ev_hit hN17 rfl) ?_
   refine op_move (ev_hit hN17 rfl) ?_
   refine g_true (j := 2) (dj := 165) (b := true) rfl rfl rfl (ev_hit hN17 rfl) ?_
   refine op_move (ev_hit hN17 rfl) ?_
   refine g_true (j := 2) (dj := 165) (b := true) rfl rfl rfl (ev_hit hN17 rfl) ?_
   refine op_not (ev_hit hN17 rfl) ?_
   refine op_pick_t (ev_hit hN17 rfl) (ev_hit hN17 rfl) ?_
   refine op_move (ev_hit hN17 rfl) ?_
   refine g_true (j := 6) (dj := 169) (b := true) rfl rfl rfl (ev_hit hN17 rfl) ?_
   refine op_move (ev_hit hN17 rfl) ?_
   refine g_true (j := 6) (dj := 169) (b := true) rfl rfl rfl (ev_hit hN17 rfl) ?_
   refine op_fn (vs := [(Value.pointer none), (Value.int .i64 1)]) ok26 ⟨(ev_hit hN17 rfl), ⟨rfl, trivial⟩⟩ (Put0_i 1 _) ?_
   rintro _ w166 ⟨E167, rfl⟩
   have E167 := grown_of_below E167
   have z_w166 := E167.size
   have hl := hl.keep0 E167
   have hR := hR.keepG (Gr.of0 E167 NoB) (fun _ _ h => h)
   have hO18 := hO18.keep0 E167
   have hB157 := hB157.keep0 E167
   have hb := below_step0 hb E167 hb.size
   refine g_true (j := 6) (dj := 169) (b := true) rfl rfl rfl (ev_hit hN17 rfl) ?_
   refine op_not (ev_hit hN17 rfl) ?_
   refine op_pick_t (ev_hit hN17 rfl) (ev_hit hN17 rfl) ?_
   refine op_move (ev_hit hN17 rfl) ?_
   refine g_true (j := 11) (dj := 174) (b := true) rfl rfl rfl (ev_hit hN17 rfl) ?_
   refine op_move (ev_hit hN17 rfl) ?_
   refine g_true (j := 11) (dj := 174) (b := true) rfl rfl rfl (ev_hit hN17 rfl) ?_
   refine op_fn (vs := [(Value.pointer none)]) ok27 ⟨(ev_hit hN17 rfl), trivial⟩ (Len0_i _) ?_
   rintro _ w168 ⟨E169, rfl⟩
   have E169 := grown_of_below E169
   have z_w168 := E169.size
   have hl := hl.keep0 E169
   have hR := hR.keepG (Gr.of0 E169 NoB) (fun _ _ h => h)
   have hO18 := hO18.keep0 E169
   have hB157 := hB157.keep0 E169
   have hb := below_step0 hb E169 hb.size
   refine g_true (j := 11) (dj := 174) (b := true) rfl rfl rfl (ev_hit hN17 rfl) ?_
   refine op_move (ev_hit hN17 rfl) ?_
   refine g_true (j := 11) (dj := 174) (b := true) rfl rfl rfl (ev_hit hN17 rfl) ?_
   refine op_fn (vs := [(Value.pointer none)]) ok28 ⟨(ev_hit hN17 rfl), trivial⟩ (All0_i _) ?_
   rintro _ w170 ⟨E171, rfl⟩
   have E171 := grown_of_below E171
   have z_w170 := E171.size
   have hl := hl.keep0 E171
   have hR := hR.keepG (Gr.of0 E171 NoB) (fun _ _ h => h)
   have hO18 := hO18.keep0 E171
   have hB157 := hB157.keep0 E171
   have hb := below_step0 hb E171 hb.size
   refine g_true (j := 11) (dj := 174) (b := true) rfl rfl rfl (ev_hit hN17 rfl) ?_
   refine op_len_rd Try.underlying35 (ev_hit hN17 rfl) (RdC.nil _ 0 0 1) ?_
   refine g_true (j := 11) (dj := 174) (b := true) rfl rfl rfl (ev_hit hN17 rfl) ?_
   refine op_add (r := 0) (ev_hit hN17 rfl) (ev_hit hN17 rfl) (by decide) ?_
   refine g_true (j := 11) (dj := 174) (b := true) rfl rfl rfl (ev_hit hN17 rfl) ?_
   refine op_bin (v := .bool true) (ev_hit hN17 rfl) rfl (by rw [binOp_eql]; rfl) ?_
   refine op_pick_t (ev_hit hN17 rfl) (ev_hit hN17 rfl) ?_
   refine op_move (ev_hit hN17 rfl) ?_
   refine g_true (j := 20) (dj := 183) (b := true) rfl rfl rfl (ev_hit hN17 rfl) ?_
   refine op_move (ev_hit hN17 rfl) ?_
   refine g_true (j := 20) (dj := 183) (b := true) rfl rfl rfl (ev_hit hN17 rfl) ?_
   refine op_fn (vs := [(Value.pointer none)]) ok29 ⟨(ev_hit hN17 rfl), trivial⟩ (Copy0_i _) ?_
   rintro _ w172 ⟨E173, rfl⟩
   have E173 := grown_of_below E173
   have z_w172 := E173.size
   have hl := hl.keep0 E173
   have hR := hR.keepG (Gr.of0 E173 NoB) (fun _ _ h => h)
   have hO18 := hO18.keep0 E173
   have hB157 := hB157.keep0 E173
   have hb := below_step0 hb E173 hb.size
   refine g_true (j := 20) (dj := 183) (b := true) rfl rfl rfl (ev_hit hN17 rfl) ?_
   refine op_peq_none ptrt33 (ev_hit hN17 rfl) rfl ?_
   refine op_pick_t (ev_hit hN17 rfl) (ev_hit hN17 rfl) ?_
   refine op_move (ev_hit hN17 rfl) ?_
   refine g_true (j := 25) (dj := 188) (b := true) rfl rfl rfl (ev_hit hN17 rfl) ?_
   refine op_move (ev_hit hN17 rfl) ?_
   refine g_true (j := 25) (dj := 188) (b := true) rfl rfl rfl (ev_hit hN17 rfl) ?_
   refine op_fn (vs := [(ptr b155 0), (Value.int .i64 1)]) ok26 ⟨(ev_hit hN17 rfl), ⟨rfl, trivial⟩⟩ (PutZ_i 1 _ _ hB157) ?_
   rintro _ w174 ⟨E175, rfl⟩
   have E175 := grown_of_below E175
   have z_w174 := E175.size
   have hl := hl.keep0 E175
   have hR := hR.keepG (Gr.of0 E175 NoB) (fun _ _ h => h)
   have hO18 := hO18.keep0 E175
   have hB157 := hB157.keep0 E175
   have hb := below_step0 hb E175 hb.size
   refine g_true (j := 25) (dj := 188) (b := true) rfl rfl rfl (ev_hit hN17 rfl) ?_
   refine op_not (ev_hit hN17 rfl) ?_
   refine op_pick_t (ev_hit hN17 rfl) (ev_hit hN17 rfl) ?_
   refine op_move (ev_hit hN17 rfl) ?_
   refine g_true (j := 30) (dj := 193) (b := true) rfl rfl rfl (ev_hit hN17 rfl) ?_
   refine op_move (ev_hit hN17 rfl) ?_
   refine g_true (j := 30) (dj := 193) (b := true) rfl rfl rfl (ev_hit hN17 rfl) ?_
   refine op_fn (vs := [(ptr b155 0)]) ok27 ⟨(ev_hit hN17 rfl), trivial⟩ (LenZ_i _ _ hB157) ?_
   rintro _ w176 ⟨E177, rfl⟩
   have E177 := grown_of_below E177
   have z_w176 := E177.size
   have hl := hl.keep0 E177
   have hR := hR.keepG (Gr.of0 E177 NoB) (fun _ _ h => h)
   have hO18 := hO18.keep0 E177
   have hB157 := hB157.keep0 E177
   have hb := below_step0 hb E177 hb.size
   refine g_true (j := 30) (dj := 193) (b := true) rfl rfl rfl (ev_hit hN17 rfl) ?_
   refine op_bin (v := .bool true) (ev_hit hN17 rfl) rfl (by rw [binOp_eql]; rfl) ?_
   refine op_pick_t (ev_hit hN17 rfl) (ev_hit hN17 rfl) ?_
   refine op_assign (ev_hit hN17 rfl) ?_
   refine reg_nil ?_
   refine hK165 _ _ ?_
   refine wp_ret ?_
   refine ret1 rfl hd17 (ev_hit hN17 rfl) ⟨_, rfl, ?_⟩
   -- path 26F 35F
   exact ⟨hb, rfl⟩

end Go.Proofs.Ytmhdbphpmgjpcaa

/- What the arguments of the laws are, told by their types. -/
namespace Go.Proofs.Ytmhdbphpmgjpcaa
open Go.Gx Go.RowKit
theorem rd_le {w : World} {L B sz n : Nat} {v : Value} {cs : List Value} (h : RdC w L B sz v n cs) : n ≤ 9223372036854775807 := by obtain ⟨_, _, _, _, hq, hm, _⟩ := h; exact Nat.le_trans hq hm
theorem cells5 : Try.prog.cellsOf 5 = 1 := by kernel_rfl
theorem flat_u8v (l : List UInt8) : l.flatMap (fun c => [u8v c]) = l.map u8v := by induction l with | nil => rfl | cons c l ih => simp [ih]
theorem dec22 {H : Type} {enc : TypeId × Value → H} {w : World} {base : Nat} {spare : Nat → Bool} {held : Bool} : Dec enc Try.prog w base spare held 22 (fun p : Value × List UInt8 => [p.1]) (fun p => RdC w 0 w.heap.size 1 p.1 p.2.length (p.2.map u8v)) :=
  (Dec.slice Try.underlying22 (by rw [cells5]; decide) (Dec.u8 Try.underlying5) (fun _ _ => by rw [cells5]; rfl)).map fun p hp => ⟨p, rfl, by have hq := hp.1; rwa [cells5, flat_u8v] at hq⟩
end Go.Proofs.Ytmhdbphpmgjpcaa
