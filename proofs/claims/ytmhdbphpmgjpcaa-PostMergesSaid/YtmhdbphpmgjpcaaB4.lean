/- Walks, written by a program: what each function of the translation hands back. -/
import Derived.Test.YtmhdbphpmgjpcaaProg
import Derived.KernelRfl
import Derived.Test.YtmhdbphpmgjpcaaB3
namespace Go.Proofs.Ytmhdbphpmgjpcaa
open Go.Gx Go.RowKit
attribute [local irreducible] wpList wpStill Code.wp Calls

theorem LenZ_i (z : Nat) (w : World) (hz : Bx w z 37 [.chan none, .slice none 0 0]) : Ret Try.prog 27 #[(ptr z 0)] w (fun v' w' => Below w.heap.size w w' ∧ v' = .int .i64 0) := by
 have hb := Below.refl w.heap.size w
 refine enter (N := 16) Try.func27 rfl rfl (by simp) fun a0 hN hd hA => ?_
 have s0 : a0.tmps.getD 0 undef = (ptr z 0) := hA 0 (by simp)
 clear hA
 refine seq_any fun K1 hK1 => ?_
 refine one_reg ?_
 refine op_assign rfl ?_
 refine reg_nil ?_
 refine hK1 _ _ ?_
 refine seq_any fun K2 hK2 => ?_
 refine seq_any fun K3 hK3 => ?_
 refine one_reg ?_
 refine op_move (ev_base hN rfl s0) ?_
 refine op_peq_some ptrt33 (ev_hit hN rfl) rfl ?_
 refine reg_nil ?_
 refine hK3 _ _ ?_
 refine wp_cond_false (ev_hit hN rfl) ?_
 refine wp_skip ?_
 refine hK2 _ _ ?_
 refine seq_any fun K4 hK4 => ?_
 refine reg_still mixed (by kernel_rfl) ?_
 intro w6 E5
 have z_w6 := E5.size
 have hz := hz.keep0 E5
 have hb := below_step0 hb E5 hb.size
 refine st_step rfl (fun _ h9 => op_move (ev_base hN rfl s0) h9) ?_
 refine st_step rfl (fun _ h9 => op_nil (ev_hit hN rfl) h9) ?_
 refine st_step rfl (fun _ h9 => op_field fld37_1 (ev_hit hN rfl) h9) ?_
 refine st_step rfl (fun _ h9 => op_load1 (v := (Value.slice none 0 0)) one35 (ev_hit hN rfl) (hz.cell rfl) h9) ?_
 refine st_step rfl (fun _ h9 => op_len_rd Try.underlying35 (ev_hit hN rfl) (RdC.nil _ 0 0 1) h9) ?_
 refine st_step rfl (fun _ h9 => op_move (ev_base hN rfl s0) h9) ?_
 refine st_step rfl (fun _ h9 => op_nil (ev_hit hN rfl) h9) ?_
 refine st_step rfl (fun _ h9 => op_field fld37_0 (ev_hit hN rfl) h9) ?_
 refine st_step rfl (fun _ h9 => op_load1 (v := (Value.chan none)) one34 (ev_hit hN rfl) (hz.cell rfl) h9) ?_
 refine st_step rfl (fun _ h9 => op_len_nilchan Try.underlying34 (ev_hit hN rfl) h9) ?_
 refine st_step rfl (fun _ h9 => op_add (r := 0) (ev_hit hN rfl) (ev_hit hN rfl) (by decide) h9) ?_
 refine st_step rfl (fun _ h9 => op_assign (ev_hit hN rfl) h9) ?_
 refine st_nil ?_
 refine hK4 _ _ ?_
 refine wp_ret ?_
 refine ret1 rfl hd (ev_hit hN rfl) ⟨_, rfl, ?_⟩
 -- path
 exact ⟨hb, rfl⟩

theorem PutZ_i (x : Int) (z : Nat) (w : World) (hz : Bx w z 37 [.chan none, .slice none 0 0]) : Ret Try.prog 26 #[(ptr z 0), (Value.int .i64 x)] w (fun v' w' => Below w.heap.size w w' ∧ v' = .bool false) := by
 have hb := Below.refl w.heap.size w
 refine enter (N := 25) Try.func26 rfl rfl (by simp) fun a0 hN hd hA => ?_
 have s0 : a0.tmps.getD 0 undef = (ptr z 0) := hA 0 (by simp)
 have s1 : a0.tmps.getD 1 undef = (Value.int .i64 x) := hA 1 (by simp)
 clear hA
 refine seq_any fun K7 hK7 => ?_
 refine one_reg ?_
 refine op_assign rfl ?_
 refine reg_nil ?_
 refine hK7 _ _ ?_
 refine seq_any fun K8 hK8 => ?_
 refine seq_any fun K9 hK9 => ?_
 refine reg_split (hd := [_, _, _, _, _, _, _, _, _]) (tl := _) 9 mixed (by kernel_rfl) rfl rfl ?_
 refine any_quiet (Φ := phiL [(fun uz _ => uz = (ptr z 0)), (fun uz _ => uz = (Value.bool false)), (fun uz _ => uz = (Value.bool false)), (fun uz _ => uz = (ptr z 0)), (fun uz _ => uz = (Value.int .i64 0)), (fun uz _ => uz = (ptr z 0)), (fun uz _ => uz = (ptr z 0)), (fun uz _ => uz = (ptr z 0)), (fun uz _ => uz = (Value.chan none))]) (by kernel_rfl) (by kernel_rfl) (by kernel_rfl) hN (StL.get (StL.eq (StL.eq (StL.eq (StL.eq (StL.eq (StL.eq (StL.eq (StL.eq (StL.eq (StL.nil _))))))))))) (ObL.get (s := 9) (ObL.cons ?_ (ObL.cons ?_ (ObL.cons ?_ (ObL.cons ?_ (ObL.cons ?_ (ObL.cons ?_ (ObL.cons ?_ (ObL.cons ?_ (ObL.cons ?_ (ObL.nil)))))))))) rfl) ?_
 ·
  intro aA wA hNA hRA hbsA hdpA
  have qA_0 := (hbsA 0 rfl).trans (sl_base hN rfl s0)
  refine op_move (ev_base hNA rfl qA_0) ?_
  exact obN_end rfl rfl (grown_refl _ _)
 ·
  intro aA wA hNA hRA hbsA hdpA
  have qA_5 : Sl aA 5 (ptr z 0) := hdpA 0 _ 5 (by kernel_rfl) rfl rfl
  refine op_peq_some ptrt33 (ev_base hNA rfl qA_5) rfl ?_
  exact obN_end rfl rfl (grown_refl _ _)
 ·
  intro aA wA hNA hRA hbsA hdpA
  have qA_6 : Sl aA 6 (Value.bool false) := hdpA 1 _ 6 (by kernel_rfl) rfl rfl
  refine op_move (ev_base hNA rfl qA_6) ?_
  exact obN_end rfl rfl (grown_refl _ _)
 ·
  intro aA wA hNA hRA hbsA hdpA
  have qA_0 := (hbsA 0 rfl).trans (sl_base hN rfl s0)
  have qA_7 : Sl aA 7 (Value.bool false) := hdpA 2 _ 7 (by kernel_rfl) rfl rfl
  refine g_true (j := 2) (dj := 7) (b := false) rfl rfl rfl (ev_base hNA rfl qA_7) ?_
  refine op_move (ev_base hNA rfl qA_0) ?_
  exact obN_end rfl rfl (grown_refl _ _)
 ·
  intro aA wA hNA hRA hbsA hdpA
  have hRA : w.grownBy wA none := hRA
  have z_wA := hRA.size
  have hz := hz.keep0 hRA
  have hb := below_step0 hb hRA hb.size
  have qA_8 : Sl aA 8 (ptr z 0) := hdpA 3 _ 8 (by kernel_rfl) rfl rfl
  have qA_7 : Sl aA 7 (Value.bool false) := hdpA 2 _ 7 (by kernel_rfl) rfl rfl
  clear hbsA hdpA
  refine g_true (j := 2) (dj := 7) (b := false) rfl rfl rfl (ev_base hNA rfl qA_7) ?_
  refine op_fn (vs := [(ptr z 0)]) ok27 ⟨(ev_base hNA rfl qA_8), trivial⟩ (LenZ_i _ _ hz) ?_
  rintro _ w10 ⟨E11, rfl⟩
  have E11 := grown_of_below E11
  have z_w10 := E11.size
  have hz := hz.keep0 E11
  have hb := below_step0 hb E11 hb.size
  exact obN_end rfl rfl (E11)
 ·
  intro aA wA hNA hRA hbsA hdpA
  have qA_0 := (hbsA 0 rfl).trans (sl_base hN rfl s0)
  have qA_7 : Sl aA 7 (Value.bool false) := hdpA 2 _ 7 (by kernel_rfl) rfl rfl
  refine g_true (j := 2) (dj := 7) (b := false) rfl rfl rfl (ev_base hNA rfl qA_7) ?_
  refine op_move (ev_base hNA rfl qA_0) ?_
  exact obN_end rfl rfl (grown_refl _ _)
 ·
  intro aA wA hNA hRA hbsA hdpA
  have qA_10 : Sl aA 10 (ptr z 0) := hdpA 5 _ 10 (by kernel_rfl) rfl rfl
  have qA_7 : Sl aA 7 (Value.bool false) := hdpA 2 _ 7 (by kernel_rfl) rfl rfl
  refine g_true (j := 2) (dj := 7) (b := false) rfl rfl rfl (ev_base hNA rfl qA_7) ?_
  refine op_nil (ev_base hNA rfl qA_10) ?_
  exact obN_end rfl rfl (grown_refl _ _)
 ·
  intro aA wA hNA hRA hbsA hdpA
  have qA_11 : Sl aA 11 (ptr z 0) := hdpA 6 _ 11 (by kernel_rfl) rfl rfl
  have qA_7 : Sl aA 7 (Value.bool false) := hdpA 2 _ 7 (by kernel_rfl) rfl rfl
  refine g_true (j := 2) (dj := 7) (b := false) rfl rfl rfl (ev_base hNA rfl qA_7) ?_
  refine op_field fld37_0 (ev_base hNA rfl qA_11) ?_
  exact obN_end rfl rfl (grown_refl _ _)
 ·
  intro aA wA hNA hRA hbsA hdpA
  have hRA : w.grownBy wA none := hRA
  have z_wA := hRA.size
  have hz := hz.keep0 hRA
  have hb := below_step0 hb hRA hb.size
  have qA_12 : Sl aA 12 (ptr z 0) := hdpA 7 _ 12 (by kernel_rfl) rfl rfl
  have qA_7 : Sl aA 7 (Value.bool false) := hdpA 2 _ 7 (by kernel_rfl) rfl rfl
  clear hbsA hdpA
  refine g_true (j := 2) (dj := 7) (b := false) rfl rfl rfl (ev_base hNA rfl qA_7) ?_
  refine op_load1 (v := (Value.chan none)) one34 (ev_base hNA rfl qA_12) (hz.cell rfl) ?_
  exact obN_end rfl rfl (grown_refl _ _)
 ·
  intro a12 w12 hN12 hd12 hbs12 hph12 E12
  have hd12 := hd12.trans hd
  have s12_0 := (hbs12 0 rfl).trans (sl_base hN rfl s0)
  have s12_1 := (hbs12 1 rfl).trans (sl_base hN rfl s1)
  have s12_4 := (hbs12 4 rfl).trans (sl_hit hN rfl)
  have s12_7 : Sl a12 7 (Value.bool false) := hph12 2 _ 7 rfl rfl
  have s12_9 : Sl a12 9 (Value.int .i64 0) := hph12 4 _ 9 rfl rfl
  have s12_13 : Sl a12 13 (Value.chan none) := hph12 8 _ 13 rfl rfl
  clear hbs12 hph12
  have E12 : w.grownBy w12 none := E12
  have z_w12 := E12.size
  have hz := hz.keep0 E12
  have hb := below_step0 hb E12 hb.size
  refine split_end ?_
  refine from_seq (tl := [_, _, _]) (by decide) (by kernel_rfl) rfl ?_
  refine g_true (j := 2) (dj := 7) (b := false) rfl rfl rfl (ev_base hN12 rfl s12_7) ?_
  refine op_cap_nilchan Try.underlying34 (ev_base hN12 rfl s12_13) ?_
  refine g_true (j := 2) (dj := 7) (b := false) rfl rfl rfl (ev_base hN12 rfl s12_7) ?_
  refine op_bin (v := .bool true) (ev_base hN12 rfl s12_9) (ev_hit hN12 rfl) (by rw [binOp_geq]; rfl) ?_
  refine op_pick_f (ev_base hN12 rfl s12_7) (ev_hit hN12 rfl) ?_
  refine reg_nil ?_
  refine hK9 _ _ ?_
  refine wp_cond_true (ev_hit hN12 rfl) ?_
  refine seq_any fun K13 hK13 => ?_
  refine one_reg ?_
  refine op_assign rfl ?_
  refine reg_nil ?_
  refine hK13 _ _ ?_
  refine wp_ret (then_ret ( ?_))
  refine ret1 rfl hd12 (ev_hit hN12 rfl) ⟨_, rfl, ?_⟩
  -- path
  exact ⟨hb, rfl⟩

theorem begun20_ret (w : World) : Ret Try.prog 16 #[] w (fun v' w' => Below w.heap.size w w' ∧ v' = .bool true) := by
 have hb := Below.refl w.heap.size w
 refine enter (N := 53) Try.func16 rfl rfl (by simp) fun a0 hN hd hA => ?_
 clear hA
 refine seq_any fun K14 hK14 => ?_
 refine one_reg ?_
 refine op_assign rfl ?_
 refine reg_nil ?_
 refine hK14 _ _ ?_
 refine seq_any fun K15 hK15 => ?_
 refine one_reg ?_
 refine op_fn (vs := [(Value.int .i64 2)]) ok71 ⟨rfl, trivial⟩ (NewR_i 2 _ (by omega)) ?_
 rintro _ w17 ⟨E18, p16, F16, rfl, hp16⟩
 have lo_F16 : ∀ k, F16 k → w.heap.size ≤ k := fun k hk => (hp16.lt k hk).1
 have E18 := grown_of_below E18
 have z_w17 := E18.size
 have hb := below_step0 hb E18 hb.size
 have hp16 : (PostR (Value.int .i64) 37 3) w17 w.heap.size p16 2 ([] : List Int) F16 := hp16.mono (by omega)
 refine op_assign (ev_hit hN rfl) ?_
 refine reg_nil ?_
 refine hK15 _ _ ?_
 refine seq_any fun K19 hK19 => ?_
 refine one_reg ?_
 refine op_move (ev_hit hN rfl) ?_
 refine op_fn (vs := [(ptr p16 0), (Value.int .i64 1)]) ok26 ⟨(ev_hit hN rfl), ⟨rfl, trivial⟩⟩ (PutR_i 1 (by omega) hp16) ?_
 rintro _ w21 ⟨E22, rfl, hp20⟩
 have hp16_old := hp16
 have z_w21 := E22.size
 have hb := below_stepG hb E22 hb.size (fun k hk => (hp16_old.lt k hk).1)
 have hp20 : (PostR (Value.int .i64) 37 3) w21 w.heap.size p16 2 ([1] : List Int) F16 := hp20
 refine op_move (ev_hit hN rfl) ?_
 refine op_fn (vs := [(ptr p16 0), (Value.int .i64 2)]) ok26 ⟨(ev_hit hN rfl), ⟨rfl, trivial⟩⟩ (PutR_i 2 (by omega) hp20) ?_
 rintro _ w24 ⟨E25, rfl, hp23⟩
 have hp20_old := hp20
 have z_w24 := E25.size
 have hb := below_stepG hb E25 hb.size (fun k hk => (hp20_old.lt k hk).1)
 have hp23 : (PostR (Value.int .i64) 37 3) w24 w.heap.size p16 2 ([1, 2] : List Int) F16 := hp23
 refine op_move (ev_hit hN rfl) ?_
 refine op_fn (vs := [(ptr p16 0), (Value.int .i64 3)]) ok26 ⟨(ev_hit hN rfl), ⟨rfl, trivial⟩⟩ (PutR_i 3 (by omega) hp23) ?_
 rintro _ w27 ⟨E28, rfl, hp26⟩
 have hp23_old := hp23
 have z_w27 := E28.size
 have hb := below_stepG hb E28 hb.size (fun k hk => (hp23_old.lt k hk).1)
 have hp26 : (PostR (Value.int .i64) 37 3) w27 w.heap.size p16 2 ([1, 2] : List Int) F16 := hp26
 refine op_assign (ev_hit hN rfl) ?_
 refine op_assign (ev_hit hN rfl) ?_
 refine op_assign (ev_hit hN rfl) ?_
 refine reg_nil ?_
 refine hK19 _ _ ?_
 refine seq_any fun K29 hK29 => ?_
 refine one_reg ?_
 refine op_move (ev_hit hN rfl) ?_
 refine op_fn (vs := [(ptr p16 0)]) ok24 ⟨(ev_hit hN rfl), trivial⟩ (HeadR_i (by omega) hp26) ?_
 rintro _ w31 ⟨E32, rfl, F30, hp30, hN30⟩
 have hp26_old := hp26
 have z_w31 := E32.size
 have hb := below_stepG hb E32 hb.size (fun k hk => (hp26_old.lt k hk).1)
 have hp30 : (PostR (Value.int .i64) 37 3) w31 w.heap.size p16 2 ([1, 2] : List Int) F30 := hp30
 refine op_move (ev_hit hN rfl) ?_
 refine op_extract (ev_hit hN rfl) rfl ?_
 refine op_extract (ev_hit hN rfl) rfl ?_
 refine op_assign (ev_hit hN rfl) ?_
 refine op_assign (ev_hit hN rfl) ?_
 refine reg_nil ?_
 refine hK29 _ _ ?_
 refine seq_any fun K33 hK33 => ?_
 refine one_reg ?_
 refine op_move (ev_hit hN rfl) ?_
 refine op_fn (vs := [(ptr p16 0)]) ok25 ⟨(ev_hit hN rfl), trivial⟩ (TakeR_i (by omega) hp30) ?_
 rintro _ w35 ⟨E36, rfl, F34, hp34, hN34⟩
 have hp30_old := hp30
 have z_w35 := E36.size
 have hb := below_stepG hb E36 hb.size (fun k hk => (hp30_old.lt k hk).1)
 have hp34 : (PostR (Value.int .i64) 37 3) w35 w.heap.size p16 2 ([2] : List Int) F34 := hp34
 refine op_move (ev_hit hN rfl) ?_
 refine op_extract (ev_hit hN rfl) rfl ?_
 refine op_extract (ev_hit hN rfl) rfl ?_
 refine op_assign (ev_hit hN rfl) ?_
 refine op_assign (ev_hit hN rfl) ?_
 refine reg_nil ?_
 refine hK33 _ _ ?_
 refine seq_any fun K37 hK37 => ?_
 refine one_reg ?_
 refine op_move (ev_hit hN rfl) ?_
 refine op_move (ev_hit hN rfl) ?_
 refine g_true (j := 1) (dj := 27) (b := true) rfl rfl rfl (ev_hit hN rfl) ?_
 refine op_move (ev_hit hN rfl) ?_
 refine op_pick_t (ev_hit hN rfl) (ev_hit hN rfl) ?_
 refine op_move (ev_hit hN rfl) ?_
 refine g_true (j := 4) (dj := 30) (b := true) rfl rfl rfl (ev_hit hN rfl) ?_
 refine op_move (ev_hit hN rfl) ?_
 refine g_true (j := 4) (dj := 30) (b := true) rfl rfl rfl (ev_hit hN rfl) ?_
 refine op_not (ev_hit hN rfl) ?_
 refine op_pick_t (ev_hit hN rfl) (ev_hit hN rfl) ?_
 refine op_move (ev_hit hN rfl) ?_
 refine g_true (j := 8) (dj := 34) (b := true) rfl rfl rfl (ev_hit hN rfl) ?_
 refine op_move (ev_hit hN rfl) ?_
 refine op_pick_t (ev_hit hN rfl) (ev_hit hN rfl) ?_
 refine op_move (ev_hit hN rfl) ?_
 refine g_true (j := 11) (dj := 37) (b := true) rfl rfl rfl (ev_hit hN rfl) ?_
 refine op_move (ev_hit hN rfl) ?_
 refine g_true (j := 11) (dj := 37) (b := true) rfl rfl rfl (ev_hit hN rfl) ?_
 refine op_bin (v := .bool true) (ev_hit hN rfl) rfl (by rw [binOp_eql]; rfl) ?_
 refine op_pick_t (ev_hit hN rfl) (ev_hit hN rfl) ?_
 refine op_move (ev_hit hN rfl) ?_
 refine g_true (j := 15) (dj := 41) (b := true) rfl rfl rfl (ev_hit hN rfl) ?_
 refine op_move (ev_hit hN rfl) ?_
 refine op_pick_t (ev_hit hN rfl) (ev_hit hN rfl) ?_
 refine op_move (ev_hit hN rfl) ?_
 refine g_true (j := 18) (dj := 44) (b := true) rfl rfl rfl (ev_hit hN rfl) ?_
 refine op_move (ev_hit hN rfl) ?_
 refine g_true (j := 18) (dj := 44) (b := true) rfl rfl rfl (ev_hit hN rfl) ?_
 refine op_bin (v := .bool true) (ev_hit hN rfl) rfl (by rw [binOp_eql]; rfl) ?_
 refine op_pick_t (ev_hit hN rfl) (ev_hit hN rfl) ?_
 refine op_move (ev_hit hN rfl) ?_
 refine g_true (j := 22) (dj := 48) (b := true) rfl rfl rfl (ev_hit hN rfl) ?_
 refine op_move (ev_hit hN rfl) ?_
 refine g_true (j := 22) (dj := 48) (b := true) rfl rfl rfl (ev_hit hN rfl) ?_
 refine op_fn (vs := [(ptr p16 0)]) ok27 ⟨(ev_hit hN rfl), trivial⟩ (LenR_i (by omega) hp34) ?_
 rintro _ w39 ⟨E40, rfl⟩
 have E40 := grown_of_below E40
 have z_w39 := E40.size
 have hp34 := hp34.keepG (Gr.of0 E40 NoB) (fun _ _ h => h)
 have hb := below_step0 hb E40 hb.size
 refine g_true (j := 22) (dj := 48) (b := true) rfl rfl rfl (ev_hit hN rfl) ?_
 refine op_bin (v := .bool true) (ev_hit hN rfl) rfl (by rw [binOp_eql]; rfl) ?_
 refine op_pick_t (ev_hit hN rfl) (ev_hit hN rfl) ?_
 refine op_assign (ev_hit hN rfl) ?_
 refine reg_nil ?_
 refine hK37 _ _ ?_
 refine wp_ret ?_
 refine ret1 rfl hd (ev_hit hN rfl) ⟨_, rfl, ?_⟩
 -- path
 exact ⟨hb, rfl⟩

end Go.Proofs.Ytmhdbphpmgjpcaa

/- Plain facts on lists that are merged by picks. -/
namespace Go.Gx
abbrev LU := List UInt16
abbrev LbU := Value × LU
def DU : LbU := (.slice none 0 0, [])
theorem takeS {α : Type} {l : List α} {i : Nat} {d : α} (h : i < l.length) : l.take (i + 1) = l.take i ++ [l.getD i d] := by simp [List.getD_eq_getElem?_getD, h]
/-- One pick. -/
def mgStep (S : List LU × LU) (k : Int) : List LU × LU :=
  if 0 ≤ k ∧ k < S.1.length ∧ 0 < (S.1.getD k.toNat []).length then (S.1.set k.toNat ((S.1.getD k.toNat []).drop 1), S.2 ++ [(S.1.getD k.toNat []).getD 0 0]) else S
def mgRun (X : List LU) (P : List Int) : List LU × LU := P.foldl mgStep (X, [])
def mgOut (X : List LU) (P : List Int) : LU := (mgRun X P).2 ++ (mgRun X P).1.flatten
theorem mgRun_step {X : List LU} {P : List Int} {i : Nat} (h : i < P.length) : mgRun X (P.take (i + 1)) = mgStep (mgRun X (P.take i)) (P.getD i 0) := by
  have : P.take (i + 1) = P.take i ++ [P.getD i 0] := by simp [List.getD_eq_getElem?_getD, h]
  rw [this]; simp [mgRun, List.foldl_append]
theorem map2_getD {M : List LbU} {k : Nat} : (M.map Prod.snd).getD k [] = (M.getD k DU).2 := by
  simp only [List.getD_eq_getElem?_getD, List.getElem?_map]
  cases M[k]? <;> rfl
theorem mg_take {M : List LbU} {out : LU} {k : Nat} {v : Value} {S : List LU × LU} (hS : S = (M.map Prod.snd, out)) {x : Int} (hx : x = (k : Int)) (hk : k < M.length) (hn : 0 < (M.getD k DU).2.length) :
    mgStep S x = ((M.set k (v, (M.getD k DU).2.drop 1)).map Prod.snd, out ++ [(M.getD k DU).2.getD 0 0]) := by
  subst hS hx
  unfold mgStep
  rw [if_pos (by simp only [Int.toNat_natCast, map2_getD]; refine ⟨by omega, by simp; omega, hn⟩)]
  simp only [Int.toNat_natCast, map2_getD, List.map_set]
theorem mg_skip {M : List LbU} {out : LU} {S : List LU × LU} (hS : S = (M.map Prod.snd, out)) {x : Int} (h : x < 0 ∨ (M.length : Int) ≤ x ∨ ∃ k : Nat, x = (k : Int) ∧ (M.getD k DU).2.length = 0) : mgStep S x = (M.map Prod.snd, out) := by
  subst hS
  unfold mgStep
  rw [if_neg]
  rintro ⟨h1, h2, h3⟩
  rcases h with h | h | ⟨k, rfl, h⟩
  · omega
  · simp at h2; omega
  · simp only [Int.toNat_natCast, map2_getD] at h3; omega
theorem mg_len {X : List LU} {P : List Int} : (mgRun X P).1.length = X.length := by
  unfold mgRun
  suffices h : ∀ (P : List Int) (S : List LU × LU), (P.foldl mgStep S).1.length = S.1.length by exact h P _
  intro P
  induction P with
  | nil => intro S; rfl
  | cons k P ih => intro S; rw [List.foldl_cons, ih]; unfold mgStep; split <;> simp
/-- a list told by where one is in each -/
def AtIs (X : List LU) (A : List Nat) (S : List LU) : Prop := A.length = X.length ∧ S.length = X.length ∧ ∀ k, S.getD k [] = (X.getD k []).drop (A.getD k 0)
theorem AtIs.start (X : List LU) : AtIs X (List.replicate X.length 0) X := ⟨by simp, rfl, fun k => by
  have : (List.replicate X.length 0).getD k 0 = 0 := by simp only [List.getD_eq_getElem?_getD, List.getElem?_replicate]; split <;> rfl
  rw [this]; rfl⟩
theorem getD_set_ne {α : Type} {l : List α} {i j : Nat} {x d : α} (h : i ≠ j) : (l.set i x).getD j d = l.getD j d := by simp [List.getD_eq_getElem?_getD, List.getElem?_set_ne h]
theorem getD_set_eq {α : Type} {l : List α} {i : Nat} {x d : α} (h : i < l.length) : (l.set i x).getD i d = x := by simp [List.getD_eq_getElem?_getD, h]
theorem at_take {X : List LU} {A : List Nat} {S : List LU × LU} {k : Nat} (h : AtIs X A S.1) {x : Int} (hx : x = (k : Int)) (hk : k < X.length) (hn : A.getD k 0 < (X.getD k []).length) :
    AtIs X (A.set k (A.getD k 0 + 1)) (mgStep S x).1 ∧ (mgStep S x).2 = S.2 ++ [(X.getD k []).getD (A.getD k 0) 0] := by
  obtain ⟨h1, h2, h3⟩ := h
  subst hx
  have hk3 := h3 k
  unfold mgStep
  have hkA : k < A.length := by rw [h1]; exact hk
  have hkS : k < S.1.length := by rw [h2]; exact hk
  rw [if_pos (by rw [Int.toNat_natCast, hk3]; exact ⟨by omega, by omega, by rw [List.length_drop]; omega⟩), Int.toNat_natCast, hk3]
  refine ⟨⟨by simpa using h1, by simpa using h2, fun j => ?_⟩, ?_⟩
  · by_cases hj : k = j
    · subst hj; rw [getD_set_eq hkS, getD_set_eq hkA, List.drop_drop]
    · rw [getD_set_ne hj, getD_set_ne hj, h3 j]
  · show S.2 ++ _ = _
    congr 2
    simp [List.getD_eq_getElem?_getD]
theorem at_skip {X : List LU} {A : List Nat} {S : List LU × LU} (h : AtIs X A S.1) {x : Int} (hx : x < 0 ∨ (X.length : Int) ≤ x ∨ ∃ k : Nat, x = (k : Int) ∧ (X.getD k []).length ≤ A.getD k 0) : mgStep S x = S := by
  obtain ⟨h1, h2, h3⟩ := h
  unfold mgStep
  rw [if_neg]
  rintro ⟨q1, q2, q3⟩
  rcases hx with hx | hx | ⟨k, rfl, hx⟩
  · omega
  · omega
  · rw [Int.toNat_natCast, h3 k, List.length_drop] at q3; omega
theorem at_flat {X : List LU} {A : List Nat} {S : List LU} (h : AtIs X A S) {k : Nat} (hk : k < X.length) : (S.take (k + 1)).flatten = (S.take k).flatten ++ (X.getD k []).drop (A.getD k 0) := by
  rw [← h.2.2 k]
  have hkS : k < S.length := by rw [h.2.1]; exact hk
  rw [takeS (d := []) hkS]; simp
/-! sums of lengths -/
theorem flatU_len {M : List LU} {c : Nat} (h : ∀ x ∈ M, x.length ≤ c) : M.flatten.length ≤ M.length * c := by
  induction M with
  | nil => simp
  | cons a M ih => simp only [List.flatten_cons, List.length_append, List.length_cons, Nat.add_mul, Nat.one_mul]; have := h a (by simp); have := ih fun x hx => h x (by simp [hx]); omega
theorem flat_take_step {M : List LbU} {i : Nat} (h : i < M.length) : ((M.take (i + 1)).map Prod.snd).flatten = ((M.take i).map Prod.snd).flatten ++ (M.getD i DU).2 := by
  rw [takeS (d := DU) h]; simp
theorem flatU_take_len {M : List LbU} {i c : Nat} (h : ∀ x ∈ M, x.2.length ≤ c) (hi : i ≤ M.length) : ((M.take i).map Prod.snd).flatten.length ≤ i * c := by
  have := flatU_len (M := (M.take i).map Prod.snd) (c := c) (by intro x hx; obtain ⟨y, hy, rfl⟩ := List.mem_map.1 hx; exact h y (List.mem_of_mem_take hy))
  simpa [Nat.min_eq_left hi] using this
theorem set_flat2 (l : List LbU) {m : Nat} {x : LbU} (h : m < l.length) : (l.flatMap (fun x9 => [x9.1])).take m ++ [x.1] ++ (l.flatMap (fun x9 => [x9.1])).drop (m + 1) = (l.set m x).flatMap (fun x9 => [x9.1]) := by
  induction l generalizing m with
  | nil => simp at h
  | cons a t ih => cases m with
    | zero => simp
    | succ m => have := ih (m := m) (by simpa using h); simp only [List.flatMap_cons, List.singleton_append, List.set_cons_succ, List.take_succ_cons, List.drop_succ_cons, List.cons_append, List.nil_append] at this ⊢; rw [this]
theorem all_set {w : World} {B : Nat} {M : List LbU} {k : Nat} {x : LbU} (h : ∀ x9 ∈ M, RdC w 0 B 1 x9.1 x9.2.length (x9.2.map u16v)) (hx : RdC w 0 B 1 x.1 x.2.length (x.2.map u16v)) : ∀ x9 ∈ M.set k x, RdC w 0 B 1 x9.1 x9.2.length (x9.2.map u16v) := fun y hy => by
  rcases List.mem_or_eq_of_mem_set hy with q | rfl
  · exact h y q
  · exact hx
theorem all_le {M : List LbU} {k c : Nat} {v : Value} {l : LU} (h : ∀ x ∈ M, x.2.length ≤ c) (hl : l.length ≤ c) : ∀ x ∈ M.set k (v, l), x.2.length ≤ c := fun y hy => by
  rcases List.mem_or_eq_of_mem_set hy with q | rfl
  · exact h y q
  · exact hl
theorem one_ll {w : World} {B : Nat} {L : List LbU} (h : ∀ x9 ∈ L, RdC w 0 B 1 x9.1 x9.2.length (x9.2.map u16v)) : (L.flatMap (fun x9 => [x9.1])).all Value.oneCell' = true := by
  rw [List.all_eq_true]
  intro v hv
  obtain ⟨x, hx, hv⟩ := List.mem_flatMap.1 hv
  obtain rfl := List.mem_singleton.1 hv
  exact (h x hx).one
theorem at_takeM {M : List LbU} {A : List Nat} {S : List LU × LU} {k : Nat} (h : AtIs (M.map Prod.snd) A S.1) {x : Int} (hx : x = (k : Int)) (hk : k < M.length) (hn : A.getD k 0 < (M.getD k DU).2.length) :
    AtIs (M.map Prod.snd) (A.set k (A.getD k 0 + 1)) (mgStep S x).1 ∧ (mgStep S x).2 = S.2 ++ [(M.getD k DU).2.getD (A.getD k 0) 0] := by
  have := at_take h hx (by simpa using hk) (by rw [map2_getD]; exact hn)
  rw [map2_getD] at this; exact this
theorem at_skipM {M : List LbU} {A : List Nat} {S : List LU × LU} (h : AtIs (M.map Prod.snd) A S.1) {x : Int} (hx : x < 0 ∨ (M.length : Int) ≤ x ∨ ∃ k : Nat, x = (k : Int) ∧ (M.getD k DU).2.length ≤ A.getD k 0) : mgStep S x = S :=
  at_skip h (by rcases hx with q | q | ⟨k, q, q2⟩
                · exact .inl q
                · exact .inr (.inl (by simpa using q))
                · exact .inr (.inr ⟨k, q, by rw [map2_getD]; exact q2⟩))
theorem at_flatM {M : List LbU} {A : List Nat} {S : List LU} (h : AtIs (M.map Prod.snd) A S) {k : Nat} (hk : k < M.length) : (S.take (k + 1)).flatten = (S.take k).flatten ++ (M.getD k DU).2.drop (A.getD k 0) := by
  rw [at_flat h (by simpa using hk), map2_getD]
theorem AtIs.le {M : List LbU} {A : List Nat} {S : List LU} (h : AtIs (M.map Prod.snd) A S) : A.length = M.length ∧ S.length = M.length := ⟨by simpa using h.1, by simpa using h.2.1⟩
/-- one is nowhere behind an end -/
def AtLe (M : List LbU) (A : List Nat) : Prop := ∀ k, A.getD k 0 ≤ (M.getD k DU).2.length
theorem AtLe.start (M : List LbU) (n : Nat) : AtLe M (List.replicate n 0) := fun k => by
  have : (List.replicate n 0).getD k 0 = 0 := by simp only [List.getD_eq_getElem?_getD, List.getElem?_replicate]; split <;> rfl
  rw [this]; exact Nat.zero_le _
theorem AtLe.step {M : List LbU} {A : List Nat} (h : AtLe M A) {k : Nat} (hn : A.getD k 0 < (M.getD k DU).2.length) : AtLe M (A.set k (A.getD k 0 + 1)) := fun j => by
  by_cases hj : k = j
  · subst hj
    by_cases hk : k < A.length
    · rw [getD_set_eq hk]; omega
    · have := h k
      rw [List.set_eq_of_length_le (by omega)]; exact this
  · rw [getD_set_ne hj]; exact h j
/-! lists of numbers -/
def nv (n : Nat) : Value := .int .i64 (n : Int)
theorem el_nv {l : List Nat} {e : Int} {i : Nat} (he : e = (i : Int)) (h : i < l.length) : (l.map nv)[e.toNat * 1 + 0]? = some (Value.int .i64 ((l.getD i 0 : Nat) : Int)) := by
  subst he; simp [h, nv]
theorem set_nv {A : List Nat} {k x : Nat} (h : k < A.length) : (A.map nv).take k ++ [nv x] ++ (A.map nv).drop (k + 1) = (A.set k x).map nv := by
  rw [List.map_set, List.set_eq_take_append_cons_drop, if_pos (by simpa using h)]; simp
theorem one_nv (l : List Nat) : (l.map nv).all Value.oneCell' = true := by simp [Value.oneCell', nv]
theorem upto_step {L : List LbU} {i c : Nat} (h : ∀ j, j < i → (L.getD j DU).2.length ≤ c) (hi : (L.getD i DU).2.length ≤ c) : ∀ j, j < i + 1 → (L.getD j DU).2.length ≤ c := fun j hj => by
  by_cases hji : j = i
  · subst hji; exact hi
  · exact h j (by omega)
theorem upto_all {L : List LbU} {i c : Nat} (h : ∀ j, j < i → (L.getD j DU).2.length ≤ c) (hi : L.length ≤ i) : ∀ x ∈ L, x.2.length ≤ c := fun x hx => by
  obtain ⟨j, hj, rfl⟩ := List.mem_iff_getElem.1 hx
  have := h j (by omega)
  rwa [List.getD_eq_getElem?_getD, List.getElem?_eq_getElem hj, Option.getD_some] at this
theorem flat_one {α : Type} (l : List α) (f : α → Value) : l.flatMap (fun x => [f x]) = l.map f := by induction l with | nil => rfl | cons a l ih => simp [ih]
end Go.Gx

/- Walks, written by a program: what each function of the translation hands back. -/
namespace Go.Proofs.Ytmhdbphpmgjpcaa
open Go.Gx Go.RowKit
attribute [local irreducible] wpList wpStill Code.wp Calls

theorem GrowU (n : Nat) (w : World) (hn : n ≤ 1000000000000) : Ret Try.prog 114 #[(Value.slice none 0 0), (Value.int .i64 ((n : Nat) : Int))] w (fun v' w' => Below w.heap.size w w' ∧ Own w' w.heap.size 46 1 v' 0 []) := by
 have hb := Below.refl w.heap.size w
 refine enter (N := 27) Try.func114 rfl rfl (by simp) fun a0 hN hd hA => ?_
 have s0 : a0.tmps.getD 0 undef = (Value.slice none 0 0) := hA 0 (by simp)
 have s1 : a0.tmps.getD 1 undef = (Value.int .i64 ((n : Nat) : Int)) := hA 1 (by simp)
 clear hA
 refine seq_any fun K1 hK1 => ?_
 refine one_reg ?_
 refine op_assign rfl ?_
 refine reg_nil ?_
 refine hK1 _ _ ?_
 refine seq_any fun K2 hK2 => ?_
 refine seq_any fun K3 hK3 => ?_
 refine one_reg ?_
 refine op_move (ev_base hN rfl s1) ?_
 refine op_lss (ev_hit hN rfl) rfl (fun c6 => ?_) (fun c6 => ?_)
 · -- 6T
  exfalso; omega
 · -- 6F
  refine reg_nil ?_
  refine hK3 _ _ ?_
  refine wp_cond_false (ev_hit hN rfl) ?_
  refine wp_skip ?_
  refine hK2 _ _ ?_
  refine seq_any fun K4 hK4 => ?_
  refine seq_any fun K5 hK5 => ?_
  refine one_reg ?_
  refine op_move (ev_base hN rfl s1) ?_
  refine op_move (ev_base hN rfl s0) ?_
  refine op_cap (c := 0) Try.underlying45 (.inl ⟨(ev_hit hN rfl), rfl⟩) ?_
  refine op_move (ev_base hN rfl s0) ?_
  refine op_len_rd Try.underlying45 (ev_hit hN rfl) (RdC.nil _ 0 0 1) ?_
  refine op_sub (r := 0) (ev_hit hN rfl) (ev_hit hN rfl) (by decide) ?_
  refine op_sub (r := ((n : Nat) : Int)) (ev_hit hN rfl) (ev_hit hN rfl) (by rw [IntKind.wrap_i64]; omega) ?_
  refine op_assign (ev_hit hN rfl) ?_
  refine reg_nil ?_
  refine hK5 _ _ ?_
  refine seq_any fun K6 hK6 => ?_
  refine one_reg ?_
  refine op_move (ev_hit hN rfl) ?_
  refine op_gtr (ev_hit hN rfl) rfl (fun c16 => ?_) (fun c16 => ?_)
  · -- 16T
   refine reg_nil ?_
   refine hK6 _ _ ?_
   refine wp_cond_true (ev_hit hN rfl) ?_
   refine one_reg ?_
   refine op_move (ev_base hN rfl s0) ?_
   refine op_move (ev_base hN rfl s0) ?_
   refine op_cap (c := 0) Try.underlying45 (.inl ⟨(ev_hit hN rfl), rfl⟩) ?_
   refine op_slice_nil slt45 (ev_hit hN rfl) (ev_hit hN rfl) ?_
   refine op_move (ev_hit hN rfl) ?_
   refine op_append_zeros_nil (n := n) (base := w.heap.size) slt45 Try.underlying3 (ev_hit hN rfl) (ev_hit hN rfl) (by omega) (by omega) (by omega) hb.size ?_
   intro v7 w8 cs12 hO10 E9 hk11
   have z_w8 := E9.size
   have hb := below_step0 hb E9 hb.size
   refine op_move (ev_base hN rfl s0) ?_
   refine op_len_rd Try.underlying45 (ev_hit hN rfl) (RdC.nil _ 0 0 1) ?_
   refine op_slice_own_hi (m := 0) slt45 (ev_hit hN rfl) hO10 (ev_hit hN rfl) rfl (by omega) ?_
   intro v13 hO14 ho15
   have hO14 : Own w8 w.heap.size 46 1 v13 0 ([]) := by exact hO14.cast rfl (by simp)
   refine op_assign (ev_hit hN rfl) ?_
   refine reg_nil ?_
   refine hK4 _ _ ?_
   refine seq_any fun K16 hK16 => ?_
   refine one_reg ?_
   refine op_move (ev_hit hN rfl) ?_
   refine op_assign (ev_hit hN rfl) ?_
   refine reg_nil ?_
   refine hK16 _ _ ?_
   refine wp_ret ?_
   refine ret1 rfl hd (ev_hit hN rfl) ⟨_, rfl, ?_⟩
   -- path 6F 16T
   exact ⟨hb, hO14⟩
  · -- 16F
   refine reg_nil ?_
   refine hK6 _ _ ?_
   refine wp_cond_false (ev_hit hN rfl) ?_
   refine wp_skip ?_
   refine hK4 _ _ ?_
   refine seq_any fun K17 hK17 => ?_
   refine one_reg ?_
   refine op_move (ev_base hN rfl s0) ?_
   refine op_assign (ev_hit hN rfl) ?_
   refine reg_nil ?_
   refine hK17 _ _ ?_
   refine wp_ret ?_
   refine ret1 rfl hd (ev_hit hN rfl) ⟨_, rfl, ?_⟩
   -- path 6F 16F
   exact ⟨hb, Own.nil _ _ _ _⟩

theorem CloneLL (L : List LbU) (v : Value) (w : World) (hz : L.length ≤ 1000000000000) (hl : RdC w 0 w.heap.size 1 v L.length (L.flatMap (fun x9 => [x9.1]))) (hall : ∀ x9 ∈ L, RdC w 0 w.heap.size 1 x9.1 x9.2.length (x9.2.map u16v)) : Ret Try.prog 74 #[v] w (fun v' w' => Below w.heap.size w w' ∧ Own w' w.heap.size 45 1 v' L.length (L.flatMap (fun x9 => [x9.1]))) := by
 have hb := Below.refl w.heap.size w
 refine enter (N := 8) Try.func74 rfl rfl (by simp) fun a0 hN hd hA => ?_
 have s0 : a0.tmps.getD 0 undef = v := hA 0 (by simp)
 clear hA
 refine seq_any fun K18 hK18 => ?_
 refine one_reg ?_
 refine op_assign rfl ?_
 refine reg_nil ?_
 refine hK18 _ _ ?_
 refine seq_any fun K19 hK19 => ?_
 refine seq_any fun K20 hK20 => ?_
 refine one_reg ?_
 refine op_move (ev_base hN rfl s0) ?_
 refine op_eql_nil slt44 (ev_hit hN rfl) rfl hl (fun c4 => ?_) ?_
 · -- 4T
  refine reg_nil ?_
  refine hK20 _ _ ?_
  refine wp_cond_true (ev_hit hN rfl) ?_
  refine seq_any fun K21 hK21 => ?_
  refine one_reg ?_
  refine op_assign rfl ?_
  refine reg_nil ?_
  refine hK21 _ _ ?_
  refine wp_ret (then_ret ( ?_))
  refine ret1 rfl hd (ev_hit hN rfl) ⟨_, rfl, ?_⟩
  -- path 4T
  exact ⟨hb, by rw [List.length_eq_zero_iff.1 c4]; exact Own.nil _ _ _ _⟩
 · -- 4F
  refine reg_nil ?_
  refine hK20 _ _ ?_
  refine wp_cond_false (ev_hit hN rfl) ?_
  refine wp_skip ?_
  refine hK19 _ _ ?_
  refine seq_any fun K22 hK22 => ?_
  refine one_reg ?_
  refine op_bslice (e := 45) (pv := []) (cs := []) trivial (by kernel_rfl) ?_
  intro w23 b24 lo_b24 hi_b24 hB26 E25
  have z_w23 := E25.size
  have hl := hl.keep0 E25
  have hall : ∀ x9 ∈ L, RdC w23 0 w.heap.size 1 x9.1 x9.2.length (x9.2.map u16v) := fun x9 hx9 => (hall x9 hx9).keep0 E25
  have hb := below_step0 hb E25 hb.size
  refine op_move (ev_base hN rfl s0) ?_
  have hP32 := (Own.ofBx (base := w.heap.size) (sz := 1) (n := 0) hB26 rfl (by decide) (by omega))
  refine op_append slt44 (ev_hit hN rfl) hP32 (ev_hit hN rfl) (Src.ofRd Try.underlying44 (by decide) hl (one_ll hall)) (by unfold maxLen; omega) (by omega) hb.size ?_
  intro v27 w28 hO30 E29 hm31
  have z_w28 := E29.size
  have hl := hl.keepO hP32 E29 (by omega)
  have hall : ∀ x9 ∈ L, RdC w28 0 w.heap.size 1 x9.1 x9.2.length (x9.2.map u16v) := fun x9 hx9 => (hall x9 hx9).keepO hP32 E29 (by omega)
  have hb := below_stepO hb hP32 E29 hb.size (by omega)
  have hO30 : Own w28 w.heap.size 45 1 v27 (0 + L.length) ((L).flatMap (fun x9 => [x9.1])) := by exact hO30.cast (by simp) (by simp)
  refine op_assign (ev_hit hN rfl) ?_
  refine reg_nil ?_
  refine hK22 _ _ ?_
  refine wp_ret ?_
  refine ret1 rfl hd (ev_hit hN rfl) ⟨_, rfl, ?_⟩
  -- path 4F
  exact ⟨hb, hO30.cast (by simp) (by simp)⟩

theorem ConcatU (L : List LbU) (vL : Value) (w : World) (hL : L.length ≤ 1000) (hc : ∀ x ∈ L, x.2.length ≤ 1000) (hr : RdC w 0 w.heap.size 1 vL L.length (L.flatMap (fun x9 => [x9.1]))) (hall : ∀ x9 ∈ L, RdC w 0 w.heap.size 1 x9.1 x9.2.length (x9.2.map u16v)) : Ret Try.prog 75 #[vL] w (fun v' w' => Below w.heap.size w w' ∧ Own w' w.heap.size 46 1 v' (L.map Prod.snd).flatten.length ((L.map Prod.snd).flatten.map u16v)) := by
 have hb := Below.refl w.heap.size w
 refine enter (N := 36) Try.func75 rfl rfl (by simp) fun a0 hN hd hA => ?_
 have s0 : a0.tmps.getD 0 undef = vL := hA 0 (by simp)
 clear hA
 refine seq_any fun K33 hK33 => ?_
 refine one_reg ?_
 refine op_assign rfl ?_
 refine reg_nil ?_
 refine hK33 _ _ ?_
 refine seq_any fun K34 hK34 => ?_
 refine one_reg ?_
 refine op_assign rfl ?_
 refine reg_nil ?_
 refine hK34 _ _ ?_
 refine seq_any fun K35 hK35 => ?_
 refine seq_any fun K36 hK36 => ?_
 refine one_reg ?_
 refine op_move (ev_base hN rfl s0) ?_
 refine op_len_rd Try.underlying44 (ev_hit hN rfl) hr ?_
 refine op_move rfl ?_
 refine reg_nil ?_
 refine hK36 _ _ ?_
 refine wp_block ?_
 refine loop_m (fun mz_ az_ w' => ∃ (i : Nat) (s : Nat), mz_ = L.length - i ∧ (az_.tmps.getD 0 undef = vL) ∧ (az_.tmps.getD 2 undef = (Value.slice none 0 0)) ∧ (az_.tmps.getD 9 undef = vL) ∧ (az_.tmps.getD 10 undef = (Value.int .i64 ((L.length : Nat) : Int))) ∧ (az_.tmps.getD 11 undef = (Value.int .i64 ((i : Nat) : Int))) ∧ (az_.tmps.getD 3 undef = (Value.int .i64 ((s : Nat) : Int))) ∧ (i ≤ L.length) ∧ (s ≤ i * 1000) ∧ w = w') _ hN hd ⟨0, 0, rfl, (sl_base hN rfl s0), (sl_hit hN rfl), (sl_hit hN rfl), (sl_hit hN rfl), (sl_hit hN rfl), (sl_hit hN rfl), (Nat.zero_le _), (Nat.zero_le _), rfl⟩ ?_
 rintro _ a37 _ hN37 hd37 ⟨i, s, rfl, s37_0, s37_2, s37_9, s37_10, s37_11, s37_3, hi, hs, rfl⟩
 refine seq_any fun K38 hK38 => ?_
 refine one_reg ?_
 refine op_lss (ev_base hN37 rfl s37_11) (ev_base hN37 rfl s37_10) (fun c12 => ?_) (fun c12 => ?_)
 · -- 12T
  refine reg_nil ?_
  refine hK38 _ _ ?_
  refine seq_any fun K39 hK39 => ?_
  refine wp_cond_true (ev_hit hN37 rfl) ?_
  refine wp_skip ?_
  refine hK39 _ _ ?_
  refine seq_any fun K40 hK40 => ?_
  refine wp_block ?_
  refine seq_any fun K41 hK41 => ?_
  refine one_reg ?_
  refine op_index_rd slt44 (ev_base hN37 rfl s37_9) hr (ev_base hN37 rfl s37_11) (by omega) (by omega) ?_
  intro b42 o43 h0b42 h1b42 hc44
  have hs45 : RdC w 0 w.heap.size 1 (L.getD i DU).1 (L.getD i DU).2.length ((L.getD i DU).2.map u16v) := hall _ (getD_mem (by omega))
  refine op_load1 (v := (L.getD i DU).1) one45 (ev_hit hN37 rfl) (by have := hc44 0 (L.getD i DU).1 (by decide) (el_ll (i := i) (d := DU) (by omega) (by omega)); simpa using this) ?_
  refine op_assign (ev_hit hN37 rfl) ?_
  refine reg_nil ?_
  refine hK41 _ _ ?_
  refine seq_any fun K46 hK46 => ?_
  refine one_reg ?_
  refine op_move (ev_base hN37 rfl s37_3) ?_
  refine op_move (ev_hit hN37 rfl) ?_
  refine op_len_rd Try.underlying45 (ev_hit hN37 rfl) hs45 ?_
  have hci := hc _ (getD_mem (d := DU) (show i < L.length by omega))
  refine op_add (ev_hit hN37 rfl) (ev_hit hN37 rfl) (add64 (by omega)) ?_
  refine op_assign (ev_hit hN37 rfl) ?_
  refine reg_nil ?_
  refine hK46 _ _ ?_
  refine seq_any fun K47 hK47 => ?_
  refine one_reg ?_
  refine op_move (ev_hit hN37 rfl) ?_
  refine op_lss (ev_hit hN37 rfl) rfl (fun c20 => ?_) (fun c20 => ?_)
  · -- 20T
   exfalso; omega
  · -- 20F
   refine reg_nil ?_
   refine hK47 _ _ ?_
   refine wp_cond_false (ev_hit hN37 rfl) ?_
   refine wp_skip ?_
   refine hK40 _ _ ?_
   refine one_reg ?_
   refine op_add (ev_base hN37 rfl s37_11) rfl (add64 (by omega)) ?_
   refine op_move (ev_hit hN37 rfl) ?_
   refine reg_nil ?_
   -- round 12T 20F
   exact loop_next _ hN37 hd37 ⟨(i + 1), (s + (L.getD i DU).2.length), rfl, (sl_base hN37 rfl s37_0), (sl_base hN37 rfl s37_2), (sl_base hN37 rfl s37_9), (sl_base hN37 rfl s37_10), (sl_hit hN37 rfl).trans (congrArg (Value.int .i64) (by omega)), (sl_hit hN37 rfl).trans (congrArg (Value.int .i64) (by omega)), (by omega), (by have := hc _ (getD_mem (d := DU) (show i < L.length by omega)); omega), rfl⟩ (by omega)
 · -- 12F
  refine reg_nil ?_
  refine hK38 _ _ ?_
  refine seq_any fun K48 hK48 => ?_
  refine wp_cond_false (ev_hit hN37 rfl) ?_
  refine wp_exit (then_exit (then_exit (blk_hit ?_)))
  refine hK35 _ _ ?_
  refine seq_any fun K49 hK49 => ?_
  refine one_reg ?_
  refine op_move (ev_base hN37 rfl s37_3) ?_
  refine op_fn (vs := [(Value.slice none 0 0), (Value.int .i64 ((s : Nat) : Int))]) ok114 ⟨rfl, ⟨(ev_hit hN37 rfl), trivial⟩⟩ (GrowU s _ (by omega)) ?_
  rintro v50 w51 ⟨E52, hO50⟩
  have E52 := grown_of_below E52
  have z_w51 := E52.size
  have hr := hr.keep0 E52
  have hall : ∀ x9 ∈ L, RdC w51 0 w.heap.size 1 x9.1 x9.2.length (x9.2.map u16v) := fun x9 hx9 => (hall x9 hx9).keep0 E52
  have hb := below_step0 hb E52 hb.size
  have hO50 := hO50.mono (base' := w.heap.size) (by omega)
  refine op_assign (ev_hit hN37 rfl) ?_
  refine reg_nil ?_
  refine hK49 _ _ ?_
  refine seq_any fun K53 hK53 => ?_
  refine seq_any fun K54 hK54 => ?_
  refine one_reg ?_
  refine op_move (ev_base hN37 rfl s37_0) ?_
  refine op_len_rd Try.underlying44 (ev_hit hN37 rfl) hr ?_
  refine op_move rfl ?_
  refine reg_nil ?_
  refine hK54 _ _ ?_
  refine wp_block ?_
  refine loop_m (fun mz_ az_ w' => ∃ (i : Nat) (r : Value), mz_ = L.length - i ∧ (az_.tmps.getD 2 undef = (Value.slice none 0 0)) ∧ (az_.tmps.getD 25 undef = vL) ∧ (az_.tmps.getD 26 undef = (Value.int .i64 ((L.length : Nat) : Int))) ∧ (az_.tmps.getD 27 undef = (Value.int .i64 ((i : Nat) : Int))) ∧ (az_.tmps.getD 6 undef = r) ∧ (i ≤ L.length) ∧ (((L.take i).map Prod.snd).flatten.length ≤ i * 1000) ∧ (Below w.heap.size w w') ∧ (w51.heap.size ≤ w'.heap.size) ∧ (RdC w' 0 w.heap.size 1 vL L.length (L.flatMap (fun x9 => [x9.1]))) ∧ (∀ x9 ∈ L, RdC w' 0 w.heap.size 1 x9.1 x9.2.length (x9.2.map u16v)) ∧ (Own w' w.heap.size 46 1 r ((L.take i).map Prod.snd).flatten.length (((L.take i).map Prod.snd).flatten.map u16v))) _ hN37 hd37 ⟨0, v50, rfl, (sl_base hN37 rfl s37_2), (sl_hit hN37 rfl), (sl_hit hN37 rfl), (sl_hit hN37 rfl), (sl_hit hN37 rfl), (Nat.zero_le _), (by simp), hb, (Nat.le_refl _), hr, hall, (hO50.cast (by simp) (by simp))⟩ ?_
  rintro _ a55 w55 hN55 hd55 ⟨i, r, rfl, s55_2, s55_25, s55_26, s55_27, s55_6, hi, hfl, hb, zl_w55, hr, hall, hO56⟩
  have z_w55 := hb.size
  refine seq_any fun K57 hK57 => ?_
  refine one_reg ?_
  refine op_lss (ev_base hN55 rfl s55_27) (ev_base hN55 rfl s55_26) (fun c28 => ?_) (fun c28 => ?_)
  · -- 28T
   refine reg_nil ?_
   refine hK57 _ _ ?_
   refine seq_any fun K58 hK58 => ?_
   refine wp_cond_true (ev_hit hN55 rfl) ?_
   refine wp_skip ?_
   refine hK58 _ _ ?_
   refine seq_any fun K59 hK59 => ?_
   refine wp_block ?_
   refine seq_any fun K60 hK60 => ?_
   refine one_reg ?_
   refine op_index_rd slt44 (ev_base hN55 rfl s55_25) hr (ev_base hN55 rfl s55_27) (by omega) (by omega) ?_
   intro b61 o62 h0b61 h1b61 hc63
   have hs64 : RdC w55 0 w.heap.size 1 (L.getD i DU).1 (L.getD i DU).2.length ((L.getD i DU).2.map u16v) := hall _ (getD_mem (by omega))
   refine op_load1 (v := (L.getD i DU).1) one45 (ev_hit hN55 rfl) (by have := hc63 0 (L.getD i DU).1 (by decide) (el_ll (i := i) (d := DU) (by omega) (by omega)); simpa using this) ?_
   refine op_assign (ev_hit hN55 rfl) ?_
   refine reg_nil ?_
   refine hK60 _ _ ?_
   refine one_reg ?_
   refine op_move (ev_base hN55 rfl s55_6) ?_
   refine op_move (ev_hit hN55 rfl) ?_
   have hci := hc _ (getD_mem (d := DU) (show i < L.length by omega))
   have hP70 := hO56
   refine op_append slt45 (ev_hit hN55 rfl) hP70 (ev_hit hN55 rfl) (Src.ofRd Try.underlying45 (by decide) hs64 (one_u16 _)) (by unfold maxLen; omega) (by omega) hb.size ?_
   intro v65 w66 hO68 E67 hm69
   have z_w66 := E67.size
   have hr := hr.keepO hP70 E67 (by omega)
   have hall : ∀ x9 ∈ L, RdC w66 0 w.heap.size 1 x9.1 x9.2.length (x9.2.map u16v) := fun x9 hx9 => (hall x9 hx9).keepO hP70 E67 (by omega)
   have hs64 := hs64.keepO hP70 E67 (by omega)
   have hb := below_stepO hb hP70 E67 hb.size (by omega)
   have hO68 : Own w66 w.heap.size 46 1 v65 (((L.take i).map Prod.snd).flatten.length + (L.getD i DU).2.length) (((((L.take i).map Prod.snd).flatten ++ (L.getD i DU).2)).map u16v) := by simpa [u8v, u16v, sv] using hO68
   refine op_assign (ev_hit hN55 rfl) ?_
   refine reg_nil ?_
   refine hK59 _ _ ?_
   refine one_reg ?_
   refine op_add (ev_base hN55 rfl s55_27) rfl (add64 (by omega)) ?_
   refine op_move (ev_hit hN55 rfl) ?_
   refine reg_nil ?_
   -- round 12F 28T
   exact loop_next _ hN55 hd55 ⟨(i + 1), v65, rfl, (sl_base hN55 rfl s55_2), (sl_base hN55 rfl s55_25), (sl_base hN55 rfl s55_26), (sl_hit hN55 rfl).trans (congrArg (Value.int .i64) (by omega)), (sl_hit hN55 rfl), (by omega), (flatU_take_len hc (by omega)), hb, (by omega), hr, hall, (hO68.cast (by rw [flat_take_step (by omega), List.length_append]) (by rw [flat_take_step (by omega)]))⟩ (by omega)
  · -- 28F
   refine reg_nil ?_
   refine hK57 _ _ ?_
   refine seq_any fun K71 hK71 => ?_
   refine wp_cond_false (ev_hit hN55 rfl) ?_
   refine wp_exit (then_exit (then_exit (blk_hit ?_)))
   refine hK53 _ _ ?_
   refine seq_any fun K72 hK72 => ?_
   refine one_reg ?_
   refine op_move (ev_base hN55 rfl s55_6) ?_
   refine op_assign (ev_hit hN55 rfl) ?_
   refine reg_nil ?_
   refine hK72 _ _ ?_
   refine wp_ret ?_
   refine ret1 rfl hd55 (ev_hit hN55 rfl) ⟨_, rfl, ?_⟩
   -- path 12F 28F
   exact ⟨hb, hO56.cast (by rw [List.take_of_length_le (by omega)]) (by rw [List.take_of_length_le (by omega)])⟩

end Go.Proofs.Ytmhdbphpmgjpcaa

/- Walks, written by a program: what each function of the translation hands back. -/
namespace Go.Proofs.Ytmhdbphpmgjpcaa
open Go.Gx Go.RowKit
attribute [local irreducible] wpList wpStill Code.wp Calls

theorem Merge_ret (L : List LbU) (P : List Int) (vL vP : Value) (w : World) (hL : L.length ≤ 1000) (hc : ∀ x ∈ L, x.2.length ≤ 1000) (hr : RdC w 0 w.heap.size 1 vL L.length (L.flatMap (fun x9 => [x9.1]))) (hall : ∀ x9 ∈ L, RdC w 0 w.heap.size 1 x9.1 x9.2.length (x9.2.map u16v)) (hPl : P.length ≤ 1000) (hP : RdC w 0 w.heap.size 1 vP P.length (P.map (Value.int .i64))) : Ret Try.prog 30 #[vL, vP] w (fun v' w' => Below w.heap.size w w' ∧ Own w' w.heap.size 46 1 v' (mgOut (L.map Prod.snd) P).length ((mgOut (L.map Prod.snd) P).map u16v)) := by
 have hb := Below.refl w.heap.size w
 refine enter (N := 55) Try.func30 rfl rfl (by simp) fun a0 hN hd hA => ?_
 have s0 : a0.tmps.getD 0 undef = vL := hA 0 (by simp)
 have s1 : a0.tmps.getD 1 undef = vP := hA 1 (by simp)
 clear hA
 refine seq_any fun K1 hK1 => ?_
 refine one_reg ?_
 refine op_assign rfl ?_
 refine reg_nil ?_
 refine hK1 _ _ ?_
 refine seq_any fun K2 hK2 => ?_
 refine one_reg ?_
 refine op_move (ev_base hN rfl s0) ?_
 refine op_fn (vs := [vL]) ok74 ⟨(ev_hit hN rfl), trivial⟩ (CloneLL L _ _ (by omega) (hr.mono (Nat.zero_le _) (by omega)) (fun x hx => (hall x hx).mono (Nat.zero_le _) (by omega))) ?_
 rintro v3 w4 ⟨E5, hO3⟩
 have E5 := grown_of_below E5
 have z_w4 := E5.size
 have hr := hr.keep0 E5
 have hall : ∀ x9 ∈ L, RdC w4 0 w.heap.size 1 x9.1 x9.2.length (x9.2.map u16v) := fun x9 hx9 => (hall x9 hx9).keep0 E5
 have hP := hP.keep0 E5
 have hb := below_step0 hb E5 hb.size
 have hO3 := hO3.mono (base' := w.heap.size) (by omega)
 refine op_assign (ev_hit hN rfl) ?_
 refine reg_nil ?_
 refine hK2 _ _ ?_
 refine seq_any fun K6 hK6 => ?_
 refine one_reg ?_
 refine op_assign rfl ?_
 refine reg_nil ?_
 refine hK6 _ _ ?_
 refine seq_any fun K7 hK7 => ?_
 refine seq_any fun K8 hK8 => ?_
 refine one_reg ?_
 refine op_move (ev_base hN rfl s1) ?_
 refine op_len_rd Try.underlying35 (ev_hit hN rfl) hP ?_
 refine op_move rfl ?_
 refine reg_nil ?_
 refine hK8 _ _ ?_
 refine wp_block ?_
 refine loop_m (fun mz_ az_ w' => ∃ (i : Nat) (M : List LbU) (r : Value) (out : LU), mz_ = P.length - i ∧ (az_.tmps.getD 4 undef = (Value.slice none 0 0)) ∧ (az_.tmps.getD 5 undef = v3) ∧ (az_.tmps.getD 11 undef = vP) ∧ (az_.tmps.getD 12 undef = (Value.int .i64 ((P.length : Nat) : Int))) ∧ (az_.tmps.getD 13 undef = (Value.int .i64 ((i : Nat) : Int))) ∧ (az_.tmps.getD 6 undef = r) ∧ (i ≤ P.length) ∧ (M.length = L.length) ∧ (∀ x ∈ M, x.2.length ≤ 1000) ∧ (mgRun (L.map Prod.snd) (P.take i) = (M.map Prod.snd, out)) ∧ (out.length ≤ i) ∧ (Below w.heap.size w w') ∧ (w4.heap.size ≤ w'.heap.size) ∧ (RdC w' 0 w.heap.size 1 vL L.length (L.flatMap (fun x9 => [x9.1]))) ∧ (∀ x9 ∈ L, RdC w' 0 w.heap.size 1 x9.1 x9.2.length (x9.2.map u16v)) ∧ (RdC w' 0 w.heap.size 1 vP P.length (P.map (Value.int .i64))) ∧ (∀ x9 ∈ M, RdC w' 0 w.heap.size 1 x9.1 x9.2.length (x9.2.map u16v)) ∧ (Own w' w.heap.size 46 1 r out.length (out.map u16v)) ∧ (Own w' w.heap.size 45 1 v3 M.length (M.flatMap (fun x9 => [x9.1])))) _ hN hd ⟨0, L, (Value.slice none 0 0), [], rfl, (sl_hit hN rfl), (sl_hit hN rfl), (sl_hit hN rfl), (sl_hit hN rfl), (sl_hit hN rfl), (sl_hit hN rfl), (Nat.zero_le _), rfl, hc, rfl, (Nat.le_refl _), hb, (Nat.le_refl _), hr, hall, hP, hall, (Own.nil _ _ _ _), hO3⟩ ?_
 rintro _ a9 w9 hN9 hd9 ⟨i, M, r, out, rfl, s9_4, s9_5, s9_11, s9_12, s9_13, s9_6, hi, hM, hcM, hS, ho, hb, zl_w9, hr, hall, hP, hallM, hO10, hO11⟩
 have z_w9 := hb.size
 refine seq_any fun K12 hK12 => ?_
 refine one_reg ?_
 refine op_lss (ev_base hN9 rfl s9_13) (ev_base hN9 rfl s9_12) (fun c14 => ?_) (fun c14 => ?_)
 · -- 14T
  refine reg_nil ?_
  refine hK12 _ _ ?_
  refine seq_any fun K13 hK13 => ?_
  refine wp_cond_true (ev_hit hN9 rfl) ?_
  refine wp_skip ?_
  refine hK13 _ _ ?_
  refine seq_any fun K14 hK14 => ?_
  refine wp_block ?_
  refine seq_any fun K15 hK15 => ?_
  refine one_reg ?_
  refine op_index_rd slt35 (ev_base hN9 rfl s9_11) hP (ev_base hN9 rfl s9_13) (by omega) (by omega) ?_
  intro b16 o17 h0b16 h1b16 hc18
  refine op_load1 (v := (Value.int .i64 (P.getD i 0))) one3 (ev_hit hN9 rfl) (by have := hc18 0 (Value.int .i64 (P.getD i 0)) (by decide) (el_i64 (i := i) (by omega) (by omega)); simpa using this) ?_
  refine op_assign (ev_hit hN9 rfl) ?_
  refine reg_nil ?_
  refine hK15 _ _ ?_
  refine seq_any fun K19 hK19 => ?_
  refine one_reg ?_
  refine op_move (ev_hit hN9 rfl) ?_
  refine op_geq (ev_hit hN9 rfl) rfl (fun c18 => ?_) (fun c18 => ?_)
  · -- 18T
   refine op_move (ev_hit hN9 rfl) ?_
   refine g_true (j := 2) (dj := 19) (b := true) rfl rfl rfl (ev_hit hN9 rfl) ?_
   refine op_move (ev_hit hN9 rfl) ?_
   refine g_true (j := 2) (dj := 19) (b := true) rfl rfl rfl (ev_hit hN9 rfl) ?_
   refine op_move (ev_base hN9 rfl s9_5) ?_
   refine g_true (j := 2) (dj := 19) (b := true) rfl rfl rfl (ev_hit hN9 rfl) ?_
   refine op_len_rd Try.underlying44 (ev_hit hN9 rfl) hO11.rdw ?_
   refine g_true (j := 2) (dj := 19) (b := true) rfl rfl rfl (ev_hit hN9 rfl) ?_
   refine op_lss (ev_hit hN9 rfl) (ev_hit hN9 rfl) (fun c23 => ?_) (fun c23 => ?_)
   · -- 23T
    refine op_pick_t (ev_hit hN9 rfl) (ev_hit hN9 rfl) ?_
    refine op_move (ev_hit hN9 rfl) ?_
    refine g_true (j := 8) (dj := 25) (b := true) rfl rfl rfl (ev_hit hN9 rfl) ?_
    refine op_move (ev_base hN9 rfl s9_5) ?_
    refine g_true (j := 8) (dj := 25) (b := true) rfl rfl rfl (ev_hit hN9 rfl) ?_
    refine op_move (ev_hit hN9 rfl) ?_
    refine g_true (j := 8) (dj := 25) (b := true) rfl rfl rfl (ev_hit hN9 rfl) ?_
    refine op_index_rd slt44 (ev_hit hN9 rfl) hO11.rdw (ev_hit hN9 rfl) (by omega) (by omega) ?_
    intro b20 o21 h0b20 h1b20 hc22
    refine g_true (j := 8) (dj := 25) (b := true) rfl rfl rfl (ev_hit hN9 rfl) ?_
    have hs23 : RdC w9 0 w.heap.size 1 (M.getD (P.getD i 0).toNat DU).1 (M.getD (P.getD i 0).toNat DU).2.length ((M.getD (P.getD i 0).toNat DU).2.map u16v) := hallM _ (getD_mem (by omega))
    refine op_load1 (v := (M.getD (P.getD i 0).toNat DU).1) one45 (ev_hit hN9 rfl) (by have := hc22 0 (M.getD (P.getD i 0).toNat DU).1 (by decide) (el_ll (i := (P.getD i 0).toNat) (d := DU) (by omega) (by omega)); simpa using this) ?_
    refine g_true (j := 8) (dj := 25) (b := true) rfl rfl rfl (ev_hit hN9 rfl) ?_
    refine op_len_rd Try.underlying45 (ev_hit hN9 rfl) hs23 ?_
    refine g_true (j := 8) (dj := 25) (b := true) rfl rfl rfl (ev_hit hN9 rfl) ?_
    refine op_gtr (ev_hit hN9 rfl) rfl (fun c31 => ?_) (fun c31 => ?_)
    · -- 31T
     refine op_pick_t (ev_hit hN9 rfl) (ev_hit hN9 rfl) ?_
     refine reg_nil ?_
     refine hK19 _ _ ?_
     refine wp_cond_true (ev_hit hN9 rfl) ?_
     refine seq_any fun K24 hK24 => ?_
     refine one_reg ?_
     refine op_move (ev_base hN9 rfl s9_6) ?_
     refine op_move (ev_base hN9 rfl s9_5) ?_
     refine op_move (ev_hit hN9 rfl) ?_
     refine op_index_rd slt44 (ev_hit hN9 rfl) hO11.rdw (ev_hit hN9 rfl) (by omega) (by omega) ?_
     intro b25 o26 h0b25 h1b25 hc27
     refine op_load1 (v := (M.getD (P.getD i 0).toNat DU).1) one45 (ev_hit hN9 rfl) (by have := hc27 0 (M.getD (P.getD i 0).toNat DU).1 (by decide) (el_ll (i := (P.getD i 0).toNat) (d := DU) (by omega) (by omega)); simpa using this) ?_
     refine op_index_rd slt45 (ev_hit hN9 rfl) hs23 rfl (by omega) (by omega) ?_
     intro b29 o30 h0b29 h1b29 hc31
     refine op_load1 (v := (Value.int .u16 (((M.getD (P.getD i 0).toNat DU).2.getD 0 0).toNat : Int))) one46 (ev_hit hN9 rfl) (by have := hc31 0 (Value.int .u16 (((M.getD (P.getD i 0).toNat DU).2.getD 0 0).toNat : Int)) (by decide) (el_u16 (i := 0) (by omega) (by omega)); simpa using this) ?_
     refine op_bslice (e := 46) (pv := [(0, (Value.int .u16 (((M.getD (P.getD i 0).toNat DU).2.getD 0 0).toNat : Int)))]) (cs := [(Value.int .u16 (((M.getD (P.getD i 0).toNat DU).2.getD 0 0).toNat : Int))]) ⟨rfl, (ev_hit hN9 rfl), trivial⟩ (by kernel_rfl) ?_
     intro w32 b33 lo_b33 hi_b33 hB35 E34
     have ne_b33_r : r.ownBlock ≠ some b33 := fun hh => by have := (hO10.lt _ hh).2; omega
     have z_w32 := E34.size
     have hr := hr.keep0 E34
     have hall : ∀ x9 ∈ L, RdC w32 0 w.heap.size 1 x9.1 x9.2.length (x9.2.map u16v) := fun x9 hx9 => (hall x9 hx9).keep0 E34
     have hP := hP.keep0 E34
     have hallM : ∀ x9 ∈ M, RdC w32 0 w.heap.size 1 x9.1 x9.2.length (x9.2.map u16v) := fun x9 hx9 => (hallM x9 hx9).keep0 E34
     have hO10 := hO10.keep0 E34
     have hO11 := hO11.keep0 E34
     have hs23 := hs23.keep0 E34
     have hb := below_step0 hb E34 hb.size
     have hP41 := hO10
     refine op_append slt45 (ev_hit hN9 rfl) hP41 (ev_hit hN9 rfl) (Src.ofRd Try.underlying45 (by decide) (RdC.ofBx (sz := 1) (n := 1) hB35 rfl (by decide)) (by simp [Value.oneCell', u8v])) (by unfold maxLen; omega) (by omega) hb.size ?_
     intro v36 w37 hO39 E38 hm40
     have z_w37 := E38.size
     have hr := hr.keepO hP41 E38 (by omega)
     have hall : ∀ x9 ∈ L, RdC w37 0 w.heap.size 1 x9.1 x9.2.length (x9.2.map u16v) := fun x9 hx9 => (hall x9 hx9).keepO hP41 E38 (by omega)
     have hP := hP.keepO hP41 E38 (by omega)
     have hallM : ∀ x9 ∈ M, RdC w37 0 w.heap.size 1 x9.1 x9.2.length (x9.2.map u16v) := fun x9 hx9 => (hallM x9 hx9).keepO hP41 E38 (by omega)
     have hO11 := hO11.keepT hP41 E38 (by decide)
     have hs23 := hs23.keepO hP41 E38 (by omega)
     have hB35 := hB35.keep E38 (fun hh => ne_b33_r hh.symm)
     have hb := below_stepO hb hP41 E38 hb.size (by omega)
     have hO39 : Own w37 w.heap.size 46 1 v36 (out.length + 1) (((out ++ [((M.getD (P.getD i 0).toNat DU).2.getD 0 0)])).map u16v) := by simpa [u8v, u16v, sv] using hO39
     have ne_b33_v36 : v36.ownBlock ≠ some b33 := ne_step (w1 := w32) ⟨E38, hm40⟩ (by omega) ne_b33_r
     refine op_assign (ev_hit hN9 rfl) ?_
     refine reg_nil ?_
     refine hK24 _ _ ?_
     refine one_reg ?_
     refine op_move (ev_base hN9 rfl s9_5) ?_
     refine op_move (ev_hit hN9 rfl) ?_
     refine op_move (ev_base hN9 rfl s9_5) ?_
     refine op_move (ev_hit hN9 rfl) ?_
     refine op_index_rd slt44 (ev_hit hN9 rfl) hO11.rdw (ev_hit hN9 rfl) (by omega) (by omega) ?_
     intro b42 o43 h0b42 h1b42 hc44
     refine op_load1 (v := (M.getD (P.getD i 0).toNat DU).1) one45 (ev_hit hN9 rfl) (by have := hc44 0 (M.getD (P.getD i 0).toNat DU).1 (by decide) (el_ll (i := (P.getD i 0).toNat) (d := DU) (by omega) (by omega)); simpa using this) ?_
     refine op_slice_rd (lo := 1) (hi := (M.getD (P.getD i 0).toNat DU).2.length) slt45 (ev_hit hN9 rfl) hs23 (.inr ⟨_, _, rfl, rfl⟩) (.inl ⟨rfl, rfl⟩) (by omega) (by omega) ?_
     intro v46 hR47
     have hR47 : RdC w37 0 w.heap.size 1 v46 ((M.getD (P.getD i 0).toNat DU).2.length - 1) ((((M.getD (P.getD i 0).toNat DU).2.drop 1)).map u16v) := by simpa [List.map_drop, List.map_take, List.take_of_length_le] using hR47
     refine op_index_own (i := (P.getD i 0).toNat) slt44 (ev_hit hN9 rfl) hO11 (ev_hit hN9 rfl) (by omega) (by omega) ?_
     intro b48 o49 lo_b48 hA50
     have hA50 : AtV v3 ((P.getD i 0).toNat) b48 o49 := by simpa using hA50
     have hP53 := hO11
     refine op_store_own (vs := [v46]) size45 (ev_hit hN9 rfl) (ev_hit hN9 rfl) hR47.cl rfl (by simp only [List.all_cons, List.all_nil, Bool.true_and, Bool.and_true, hR47.one]; try rfl) hP53 hA50 (by have := hP53.1; simp only [List.length_cons, List.length_nil]; omega) ?_
     intro w51 hO54 E52
     have z_w51 := E52.size
     have hr := hr.keepO hP53 E52 (by omega)
     have hall : ∀ x9 ∈ L, RdC w51 0 w.heap.size 1 x9.1 x9.2.length (x9.2.map u16v) := fun x9 hx9 => (hall x9 hx9).keepO hP53 E52 (by omega)
     have hP := hP.keepO hP53 E52 (by omega)
     have hallM : ∀ x9 ∈ M, RdC w51 0 w.heap.size 1 x9.1 x9.2.length (x9.2.map u16v) := fun x9 hx9 => (hallM x9 hx9).keepO hP53 E52 (by omega)
     have hs23 := hs23.keepO hP53 E52 (by omega)
     have hB35 := hB35.keepO hP53 E52 (by decide)
     have hO39 := hO39.keepT hP53 E52 (by decide)
     have hR47 := hR47.keepO hP53 E52 (by omega)
     have hb := below_stepO hb hP53 E52 hb.size (by omega)
     have hO54 : Own w51 w.heap.size 45 1 v3 M.length (((M.set (P.getD i 0).toNat (v46, (M.getD (P.getD i 0).toNat DU).2.drop 1))).flatMap (fun x9 => [x9.1])) := by exact hO54.cast rfl (by simpa using set_flat2 M (x := (v46, (M.getD (P.getD i 0).toNat DU).2.drop 1)) (m := (P.getD i 0).toNat) (by omega))
     refine reg_nil ?_
     refine hK14 _ _ ?_
     refine one_reg ?_
     refine op_add (ev_base hN9 rfl s9_13) rfl (add64 (by omega)) ?_
     refine op_move (ev_hit hN9 rfl) ?_
     refine reg_nil ?_
     -- round 14T 18T 23T 31T
     exact loop_next _ hN9 hd9 ⟨(i + 1), (M.set (P.getD i 0).toNat (v46, (M.getD (P.getD i 0).toNat DU).2.drop 1)), v36, (out ++ [((M.getD (P.getD i 0).toNat DU).2.getD 0 0)]), rfl, (sl_base hN9 rfl s9_4), (sl_base hN9 rfl s9_5), (sl_base hN9 rfl s9_11), (sl_base hN9 rfl s9_12), (sl_hit hN9 rfl).trans (congrArg (Value.int .i64) (by omega)), (sl_hit hN9 rfl), (by omega), (by first | omega | (simp; omega)), (all_le hcM (by have := hcM _ (getD_mem (d := DU) (show (P.getD i 0).toNat < M.length by omega)); rw [List.length_drop]; omega)), ((mgRun_step (by omega)).trans (mg_take hS (k := (P.getD i 0).toNat) (by omega) (by omega) (by omega))), (by first | omega | (simp; omega)), hb, (by omega), hr, hall, hP, (all_set hallM (hR47.cast List.length_drop.symm rfl)), (hO39.cast (by first | rfl | (simp; done)) rfl), (hO54.cast (by first | rfl | (simp; done)) rfl)⟩ (by omega)
    · -- 31F
     refine op_pick_t (ev_hit hN9 rfl) (ev_hit hN9 rfl) ?_
     refine reg_nil ?_
     refine hK19 _ _ ?_
     refine wp_cond_false (ev_hit hN9 rfl) ?_
     refine wp_skip ?_
     refine hK14 _ _ ?_
     refine one_reg ?_
     refine op_add (ev_base hN9 rfl s9_13) rfl (add64 (by omega)) ?_
     refine op_move (ev_hit hN9 rfl) ?_
     refine reg_nil ?_
     -- round 14T 18T 23T 31F
     exact loop_next _ hN9 hd9 ⟨(i + 1), M, r, out, rfl, (sl_base hN9 rfl s9_4), (sl_base hN9 rfl s9_5), (sl_base hN9 rfl s9_11), (sl_base hN9 rfl s9_12), (sl_hit hN9 rfl).trans (congrArg (Value.int .i64) (by omega)), (sl_base hN9 rfl s9_6), (by omega), (by first | omega | (simp; omega)), hcM, ((mgRun_step (by omega)).trans (mg_skip hS (.inr (.inr ⟨(P.getD i 0).toNat, by omega, by omega⟩)))), (by first | omega | (simp; omega)), hb, (by omega), hr, hall, hP, hallM, (hO10.cast (by first | rfl | (simp; done)) rfl), (hO11.cast (by first | rfl | (simp; done)) rfl)⟩ (by omega)
   · -- 23F
    refine op_pick_t (ev_hit hN9 rfl) (ev_hit hN9 rfl) ?_
    refine op_move (ev_hit hN9 rfl) ?_
    refine g_false (j := 8) (dj := 25) (b := true) rfl rfl rfl (ev_hit hN9 rfl) rfl rfl ?_
    refine g_false (j := 8) (dj := 25) (b := true) rfl rfl rfl (ev_hit hN9 rfl) rfl rfl ?_
    refine g_false (j := 8) (dj := 25) (b := true) rfl rfl rfl (ev_hit hN9 rfl) rfl rfl ?_
    refine g_false (j := 8) (dj := 25) (b := true) rfl rfl rfl (ev_hit hN9 rfl) rfl rfl ?_
    refine g_false (j := 8) (dj := 25) (b := true) rfl rfl rfl (ev_hit hN9 rfl) rfl rfl ?_
    refine g_false (j := 8) (dj := 25) (b := true) rfl rfl rfl (ev_hit hN9 rfl) rfl rfl ?_
    refine op_pick_f (ev_hit hN9 rfl) rfl ?_
    refine reg_nil ?_
    refine hK19 _ _ ?_
    refine wp_cond_false (ev_hit hN9 rfl) ?_
    refine wp_skip ?_
    refine hK14 _ _ ?_
    refine one_reg ?_
    refine op_add (ev_base hN9 rfl s9_13) rfl (add64 (by omega)) ?_
    refine op_move (ev_hit hN9 rfl) ?_
    refine reg_nil ?_
    -- round 14T 18T 23F
    exact loop_next _ hN9 hd9 ⟨(i + 1), M, r, out, rfl, (sl_base hN9 rfl s9_4), (sl_base hN9 rfl s9_5), (sl_base hN9 rfl s9_11), (sl_base hN9 rfl s9_12), (sl_hit hN9 rfl).trans (congrArg (Value.int .i64) (by omega)), (sl_base hN9 rfl s9_6), (by omega), (by first | omega | (simp; omega)), hcM, ((mgRun_step (by omega)).trans (mg_skip hS (.inr (.inl (by omega))))), (by first | omega | (simp; omega)), hb, (by omega), hr, hall, hP, hallM, (hO10.cast (by first | rfl | (simp; done)) rfl), (hO11.cast (by first | rfl | (simp; done)) rfl)⟩ (by omega)
  · -- 18F
   refine op_move (ev_hit hN9 rfl) ?_
   refine g_false (j := 2) (dj := 19) (b := true) rfl rfl rfl (ev_hit hN9 rfl) rfl rfl ?_
   refine g_false (j := 2) (dj := 19) (b := true) rfl rfl rfl (ev_hit hN9 rfl) rfl rfl ?_
   refine g_false (j := 2) (dj := 19) (b := true) rfl rfl rfl (ev_hit hN9 rfl) rfl rfl ?_
   refine g_false (j := 2) (dj := 19) (b := true) rfl rfl rfl (ev_hit hN9 rfl) rfl rfl ?_
   refine op_pick_f (ev_hit hN9 rfl) rfl ?_
   refine op_move (ev_hit hN9 rfl) ?_
   refine g_false (j := 8) (dj := 25) (b := true) rfl rfl rfl (ev_hit hN9 rfl) rfl rfl ?_
   refine g_false (j := 8) (dj := 25) (b := true) rfl rfl rfl (ev_hit hN9 rfl) rfl rfl ?_
   refine g_false (j := 8) (dj := 25) (b := true) rfl rfl rfl (ev_hit hN9 rfl) rfl rfl ?_
   refine g_false (j := 8) (dj := 25) (b := true) rfl rfl rfl (ev_hit hN9 rfl) rfl rfl ?_
   refine g_false (j := 8) (dj := 25) (b := true) rfl rfl rfl (ev_hit hN9 rfl) rfl rfl ?_
   refine g_false (j := 8) (dj := 25) (b := true) rfl rfl rfl (ev_hit hN9 rfl) rfl rfl ?_
   refine op_pick_f (ev_hit hN9 rfl) rfl ?_
   refine reg_nil ?_
   refine hK19 _ _ ?_
   refine wp_cond_false (ev_hit hN9 rfl) ?_
   refine wp_skip ?_
   refine hK14 _ _ ?_
   refine one_reg ?_
   refine op_add (ev_base hN9 rfl s9_13) rfl (add64 (by omega)) ?_
   refine op_move (ev_hit hN9 rfl) ?_
   refine reg_nil ?_
   -- round 14T 18F
   exact loop_next _ hN9 hd9 ⟨(i + 1), M, r, out, rfl, (sl_base hN9 rfl s9_4), (sl_base hN9 rfl s9_5), (sl_base hN9 rfl s9_11), (sl_base hN9 rfl s9_12), (sl_hit hN9 rfl).trans (congrArg (Value.int .i64) (by omega)), (sl_base hN9 rfl s9_6), (by omega), (by first | omega | (simp; omega)), hcM, ((mgRun_step (by omega)).trans (mg_skip hS (.inl (by omega)))), (by first | omega | (simp; omega)), hb, (by omega), hr, hall, hP, hallM, (hO10.cast (by first | rfl | (simp; done)) rfl), (hO11.cast (by first | rfl | (simp; done)) rfl)⟩ (by omega)
 · -- 14F
  refine reg_nil ?_
  refine hK12 _ _ ?_
  refine seq_any fun K55 hK55 => ?_
  refine wp_cond_false (ev_hit hN9 rfl) ?_
  refine wp_exit (then_exit (then_exit (blk_hit ?_)))
  refine hK7 _ _ ?_
  refine seq_any fun K56 hK56 => ?_
  refine one_reg ?_
  refine op_move (ev_base hN9 rfl s9_6) ?_
  refine op_move (ev_base hN9 rfl s9_5) ?_
  refine op_fn (vs := [v3]) ok75 ⟨(ev_hit hN9 rfl), trivial⟩ (ConcatU M _ _ (by omega) hcM (hO11.rdw.mono (Nat.zero_le _) (by omega)) (fun x hx => (hallM x hx).mono (Nat.zero_le _) (by omega))) ?_
  rintro v57 w58 ⟨E59, hO57⟩
  have dj60 : DJ v57 r := fun k hk hg => by have q1 := (hO57.lt k hk).1; have q2 := (hO10.lt k hg).2; omega
  have E59 := grown_of_below E59
  have z_w58 := E59.size
  have hr := hr.keep0 E59
  have hall : ∀ x9 ∈ L, RdC w58 0 w.heap.size 1 x9.1 x9.2.length (x9.2.map u16v) := fun x9 hx9 => (hall x9 hx9).keep0 E59
  have hP := hP.keep0 E59
  have hallM : ∀ x9 ∈ M, RdC w58 0 w.heap.size 1 x9.1 x9.2.length (x9.2.map u16v) := fun x9 hx9 => (hallM x9 hx9).keep0 E59
  have hO10 := hO10.keep0 E59
  have hO11 := hO11.keep0 E59
  have hb := below_step0 hb E59 hb.size
  have hO57 := hO57.mono (base' := w.heap.size) (by omega)
  have hfl := flatU_len (M := M.map Prod.snd) (c := 1000) (by intro x hx; obtain ⟨y, hy, rfl⟩ := List.mem_map.1 hx; exact hcM y hy)
  rw [List.length_map] at hfl
  have hP66 := hO10
  refine op_append slt45 (ev_hit hN9 rfl) hP66 (ev_hit hN9 rfl) (Src.ofRd Try.underlying45 (by decide) hO57.rdw (one_u16 _)) (by unfold maxLen; omega) (by omega) hb.size ?_
  intro v61 w62 hO64 E63 hm65
  have dj67 : DJ v57 v61 := DJ.step hm65 (fun k hk => (hO57.lt k hk).2) dj60
  have z_w62 := E63.size
  have hr := hr.keepO hP66 E63 (by omega)
  have hall : ∀ x9 ∈ L, RdC w62 0 w.heap.size 1 x9.1 x9.2.length (x9.2.map u16v) := fun x9 hx9 => (hall x9 hx9).keepO hP66 E63 (by omega)
  have hP := hP.keepO hP66 E63 (by omega)
  have hallM : ∀ x9 ∈ M, RdC w62 0 w.heap.size 1 x9.1 x9.2.length (x9.2.map u16v) := fun x9 hx9 => (hallM x9 hx9).keepO hP66 E63 (by omega)
  have hO11 := hO11.keepT hP66 E63 (by decide)
  have hO57 := hO57.keepD E63 dj60
  have hb := below_stepO hb hP66 E63 hb.size (by omega)
  have hO64 : Own w62 w.heap.size 46 1 v61 (out.length + (M.map Prod.snd).flatten.length) (((out ++ (M.map Prod.snd).flatten)).map u16v) := by simpa [u8v, u16v, sv] using hO64
  refine op_assign (ev_hit hN9 rfl) ?_
  refine reg_nil ?_
  refine hK56 _ _ ?_
  refine wp_ret ?_
  refine ret1 rfl hd9 (ev_hit hN9 rfl) ⟨_, rfl, ?_⟩
  -- path 14F
  have hS9 : mgRun (L.map Prod.snd) P = (M.map Prod.snd, out) := by rw [List.take_of_length_le (by omega)] at hS; exact hS
  have hq : mgOut (L.map Prod.snd) P = out ++ (M.map Prod.snd).flatten := by unfold mgOut; rw [hS9]
  rw [hq]
  exact ⟨hb, hO64.cast (by simp) rfl⟩

end Go.Proofs.Ytmhdbphpmgjpcaa

/- Walks, written by a program: what each function of the translation hands back. -/
namespace Go.Proofs.Ytmhdbphpmgjpcaa
open Go.Gx Go.RowKit
attribute [local irreducible] wpList wpStill Code.wp Calls

theorem postMerges_ret (L : List LbU) (P : List Int) (vL vP : Value) (w : World) (hL : L.length ≤ 9223372036854775807) (hPl : P.length ≤ 9223372036854775807) (hsz : ∀ x ∈ L, x.2.length ≤ 9223372036854775807) (hr : RdC w 0 w.heap.size 1 vL L.length (L.flatMap (fun x9 => [x9.1]))) (hall : ∀ x9 ∈ L, RdC w 0 w.heap.size 1 x9.1 x9.2.length (x9.2.map u16v)) (hP : RdC w 0 w.heap.size 1 vP P.length (P.map (Value.int .i64))) : Ret Try.prog 4 #[vL, vP] w (fun v' w' => Below w.heap.size w w' ∧ v' = .bool true) := by
 have hb := Below.refl w.heap.size w
 refine enter (N := 127) Try.func4 rfl rfl (by simp) fun a0 hN hd hA => ?_
 have s0 : a0.tmps.getD 0 undef = vL := hA 0 (by simp)
 have s1 : a0.tmps.getD 1 undef = vP := hA 1 (by simp)
 clear hA
 refine seq_any fun K68 hK68 => ?_
 refine one_reg ?_
 refine op_assign rfl ?_
 refine reg_nil ?_
 refine hK68 _ _ ?_
 refine seq_any fun K69 hK69 => ?_
 refine seq_any fun K70 hK70 => ?_
 refine one_reg ?_
 refine op_fn (vs := []) ok16 trivial (begun20_ret _) ?_
 rintro _ w71 ⟨E72, rfl⟩
 have E72 := grown_of_below E72
 have z_w71 := E72.size
 have hr := hr.keep0 E72
 have hall : ∀ x9 ∈ L, RdC w71 0 w.heap.size 1 x9.1 x9.2.length (x9.2.map u16v) := fun x9 hx9 => (hall x9 hx9).keep0 E72
 have hP := hP.keep0 E72
 have hb := below_step0 hb E72 hb.size
 refine op_not (ev_hit hN rfl) ?_
 refine reg_nil ?_
 refine hK70 _ _ ?_
 refine wp_cond_false (ev_hit hN rfl) ?_
 refine wp_skip ?_
 refine hK69 _ _ ?_
 refine seq_any fun K73 hK73 => ?_
 refine seq_any fun K74 hK74 => ?_
 refine one_reg ?_
 refine op_move (ev_base hN rfl s0) ?_
 refine op_len_rd Try.underlying44 (ev_hit hN rfl) hr ?_
 refine op_gtr (ev_hit hN rfl) rfl (fun c17 => ?_) (fun c17 => ?_)
 · -- 17T
  refine op_move (ev_hit hN rfl) ?_
  refine g_false (j := 3) (dj := 18) (b := false) rfl rfl rfl (ev_hit hN rfl) rfl rfl ?_
  refine g_false (j := 3) (dj := 18) (b := false) rfl rfl rfl (ev_hit hN rfl) rfl rfl ?_
  refine g_false (j := 3) (dj := 18) (b := false) rfl rfl rfl (ev_hit hN rfl) rfl rfl ?_
  refine op_pick_t (ev_hit hN rfl) rfl ?_
  refine reg_nil ?_
  refine hK74 _ _ ?_
  refine wp_cond_true (ev_hit hN rfl) ?_
  refine seq_any fun K75 hK75 => ?_
  refine one_reg ?_
  refine op_assign rfl ?_
  refine reg_nil ?_
  refine hK75 _ _ ?_
  refine wp_ret (then_ret ( ?_))
  refine ret1 rfl hd (ev_hit hN rfl) ⟨_, rfl, ?_⟩
  -- path 17T
  exact ⟨hb, rfl⟩
 · -- 17F
  refine op_move (ev_hit hN rfl) ?_
  refine g_true (j := 3) (dj := 18) (b := false) rfl rfl rfl (ev_hit hN rfl) ?_
  refine op_move (ev_base hN rfl s1) ?_
  refine g_true (j := 3) (dj := 18) (b := false) rfl rfl rfl (ev_hit hN rfl) ?_
  refine op_len_rd Try.underlying35 (ev_hit hN rfl) hP ?_
  refine g_true (j := 3) (dj := 18) (b := false) rfl rfl rfl (ev_hit hN rfl) ?_
  refine op_gtr (ev_hit hN rfl) rfl (fun c21 => ?_) (fun c21 => ?_)
  · -- 21T
   refine op_pick_f (ev_hit hN rfl) (ev_hit hN rfl) ?_
   refine reg_nil ?_
   refine hK74 _ _ ?_
   refine wp_cond_true (ev_hit hN rfl) ?_
   refine seq_any fun K76 hK76 => ?_
   refine one_reg ?_
   refine op_assign rfl ?_
   refine reg_nil ?_
   refine hK76 _ _ ?_
   refine wp_ret (then_ret ( ?_))
   refine ret1 rfl hd (ev_hit hN rfl) ⟨_, rfl, ?_⟩
   -- path 17F 21T
   exact ⟨hb, rfl⟩
  · -- 21F
   refine op_pick_f (ev_hit hN rfl) (ev_hit hN rfl) ?_
   refine reg_nil ?_
   refine hK74 _ _ ?_
   refine wp_cond_false (ev_hit hN rfl) ?_
   refine wp_skip ?_
   refine hK73 _ _ ?_
   refine seq_any fun K77 hK77 => ?_
   refine one_reg ?_
   refine op_move (ev_base hN rfl s0) ?_
   refine op_len_rd Try.underlying44 (ev_hit hN rfl) hr ?_
   refine op_make (n := (L.length)) (y' := .const undef) slt35 (ev_hit hN rfl) (ev_hit hN rfl) rfl (by omega) (by omega) hb.size ?_
   intro v80 w78 hO81 E79 lo82
   have z_w78 := E79.size
   have hr := hr.keep0 E79
   have hall : ∀ x9 ∈ L, RdC w78 0 w.heap.size 1 x9.1 x9.2.length (x9.2.map u16v) := fun x9 hx9 => (hall x9 hx9).keep0 E79
   have hP := hP.keep0 E79
   have hb := below_step0 hb E79 hb.size
   have hO81 : Own w78 w.heap.size 3 1 v80 (L.length) (((List.replicate L.length 0)).map nv) := by exact hO81.cast rfl (by simp [nv])
   refine op_assign (ev_hit hN rfl) ?_
   refine reg_nil ?_
   refine hK77 _ _ ?_
   refine seq_any fun K83 hK83 => ?_
   refine one_reg ?_
   refine op_assign rfl ?_
   refine reg_nil ?_
   refine hK83 _ _ ?_
   refine seq_any fun K84 hK84 => ?_
   refine seq_any fun K85 hK85 => ?_
   refine one_reg ?_
   refine op_assign rfl ?_
   refine reg_nil ?_
   refine hK85 _ _ ?_
   refine wp_block ?_
   refine loop_m (fun mz_ az_ w' => ∃ (i : Nat), mz_ = L.length - i ∧ (az_.tmps.getD 0 undef = vL) ∧ (az_.tmps.getD 1 undef = vP) ∧ (az_.tmps.getD 5 undef = v80) ∧ (az_.tmps.getD 6 undef = (Value.slice none 0 0)) ∧ (az_.tmps.getD 7 undef = (Value.int .i64 ((i : Nat) : Int))) ∧ (i ≤ L.length) ∧ (∀ j, j < i → (L.getD j DU).2.length ≤ 20) ∧ (Below w.heap.size w w') ∧ (w78.heap.size ≤ w'.heap.size) ∧ (RdC w' 0 w.heap.size 1 vL L.length (L.flatMap (fun x9 => [x9.1]))) ∧ (∀ x9 ∈ L, RdC w' 0 w.heap.size 1 x9.1 x9.2.length (x9.2.map u16v)) ∧ (RdC w' 0 w.heap.size 1 vP P.length (P.map (Value.int .i64))) ∧ (Own w' w.heap.size 3 1 v80 (L.length) (((List.replicate L.length 0)).map nv))) _ hN hd ⟨0, rfl, (sl_base hN rfl s0), (sl_base hN rfl s1), (sl_hit hN rfl), (sl_hit hN rfl), (sl_hit hN rfl), (Nat.zero_le _), (fun _ h => absurd h (Nat.not_lt_zero _)), hb, (Nat.le_refl _), hr, hall, hP, hO81⟩ ?_
   rintro _ a86 w86 hN86 hd86 ⟨i, rfl, s86_0, s86_1, s86_5, s86_6, s86_7, hi, hc, hb, zl_w86, hr, hall, hP, hO81⟩
   have z_w86 := hb.size
   refine seq_any fun K87 hK87 => ?_
   refine seq_any fun K88 hK88 => ?_
   refine one_reg ?_
   refine op_move (ev_base hN86 rfl s86_7) ?_
   refine op_move (ev_base hN86 rfl s86_0) ?_
   refine op_len_rd Try.underlying44 (ev_hit hN86 rfl) hr ?_
   refine op_lss (ev_hit hN86 rfl) (ev_hit hN86 rfl) (fun c29 => ?_) (fun c29 => ?_)
   · -- 29T
    refine reg_nil ?_
    refine hK88 _ _ ?_
    refine wp_cond_true (ev_hit hN86 rfl) ?_
    refine wp_skip ?_
    refine hK87 _ _ ?_
    refine seq_any fun K89 hK89 => ?_
    refine wp_block ?_
    refine seq_any fun K90 hK90 => ?_
    refine one_reg ?_
    refine op_move (ev_base hN86 rfl s86_0) ?_
    refine op_move (ev_base hN86 rfl s86_7) ?_
    refine op_index_rd slt44 (ev_hit hN86 rfl) hr (ev_hit hN86 rfl) (by omega) (by omega) ?_
    intro b91 o92 h0b91 h1b91 hc93
    have hs94 : RdC w86 0 w.heap.size 1 (L.getD i DU).1 (L.getD i DU).2.length ((L.getD i DU).2.map u16v) := hall _ (getD_mem (by omega))
    refine op_load1 (v := (L.getD i DU).1) one45 (ev_hit hN86 rfl) (by have := hc93 0 (L.getD i DU).1 (by decide) (el_ll (i := i) (d := DU) (by omega) (by omega)); simpa using this) ?_
    have hsi := hsz _ (getD_mem (d := DU) (show i < L.length by omega))
    refine op_len_rd Try.underlying45 (ev_hit hN86 rfl) hs94 ?_
    refine op_gtr (ev_hit hN86 rfl) rfl (fun c37 => ?_) (fun c37 => ?_)
    · -- 37T
     refine reg_nil ?_
     refine hK90 _ _ ?_
     refine wp_cond_true (ev_hit hN86 rfl) ?_
     refine seq_any fun K95 hK95 => ?_
     refine one_reg ?_
     refine op_assign rfl ?_
     refine reg_nil ?_
     refine hK95 _ _ ?_
     refine wp_ret (blk_ret (then_ret (then_ret (blk_ret (then_ret ( ?_))))))
     refine ret1 rfl hd86 (ev_hit hN86 rfl) ⟨_, rfl, ?_⟩
     -- path 17F 21F 29T 37T
     exact ⟨hb, rfl⟩
    · -- 37F
     refine reg_nil ?_
     refine hK90 _ _ ?_
     refine wp_cond_false (ev_hit hN86 rfl) ?_
     refine wp_skip ?_
     refine hK89 _ _ ?_
     refine one_reg ?_
     refine op_move (ev_base hN86 rfl s86_7) ?_
     refine op_add (ev_hit hN86 rfl) rfl (add64 (by omega)) ?_
     refine op_assign (ev_hit hN86 rfl) ?_
     refine reg_nil ?_
     -- round 17F 21F 29T 37F
     exact loop_next _ hN86 hd86 ⟨(i + 1), rfl, (sl_base hN86 rfl s86_0), (sl_base hN86 rfl s86_1), (sl_base hN86 rfl s86_5), (sl_base hN86 rfl s86_6), (sl_hit hN86 rfl).trans (congrArg (Value.int .i64) (by omega)), (by omega), (upto_step hc (by omega)), hb, (by omega), hr, hall, hP, hO81⟩ (by omega)
   · -- 29F
    refine reg_nil ?_
    refine hK88 _ _ ?_
    refine wp_cond_false (ev_hit hN86 rfl) ?_
    refine wp_exit (then_exit (then_exit (blk_hit ?_)))
    refine hK84 _ _ ?_
    refine seq_any fun K96 hK96 => ?_
    refine seq_any fun K97 hK97 => ?_
    refine one_reg ?_
    refine op_assign rfl ?_
    refine reg_nil ?_
    refine hK97 _ _ ?_
    refine wp_block ?_
    have hc0 : ∀ x ∈ L, x.2.length ≤ 20 := upto_all hc (by omega)
    refine loop_m (fun mz_ az_ w' => ∃ (i : Nat) (A : List Nat) (r : Value) (W : LU), mz_ = P.length - i ∧ (az_.tmps.getD 0 undef = vL) ∧ (az_.tmps.getD 1 undef = vP) ∧ (az_.tmps.getD 5 undef = v80) ∧ (az_.tmps.getD 8 undef = (Value.int .i64 ((i : Nat) : Int))) ∧ (az_.tmps.getD 6 undef = r) ∧ (i ≤ P.length) ∧ (A.length = L.length) ∧ (AtIs (L.map Prod.snd) A (mgRun (L.map Prod.snd) (P.take i)).1) ∧ (AtLe L A) ∧ ((mgRun (L.map Prod.snd) (P.take i)).2 = W) ∧ (W.length ≤ i) ∧ (Below w.heap.size w w') ∧ (w86.heap.size ≤ w'.heap.size) ∧ (RdC w' 0 w.heap.size 1 vL L.length (L.flatMap (fun x9 => [x9.1]))) ∧ (∀ x9 ∈ L, RdC w' 0 w.heap.size 1 x9.1 x9.2.length (x9.2.map u16v)) ∧ (RdC w' 0 w.heap.size 1 vP P.length (P.map (Value.int .i64))) ∧ (Own w' w.heap.size 46 1 r W.length (W.map u16v)) ∧ (Own w' w.heap.size 3 1 v80 A.length (A.map nv))) _ hN86 hd86 ⟨0, (List.replicate L.length 0), (Value.slice none 0 0), [], rfl, (sl_base hN86 rfl s86_0), (sl_base hN86 rfl s86_1), (sl_base hN86 rfl s86_5), (sl_hit hN86 rfl), (sl_base hN86 rfl s86_6), (Nat.zero_le _), List.length_replicate, (by have := AtIs.start (L.map Prod.snd); rw [List.length_map] at this; exact this), (AtLe.start _ _), rfl, (Nat.le_refl _), hb, (Nat.le_refl _), hr, hall, hP, (Own.nil _ _ _ _), (hO81.cast List.length_replicate.symm rfl)⟩ ?_
    rintro _ a98 w98 hN98 hd98 ⟨i, A, r, W, rfl, s98_0, s98_1, s98_5, s98_8, s98_6, hi, hAl, hA, hAt, hW, hWl, hb, zl_w98, hr, hall, hP, hO99, hO100⟩
    have z_w98 := hb.size
    refine seq_any fun K101 hK101 => ?_
    refine seq_any fun K102 hK102 => ?_
    refine one_reg ?_
    refine op_move (ev_base hN98 rfl s98_8) ?_
    refine op_move (ev_base hN98 rfl s98_1) ?_
    refine op_len_rd Try.underlying35 (ev_hit hN98 rfl) hP ?_
    refine op_lss (ev_hit hN98 rfl) (ev_hit hN98 rfl) (fun c41 => ?_) (fun c41 => ?_)
    · -- 41T
     refine reg_nil ?_
     refine hK102 _ _ ?_
     refine wp_cond_true (ev_hit hN98 rfl) ?_
     refine wp_skip ?_
     refine hK101 _ _ ?_
     refine seq_any fun K103 hK103 => ?_
     refine wp_block ?_
     refine seq_any fun K104 hK104 => ?_
     refine one_reg ?_
     refine op_move (ev_base hN98 rfl s98_1) ?_
     refine op_move (ev_base hN98 rfl s98_8) ?_
     refine op_index_rd slt35 (ev_hit hN98 rfl) hP (ev_hit hN98 rfl) (by omega) (by omega) ?_
     intro b105 o106 h0b105 h1b105 hc107
     refine op_load1 (v := (Value.int .i64 (P.getD i 0))) one3 (ev_hit hN98 rfl) (by have := hc107 0 (Value.int .i64 (P.getD i 0)) (by decide) (el_i64 (i := i) (by omega) (by omega)); simpa using this) ?_
     refine op_assign (ev_hit hN98 rfl) ?_
     refine reg_nil ?_
     refine hK104 _ _ ?_
     refine seq_any fun K108 hK108 => ?_
     refine reg_still mixed (by kernel_rfl) ?_
     intro w110 E109
     have z_w110 := E109.size
     have hr := hr.keep0 E109
     have hall : ∀ x9 ∈ L, RdC w110 0 w.heap.size 1 x9.1 x9.2.length (x9.2.map u16v) := fun x9 hx9 => (hall x9 hx9).keep0 E109
     have hP := hP.keep0 E109
     have hO99 := hO99.keep0 E109
     have hO100 := hO100.keep0 E109
     have hb := below_step0 hb E109 hb.size
     refine st_step rfl (fun _ h9 => op_move (ev_hit hN98 rfl) h9) ?_
     by_cases g49 : 0 ≤ (P.getD i 0)
     · -- 49T
      refine st_step rfl (fun _ h9 => op_cmp (b := true) (ev_hit hN98 rfl) rfl (b_geq (decide_eq_true g49)) h9) ?_
      refine st_step rfl (fun _ h9 => op_move (ev_hit hN98 rfl) h9) ?_
      refine st_g_true (j := 2) (dj := 50) (b := true) rfl rfl rfl (ev_hit hN98 rfl) ?_
      refine st_step rfl (fun _ h9 => op_move (ev_hit hN98 rfl) h9) ?_
      refine st_g_true (j := 2) (dj := 50) (b := true) rfl rfl rfl (ev_hit hN98 rfl) ?_
      refine st_step rfl (fun _ h9 => op_move (ev_base hN98 rfl s98_0) h9) ?_
      refine st_g_true (j := 2) (dj := 50) (b := true) rfl rfl rfl (ev_hit hN98 rfl) ?_
      refine st_step rfl (fun _ h9 => op_len_rd Try.underlying44 (ev_hit hN98 rfl) hr h9) ?_
      refine st_g_true (j := 2) (dj := 50) (b := true) rfl rfl rfl (ev_hit hN98 rfl) ?_
      by_cases g54 : (P.getD i 0) < ((L.length : Nat) : Int)
      · -- 54T
       refine st_step rfl (fun _ h9 => op_cmp (b := true) (ev_hit hN98 rfl) (ev_hit hN98 rfl) (b_lss (decide_eq_true g54)) h9) ?_
       refine st_step rfl (fun _ h9 => op_pick_t (ev_hit hN98 rfl) (ev_hit hN98 rfl) h9) ?_
       refine st_step rfl (fun _ h9 => op_move (ev_hit hN98 rfl) h9) ?_
       refine st_g_true (j := 8) (dj := 56) (b := true) rfl rfl rfl (ev_hit hN98 rfl) ?_
       refine st_step rfl (fun _ h9 => op_move (ev_base hN98 rfl s98_5) h9) ?_
       refine st_g_true (j := 8) (dj := 56) (b := true) rfl rfl rfl (ev_hit hN98 rfl) ?_
       refine st_step rfl (fun _ h9 => op_move (ev_hit hN98 rfl) h9) ?_
       refine st_g_true (j := 8) (dj := 56) (b := true) rfl rfl rfl (ev_hit hN98 rfl) ?_
       refine st_index_rd slt35 (ev_hit hN98 rfl) hO100.rdw (ev_hit hN98 rfl) (by omega) (by omega) ?_
       intro b111 o112 h0b111 h1b111 hc113
       refine st_g_true (j := 8) (dj := 56) (b := true) rfl rfl rfl (ev_hit hN98 rfl) ?_
       refine st_step rfl (fun _ h9 => op_load1 (v := (Value.int .i64 (((A.getD (P.getD i 0).toNat 0) : Nat) : Int))) one3 (ev_hit hN98 rfl) (by have := hc113 0 (Value.int .i64 (((A.getD (P.getD i 0).toNat 0) : Nat) : Int)) (by decide) (el_nv (i := (P.getD i 0).toNat) (by omega) (by omega)); simpa using this) h9) ?_
       refine st_g_true (j := 8) (dj := 56) (b := true) rfl rfl rfl (ev_hit hN98 rfl) ?_
       refine st_step rfl (fun _ h9 => op_move (ev_base hN98 rfl s98_0) h9) ?_
       refine st_g_true (j := 8) (dj := 56) (b := true) rfl rfl rfl (ev_hit hN98 rfl) ?_
       refine st_step rfl (fun _ h9 => op_move (ev_hit hN98 rfl) h9) ?_
       refine st_g_true (j := 8) (dj := 56) (b := true) rfl rfl rfl (ev_hit hN98 rfl) ?_
       refine st_index_rd slt44 (ev_hit hN98 rfl) hr (ev_hit hN98 rfl) (by omega) (by omega) ?_
       intro b114 o115 h0b114 h1b114 hc116
       refine st_g_true (j := 8) (dj := 56) (b := true) rfl rfl rfl (ev_hit hN98 rfl) ?_
       have hs117 : RdC w110 0 w.heap.size 1 (L.getD (P.getD i 0).toNat DU).1 (L.getD (P.getD i 0).toNat DU).2.length ((L.getD (P.getD i 0).toNat DU).2.map u16v) := hall _ (getD_mem (by omega))
       refine st_step rfl (fun _ h9 => op_load1 (v := (L.getD (P.getD i 0).toNat DU).1) one45 (ev_hit hN98 rfl) (by have := hc116 0 (L.getD (P.getD i 0).toNat DU).1 (by decide) (el_ll (i := (P.getD i 0).toNat) (d := DU) (by omega) (by omega)); simpa using this) h9) ?_
       refine st_g_true (j := 8) (dj := 56) (b := true) rfl rfl rfl (ev_hit hN98 rfl) ?_
       refine st_step rfl (fun _ h9 => op_len_rd Try.underlying45 (ev_hit hN98 rfl) hs117 h9) ?_
       refine st_g_true (j := 8) (dj := 56) (b := true) rfl rfl rfl (ev_hit hN98 rfl) ?_
       refine st_step rfl (fun _ h9 => op_cmp (b := (decide ((((A.getD (P.getD i 0).toNat 0) : Nat) : Int) < (((L.getD (P.getD i 0).toNat DU).2.length : Nat) : Int)))) (ev_hit hN98 rfl) (ev_hit hN98 rfl) (b_lss rfl) h9) ?_
       refine st_step rfl (fun _ h9 => op_pick_t (ev_hit hN98 rfl) (ev_hit hN98 rfl) h9) ?_
       refine st_nil ?_
       refine hK108 _ _ ?_
       refine wp_cond_split (ev_hit hN98 rfl) (fun c67 => ?_) (fun c67 => ?_)
       · -- 67T
        have c67 := of_decide_eq_true c67
        refine seq_any fun K118 hK118 => ?_
        refine reg_split (hd := [_, _, _, _, _, _, _, _, _, _, _, _]) (tl := _) 12 mixed (by kernel_rfl) rfl rfl ?_
        refine any_quiet (Φ := phiL [(fun uz _ => uz = r), (fun uz _ => uz = vL), (fun uz _ => uz = (Value.int .i64 (P.getD i 0))), (fun uz w' => ∃ (b119 : (Nat)) (o120 : (Nat)), uz = (ptr b119 o120) ∧ PtC w' 0 w.heap.size b119 o120 [(L.getD (P.getD i 0).toNat DU).1]), (fun uz _ => uz = (L.getD (P.getD i 0).toNat DU).1), (fun uz _ => uz = v80), (fun uz _ => uz = (Value.int .i64 (P.getD i 0))), (fun uz w' => ∃ (b123 : (Nat)) (o124 : (Nat)), uz = (ptr b123 o124) ∧ PtC w' b123 (b123 + 1) b123 o124 [(Value.int .i64 (((A.getD (P.getD i 0).toNat 0) : Nat) : Int))]), (fun uz _ => uz = (Value.int .i64 (((A.getD (P.getD i 0).toNat 0) : Nat) : Int))), (fun uz w' => ∃ (b127 : (Nat)) (o128 : (Nat)), uz = (ptr b127 o128) ∧ PtC w' 0 w.heap.size b127 o128 [(Value.int .u16 (((L.getD (P.getD i 0).toNat DU).2.getD ((A.getD (P.getD i 0).toNat 0)) 0).toNat : Int))]), (fun uz _ => uz = (Value.int .u16 (((L.getD (P.getD i 0).toNat DU).2.getD ((A.getD (P.getD i 0).toNat 0)) 0).toNat : Int))), (fun uz w' => ∃ (b132 : Nat), uz = (Value.slice (some ⟨b132, 0, none⟩) 1 1) ∧ w110.heap.size ≤ b132 ∧ Bx w' b132 46 [(Value.int .u16 (((L.getD (P.getD i 0).toNat DU).2.getD ((A.getD (P.getD i 0).toNat 0)) 0).toNat : Int))])]) (by kernel_rfl) (by kernel_rfl) (by kernel_rfl) hN98 (StL.get (StL.eq (StL.eq (StL.eq (StL.cons (fun u w1 w2 E h => by obtain ⟨x0, x1, hv, f0⟩ := h; exact ⟨x0, x1, hv, f0.keep0 E⟩) (StL.eq (StL.eq (StL.eq (StL.cons (fun u w1 w2 E h => by obtain ⟨x0, x1, hv, f0⟩ := h; exact ⟨x0, x1, hv, f0.keep0 E⟩) (StL.eq (StL.cons (fun u w1 w2 E h => by obtain ⟨x0, x1, hv, f0⟩ := h; exact ⟨x0, x1, hv, f0.keep0 E⟩) (StL.eq (StL.cons (fun u w1 w2 E h => by obtain ⟨x0, hv, l0, f0⟩ := h; exact ⟨x0, hv, l0, f0.keep0 E⟩) (StL.nil _)))))))))))))) (ObL.get (s := 12) (ObL.cons ?_ (ObL.cons ?_ (ObL.cons ?_ (ObL.cons ?_ (ObL.cons ?_ (ObL.cons ?_ (ObL.cons ?_ (ObL.cons ?_ (ObL.cons ?_ (ObL.cons ?_ (ObL.cons ?_ (ObL.cons ?_ (ObL.nil))))))))))))) rfl) ?_
        ·
         intro aA wA hNA hRA hbsA hdpA
         have qA_6 := (hbsA 6 rfl).trans (sl_base hN98 rfl s98_6)
         refine op_move (ev_base hNA rfl qA_6) ?_
         exact obN_end rfl rfl (grown_refl _ _)
        ·
         intro aA wA hNA hRA hbsA hdpA
         have qA_0 := (hbsA 0 rfl).trans (sl_base hN98 rfl s98_0)
         refine op_move (ev_base hNA rfl qA_0) ?_
         exact obN_end rfl rfl (grown_refl _ _)
        ·
         intro aA wA hNA hRA hbsA hdpA
         have qA_9 := (hbsA 9 rfl).trans (sl_hit hN98 rfl)
         refine op_move (ev_base hNA rfl qA_9) ?_
         exact obN_end rfl rfl (grown_refl _ _)
        ·
         intro aA wA hNA hRA hbsA hdpA
         have hRA : w110.grownBy wA none := hRA
         have z_wA := hRA.size
         have hr := hr.keep0 hRA
         have hall : ∀ x9 ∈ L, RdC wA 0 w.heap.size 1 x9.1 x9.2.length (x9.2.map u16v) := fun x9 hx9 => (hall x9 hx9).keep0 hRA
         have hP := hP.keep0 hRA
         have hO99 := hO99.keep0 hRA
         have hO100 := hO100.keep0 hRA
         have hs117 := hs117.keep0 hRA
         have hb := below_step0 hb hRA hb.size
         have qA_69 : Sl aA 69 vL := hdpA 1 _ 69 (by kernel_rfl) rfl rfl
         have qA_70 : Sl aA 70 (Value.int .i64 (P.getD i 0)) := hdpA 2 _ 70 (by kernel_rfl) rfl rfl
         clear hbsA hdpA
         refine op_index_rd slt44 (ev_base hNA rfl qA_69) hr (ev_base hNA rfl qA_70) (by omega) (by omega) ?_
         intro b119 o120 h0b119 h1b119 hc121
         have hp122 : PtC wA 0 w.heap.size b119 o120 [(L.getD (P.getD i 0).toNat DU).1] := ⟨by omega, by omega, fun j u hu => hc121 j u (by have := (List.getElem?_eq_some_iff.1 hu).1; simpa using this) ((fun j u hu => one_at (el_ll (i := (P.getD i 0).toNat) (d := DU) (by omega) (by omega)) hu) j u hu)⟩
         exact obN_end rfl ⟨b119, o120, rfl, hp122⟩ (grown_refl _ _)
        ·
         intro aA wA hNA hRA hbsA hdpA
         have hRA : w110.grownBy wA none := hRA
         have z_wA := hRA.size
         have hr := hr.keep0 hRA
         have hall : ∀ x9 ∈ L, RdC wA 0 w.heap.size 1 x9.1 x9.2.length (x9.2.map u16v) := fun x9 hx9 => (hall x9 hx9).keep0 hRA
         have hP := hP.keep0 hRA
         have hO99 := hO99.keep0 hRA
         have hO100 := hO100.keep0 hRA
         have hs117 := hs117.keep0 hRA
         have hb := below_step0 hb hRA hb.size
         obtain ⟨b119, o120, qA_71, hp122⟩ := hdpA 3 _ 71 (by kernel_rfl) rfl rfl
         have hp122 : PtC wA 0 w.heap.size b119 o120 [(L.getD (P.getD i 0).toNat DU).1] := hp122
         clear hbsA hdpA
         refine op_load1 (v := (L.getD (P.getD i 0).toNat DU).1) one45 (ev_base hNA rfl qA_71) (hp122.2.2 0 _ rfl) ?_
         exact obN_end rfl rfl (grown_refl _ _)
        ·
         intro aA wA hNA hRA hbsA hdpA
         have qA_5 := (hbsA 5 rfl).trans (sl_base hN98 rfl s98_5)
         refine op_move (ev_base hNA rfl qA_5) ?_
         exact obN_end rfl rfl (grown_refl _ _)
        ·
         intro aA wA hNA hRA hbsA hdpA
         have qA_9 := (hbsA 9 rfl).trans (sl_hit hN98 rfl)
         refine op_move (ev_base hNA rfl qA_9) ?_
         exact obN_end rfl rfl (grown_refl _ _)
        ·
         intro aA wA hNA hRA hbsA hdpA
         have hRA : w110.grownBy wA none := hRA
         have z_wA := hRA.size
         have hr := hr.keep0 hRA
         have hall : ∀ x9 ∈ L, RdC wA 0 w.heap.size 1 x9.1 x9.2.length (x9.2.map u16v) := fun x9 hx9 => (hall x9 hx9).keep0 hRA
         have hP := hP.keep0 hRA
         have hO99 := hO99.keep0 hRA
         have hO100 := hO100.keep0 hRA
         have hs117 := hs117.keep0 hRA
         have hb := below_step0 hb hRA hb.size
         have qA_73 : Sl aA 73 v80 := hdpA 5 _ 73 (by kernel_rfl) rfl rfl
         have qA_74 : Sl aA 74 (Value.int .i64 (P.getD i 0)) := hdpA 6 _ 74 (by kernel_rfl) rfl rfl
         clear hbsA hdpA
         refine op_index_rd slt35 (ev_base hNA rfl qA_73) hO100.rdw (ev_base hNA rfl qA_74) (by omega) (by omega) ?_
         intro b123 o124 h0b123 h1b123 hc125
         have hp126 : PtC wA b123 (b123 + 1) b123 o124 [(Value.int .i64 (((A.getD (P.getD i 0).toNat 0) : Nat) : Int))] := ⟨by omega, by omega, fun j u hu => hc125 j u (by have := (List.getElem?_eq_some_iff.1 hu).1; simpa using this) ((fun j u hu => one_at (el_nv (i := (P.getD i 0).toNat) (by omega) (by omega)) hu) j u hu)⟩
         exact obN_end rfl ⟨b123, o124, rfl, hp126⟩ (grown_refl _ _)
        ·
         intro aA wA hNA hRA hbsA hdpA
         have hRA : w110.grownBy wA none := hRA
         have z_wA := hRA.size
         have hr := hr.keep0 hRA
         have hall : ∀ x9 ∈ L, RdC wA 0 w.heap.size 1 x9.1 x9.2.length (x9.2.map u16v) := fun x9 hx9 => (hall x9 hx9).keep0 hRA
         have hP := hP.keep0 hRA
         have hO99 := hO99.keep0 hRA
         have hO100 := hO100.keep0 hRA
         have hs117 := hs117.keep0 hRA
         have hb := below_step0 hb hRA hb.size
         obtain ⟨b123, o124, qA_75, hp126⟩ := hdpA 7 _ 75 (by kernel_rfl) rfl rfl
         have hp126 : PtC wA b123 (b123 + 1) b123 o124 [(Value.int .i64 (((A.getD (P.getD i 0).toNat 0) : Nat) : Int))] := hp126
         clear hbsA hdpA
         refine op_load1 (v := (Value.int .i64 (((A.getD (P.getD i 0).toNat 0) : Nat) : Int))) one3 (ev_base hNA rfl qA_75) (hp126.2.2 0 _ rfl) ?_
         exact obN_end rfl rfl (grown_refl _ _)
        ·
         intro aA wA hNA hRA hbsA hdpA
         have hRA : w110.grownBy wA none := hRA
         have z_wA := hRA.size
         have hr := hr.keep0 hRA
         have hall : ∀ x9 ∈ L, RdC wA 0 w.heap.size 1 x9.1 x9.2.length (x9.2.map u16v) := fun x9 hx9 => (hall x9 hx9).keep0 hRA
         have hP := hP.keep0 hRA
         have hO99 := hO99.keep0 hRA
         have hO100 := hO100.keep0 hRA
         have hs117 := hs117.keep0 hRA
         have hb := below_step0 hb hRA hb.size
         have qA_72 : Sl aA 72 (L.getD (P.getD i 0).toNat DU).1 := hdpA 4 _ 72 (by kernel_rfl) rfl rfl
         have qA_76 : Sl aA 76 (Value.int .i64 (((A.getD (P.getD i 0).toNat 0) : Nat) : Int)) := hdpA 8 _ 76 (by kernel_rfl) rfl rfl
         clear hbsA hdpA
         refine op_index_rd slt45 (ev_base hNA rfl qA_72) hs117 (ev_base hNA rfl qA_76) (by omega) (by omega) ?_
         intro b127 o128 h0b127 h1b127 hc129
         have hp130 : PtC wA 0 w.heap.size b127 o128 [(Value.int .u16 (((L.getD (P.getD i 0).toNat DU).2.getD ((A.getD (P.getD i 0).toNat 0)) 0).toNat : Int))] := ⟨by omega, by omega, fun j u hu => hc129 j u (by have := (List.getElem?_eq_some_iff.1 hu).1; simpa using this) ((fun j u hu => one_at (el_u16 (i := ((A.getD (P.getD i 0).toNat 0))) (by omega) (by omega)) hu) j u hu)⟩
         exact obN_end rfl ⟨b127, o128, rfl, hp130⟩ (grown_refl _ _)
        ·
         intro aA wA hNA hRA hbsA hdpA
         have hRA : w110.grownBy wA none := hRA
         have z_wA := hRA.size
         have hr := hr.keep0 hRA
         have hall : ∀ x9 ∈ L, RdC wA 0 w.heap.size 1 x9.1 x9.2.length (x9.2.map u16v) := fun x9 hx9 => (hall x9 hx9).keep0 hRA
         have hP := hP.keep0 hRA
         have hO99 := hO99.keep0 hRA
         have hO100 := hO100.keep0 hRA
         have hs117 := hs117.keep0 hRA
         have hb := below_step0 hb hRA hb.size
         obtain ⟨b127, o128, qA_77, hp130⟩ := hdpA 9 _ 77 (by kernel_rfl) rfl rfl
         have hp130 : PtC wA 0 w.heap.size b127 o128 [(Value.int .u16 (((L.getD (P.getD i 0).toNat DU).2.getD ((A.getD (P.getD i 0).toNat 0)) 0).toNat : Int))] := hp130
         clear hbsA hdpA
         refine op_load1 (v := (Value.int .u16 (((L.getD (P.getD i 0).toNat DU).2.getD ((A.getD (P.getD i 0).toNat 0)) 0).toNat : Int))) one46 (ev_base hNA rfl qA_77) (hp130.2.2 0 _ rfl) ?_
         exact obN_end rfl rfl (grown_refl _ _)
        ·
         intro aA wA hNA hRA hbsA hdpA
         have hRA : w110.grownBy wA none := hRA
         have z_wA := hRA.size
         have hr := hr.keep0 hRA
         have hall : ∀ x9 ∈ L, RdC wA 0 w.heap.size 1 x9.1 x9.2.length (x9.2.map u16v) := fun x9 hx9 => (hall x9 hx9).keep0 hRA
         have hP := hP.keep0 hRA
         have hO99 := hO99.keep0 hRA
         have hO100 := hO100.keep0 hRA
         have hs117 := hs117.keep0 hRA
         have hb := below_step0 hb hRA hb.size
         have qA_78 : Sl aA 78 (Value.int .u16 (((L.getD (P.getD i 0).toNat DU).2.getD ((A.getD (P.getD i 0).toNat 0)) 0).toNat : Int)) := hdpA 10 _ 78 (by kernel_rfl) rfl rfl
         clear hbsA hdpA
         refine op_bslice (e := 46) (pv := [(0, (Value.int .u16 (((L.getD (P.getD i 0).toNat DU).2.getD ((A.getD (P.getD i 0).toNat 0)) 0).toNat : Int)))]) (cs := [(Value.int .u16 (((L.getD (P.getD i 0).toNat DU).2.getD ((A.getD (P.getD i 0).toNat 0)) 0).toNat : Int))]) ⟨rfl, (ev_base hNA rfl qA_78), trivial⟩ (by kernel_rfl) ?_
         intro w131 b132 lo_b132 hi_b132 hB134 E133
         have ne_b132_r : r.ownBlock ≠ some b132 := fun hh => by have := (hO99.lt _ hh).2; omega
         have z_w131 := E133.size
         have hr := hr.keep0 E133
         have hall : ∀ x9 ∈ L, RdC w131 0 w.heap.size 1 x9.1 x9.2.length (x9.2.map u16v) := fun x9 hx9 => (hall x9 hx9).keep0 E133
         have hP := hP.keep0 E133
         have hO99 := hO99.keep0 E133
         have hO100 := hO100.keep0 E133
         have hs117 := hs117.keep0 E133
         have hb := below_step0 hb E133 hb.size
         exact obN_end rfl ⟨b132, rfl, (by omega), hB134⟩ (E133)
        ·
         intro a135 w135 hN135 hd135 hbs135 hph135 E135
         have hd135 := hd135.trans hd98
         have s135_0 := (hbs135 0 rfl).trans (sl_base hN98 rfl s98_0)
         have s135_1 := (hbs135 1 rfl).trans (sl_base hN98 rfl s98_1)
         have s135_5 := (hbs135 5 rfl).trans (sl_base hN98 rfl s98_5)
         have s135_6 := (hbs135 6 rfl).trans (sl_base hN98 rfl s98_6)
         have s135_8 := (hbs135 8 rfl).trans (sl_base hN98 rfl s98_8)
         have s135_9 := (hbs135 9 rfl).trans (sl_hit hN98 rfl)
         have s135_68 : Sl a135 68 r := hph135 0 _ 68 rfl rfl
         obtain ⟨b132, s135_79, l135_0, hB134⟩ := hph135 11 _ 79 rfl rfl
         have hB134 : Bx w135 b132 46 [(Value.int .u16 (((L.getD (P.getD i 0).toNat DU).2.getD ((A.getD (P.getD i 0).toNat 0)) 0).toNat : Int))] := hB134
         have hi_b132 := hB134.lt
         have ne_b132_r : r.ownBlock ≠ some b132 := fun hh => by have := (hO99.lt _ hh).2; omega
         clear hbs135 hph135
         have E135 : w110.grownBy w135 none := E135
         have z_w135 := E135.size
         have hr := hr.keep0 E135
         have hall : ∀ x9 ∈ L, RdC w135 0 w.heap.size 1 x9.1 x9.2.length (x9.2.map u16v) := fun x9 hx9 => (hall x9 hx9).keep0 E135
         have hP := hP.keep0 E135
         have hO99 := hO99.keep0 E135
         have hO100 := hO100.keep0 E135
         have hs117 := hs117.keep0 E135
         have hb := below_step0 hb E135 hb.size
         refine split_end ?_
         refine from_seq (tl := [_, _]) (by decide) (by kernel_rfl) rfl ?_
         have hP141 := hO99
         refine op_append slt45 (ev_base hN135 rfl s135_68) hP141 (ev_base hN135 rfl s135_79) (Src.ofRd Try.underlying45 (by decide) (RdC.ofBx (sz := 1) (n := 1) hB134 rfl (by decide)) (by simp [Value.oneCell', u8v])) (by unfold maxLen; omega) (by omega) hb.size ?_
         intro v136 w137 hO139 E138 hm140
         have z_w137 := E138.size
         have hr := hr.keepO hP141 E138 (by omega)
         have hall : ∀ x9 ∈ L, RdC w137 0 w.heap.size 1 x9.1 x9.2.length (x9.2.map u16v) := fun x9 hx9 => (hall x9 hx9).keepO hP141 E138 (by omega)
         have hP := hP.keepO hP141 E138 (by omega)
         have hO100 := hO100.keepT hP141 E138 (by decide)
         have hs117 := hs117.keepO hP141 E138 (by omega)
         have hB134 := hB134.keep E138 (fun hh => ne_b132_r hh.symm)
         have hb := below_stepO hb hP141 E138 hb.size (by omega)
         have hO139 : Own w137 w.heap.size 46 1 v136 (W.length + 1) (((W ++ [((L.getD (P.getD i 0).toNat DU).2.getD ((A.getD (P.getD i 0).toNat 0)) 0)])).map u16v) := by simpa [u8v, u16v, sv] using hO139
         have ne_b132_v136 : v136.ownBlock ≠ some b132 := ne_step (w1 := w135) ⟨E138, hm140⟩ (by omega) ne_b132_r
         refine op_assign (ev_hit hN135 rfl) ?_
         refine reg_nil ?_
         refine hK118 _ _ ?_
         refine one_reg ?_
         refine op_move (ev_base hN135 rfl s135_5) ?_
         refine op_move (ev_base hN135 rfl s135_9) ?_
         refine op_index_rd slt35 (ev_hit hN135 rfl) hO100.rdw (ev_hit hN135 rfl) (by omega) (by omega) ?_
         intro b142 o143 h0b142 h1b142 hc144
         have hcP := hc0 _ (getD_mem (d := DU) (show (P.getD i 0).toNat < L.length by omega))
         refine op_load1 (v := (Value.int .i64 (((A.getD (P.getD i 0).toNat 0) : Nat) : Int))) one3 (ev_hit hN135 rfl) (by have := hc144 0 (Value.int .i64 (((A.getD (P.getD i 0).toNat 0) : Nat) : Int)) (by decide) (el_nv (i := (P.getD i 0).toNat) (by omega) (by omega)); simpa using this) ?_
         refine op_add (ev_hit hN135 rfl) rfl (add64 (by omega)) ?_
         refine op_index_own (i := (P.getD i 0).toNat) slt35 (ev_hit hN135 rfl) hO100 (ev_hit hN135 rfl) (by omega) (by omega) ?_
         intro b145 o146 lo_b145 hA147
         have hA147 : AtV v80 ((P.getD i 0).toNat) b145 o146 := by simpa using hA147
         have hP150 := hO100
         refine op_store_own (vs := [(Value.int .i64 ((((A.getD (P.getD i 0).toNat 0) : Nat) : Int) + 1))]) size3 (ev_hit hN135 rfl) (ev_hit hN135 rfl) rfl rfl rfl hP150 hA147 (by have := hP150.1; simp only [List.length_cons, List.length_nil]; omega) ?_
         intro w148 hO151 E149
         have z_w148 := E149.size
         have hr := hr.keepO hP150 E149 (by omega)
         have hall : ∀ x9 ∈ L, RdC w148 0 w.heap.size 1 x9.1 x9.2.length (x9.2.map u16v) := fun x9 hx9 => (hall x9 hx9).keepO hP150 E149 (by omega)
         have hP := hP.keepO hP150 E149 (by omega)
         have hs117 := hs117.keepO hP150 E149 (by omega)
         have hB134 := hB134.keepO hP150 E149 (by decide)
         have hO139 := hO139.keepT hP150 E149 (by decide)
         have hb := below_stepO hb hP150 E149 hb.size (by omega)
         have hO151 : Own w148 w.heap.size 3 1 v80 A.length (((A.set (P.getD i 0).toNat (A.getD (P.getD i 0).toNat 0 + 1))).map nv) := by exact hO151.cast rfl (by simpa [nv] using set_nv (A := A) (k := (P.getD i 0).toNat) (x := A.getD (P.getD i 0).toNat 0 + 1) (by omega))
         refine reg_nil ?_
         refine hK103 _ _ ?_
         refine one_reg ?_
         refine op_move (ev_base hN135 rfl s135_8) ?_
         refine op_add (ev_hit hN135 rfl) rfl (add64 (by omega)) ?_
         refine op_assign (ev_hit hN135 rfl) ?_
         refine reg_nil ?_
         -- round 17F 21F 29F 41T 49T 54T 67T
         exact loop_next _ hN135 hd135 ⟨(i + 1), (A.set (P.getD i 0).toNat (A.getD (P.getD i 0).toNat 0 + 1)), v136, (W ++ [((L.getD (P.getD i 0).toNat DU).2.getD ((A.getD (P.getD i 0).toNat 0)) 0)]), rfl, (sl_base hN135 rfl s135_0), (sl_base hN135 rfl s135_1), (sl_base hN135 rfl s135_5), (sl_hit hN135 rfl).trans (congrArg (Value.int .i64) (by omega)), (sl_hit hN135 rfl), (by omega), (by first | omega | (simp; omega)), (by rw [mgRun_step (by omega)]; exact (at_takeM hA (k := (P.getD i 0).toNat) (by omega) (by omega) (by omega)).1), (hAt.step (by omega)), (by rw [mgRun_step (by omega), (at_takeM hA (k := (P.getD i 0).toNat) (by omega) (by omega) (by omega)).2, hW]), (by first | omega | (simp; omega)), hb, (by omega), hr, hall, hP, (hO139.cast (by first | rfl | (simp; done)) rfl), (hO151.cast (by first | rfl | (simp; done)) rfl)⟩ (by omega)
       · -- 67F
        have c67 := of_decide_eq_false c67
        refine wp_skip ?_
        refine hK103 _ _ ?_
        refine one_reg ?_
        refine op_move (ev_base hN98 rfl s98_8) ?_
        refine op_add (ev_hit hN98 rfl) rfl (add64 (by omega)) ?_
        refine op_assign (ev_hit hN98 rfl) ?_
        refine reg_nil ?_
        -- round 17F 21F 29F 41T 49T 54T 67F
        exact loop_next _ hN98 hd98 ⟨(i + 1), A, r, W, rfl, (sl_base hN98 rfl s98_0), (sl_base hN98 rfl s98_1), (sl_base hN98 rfl s98_5), (sl_hit hN98 rfl).trans (congrArg (Value.int .i64) (by omega)), (sl_base hN98 rfl s98_6), (by omega), (by first | omega | (simp; omega)), (by rw [mgRun_step (by omega), at_skipM hA (.inr (.inr ⟨(P.getD i 0).toNat, by omega, by omega⟩))]; exact hA), hAt, (by rw [mgRun_step (by omega), at_skipM hA (.inr (.inr ⟨(P.getD i 0).toNat, by omega, by omega⟩))]; exact hW), (by first | omega | (simp; omega)), hb, (by omega), hr, hall, hP, (hO99.cast (by first | rfl | (simp; done)) rfl), (hO100.cast (by first | rfl | (simp; done)) rfl)⟩ (by omega)
      · -- 54F
       refine st_step rfl (fun _ h9 => op_cmp (b := false) (ev_hit hN98 rfl) (ev_hit hN98 rfl) (b_lss (decide_eq_false g54)) h9) ?_
       refine st_step rfl (fun _ h9 => op_pick_t (ev_hit hN98 rfl) (ev_hit hN98 rfl) h9) ?_
       refine st_step rfl (fun _ h9 => op_move (ev_hit hN98 rfl) h9) ?_
       refine st_g_false (j := 8) (dj := 56) (b := true) rfl rfl rfl (ev_hit hN98 rfl) rfl rfl ?_
       refine st_g_false (j := 8) (dj := 56) (b := true) rfl rfl rfl (ev_hit hN98 rfl) rfl rfl ?_
       refine st_g_false (j := 8) (dj := 56) (b := true) rfl rfl rfl (ev_hit hN98 rfl) rfl rfl ?_
       refine st_g_false (j := 8) (dj := 56) (b := true) rfl rfl rfl (ev_hit hN98 rfl) rfl rfl ?_
       refine st_g_false (j := 8) (dj := 56) (b := true) rfl rfl rfl (ev_hit hN98 rfl) rfl rfl ?_
       refine st_g_false (j := 8) (dj := 56) (b := true) rfl rfl rfl (ev_hit hN98 rfl) rfl rfl ?_
       refine st_g_false (j := 8) (dj := 56) (b := true) rfl rfl rfl (ev_hit hN98 rfl) rfl rfl ?_
       refine st_g_false (j := 8) (dj := 56) (b := true) rfl rfl rfl (ev_hit hN98 rfl) rfl rfl ?_
       refine st_g_false (j := 8) (dj := 56) (b := true) rfl rfl rfl (ev_hit hN98 rfl) rfl rfl ?_
       refine st_g_false (j := 8) (dj := 56) (b := true) rfl rfl rfl (ev_hit hN98 rfl) rfl rfl ?_
       refine st_step rfl (fun _ h9 => op_pick_f (ev_hit hN98 rfl) rfl h9) ?_
       refine st_nil ?_
       refine hK108 _ _ ?_
       refine wp_cond_false (ev_hit hN98 rfl) ?_
       refine wp_skip ?_
       refine hK103 _ _ ?_
       refine one_reg ?_
       refine op_move (ev_base hN98 rfl s98_8) ?_
       refine op_add (ev_hit hN98 rfl) rfl (add64 (by omega)) ?_
       refine op_assign (ev_hit hN98 rfl) ?_
       refine reg_nil ?_
       -- round 17F 21F 29F 41T 49T 54F
       exact loop_next _ hN98 hd98 ⟨(i + 1), A, r, W, rfl, (sl_base hN98 rfl s98_0), (sl_base hN98 rfl s98_1), (sl_base hN98 rfl s98_5), (sl_hit hN98 rfl).trans (congrArg (Value.int .i64) (by omega)), (sl_base hN98 rfl s98_6), (by omega), (by first | omega | (simp; omega)), (by rw [mgRun_step (by omega), at_skipM hA (.inr (.inl (by omega)))]; exact hA), hAt, (by rw [mgRun_step (by omega), at_skipM hA (.inr (.inl (by omega)))]; exact hW), (by first | omega | (simp; omega)), hb, (by omega), hr, hall, hP, (hO99.cast (by first | rfl | (simp; done)) rfl), (hO100.cast (by first | rfl | (simp; done)) rfl)⟩ (by omega)
     · -- 49F
      refine st_step rfl (fun _ h9 => op_cmp (b := false) (ev_hit hN98 rfl) rfl (b_geq (decide_eq_false g49)) h9) ?_
      refine st_step rfl (fun _ h9 => op_move (ev_hit hN98 rfl) h9) ?_
      refine st_g_false (j := 2) (dj := 50) (b := true) rfl rfl rfl (ev_hit hN98 rfl) rfl rfl ?_
      refine st_g_false (j := 2) (dj := 50) (b := true) rfl rfl rfl (ev_hit hN98 rfl) rfl rfl ?_
      refine st_g_false (j := 2) (dj := 50) (b := true) rfl rfl rfl (ev_hit hN98 rfl) rfl rfl ?_
      refine st_g_false (j := 2) (dj := 50) (b := true) rfl rfl rfl (ev_hit hN98 rfl) rfl rfl ?_
      refine st_step rfl (fun _ h9 => op_pick_f (ev_hit hN98 rfl) rfl h9) ?_
      refine st_step rfl (fun _ h9 => op_move (ev_hit hN98 rfl) h9) ?_
      refine st_g_false (j := 8) (dj := 56) (b := true) rfl rfl rfl (ev_hit hN98 rfl) rfl rfl ?_
      refine st_g_false (j := 8) (dj := 56) (b := true) rfl rfl rfl (ev_hit hN98 rfl) rfl rfl ?_
      refine st_g_false (j := 8) (dj := 56) (b := true) rfl rfl rfl (ev_hit hN98 rfl) rfl rfl ?_
      refine st_g_false (j := 8) (dj := 56) (b := true) rfl rfl rfl (ev_hit hN98 rfl) rfl rfl ?_
      refine st_g_false (j := 8) (dj := 56) (b := true) rfl rfl rfl (ev_hit hN98 rfl) rfl rfl ?_
      refine st_g_false (j := 8) (dj := 56) (b := true) rfl rfl rfl (ev_hit hN98 rfl) rfl rfl ?_
      refine st_g_false (j := 8) (dj := 56) (b := true) rfl rfl rfl (ev_hit hN98 rfl) rfl rfl ?_
      refine st_g_false (j := 8) (dj := 56) (b := true) rfl rfl rfl (ev_hit hN98 rfl) rfl rfl ?_
      refine st_g_false (j := 8) (dj := 56) (b := true) rfl rfl rfl (ev_hit hN98 rfl) rfl rfl ?_
      refine st_g_false (j := 8) (dj := 56) (b := true) rfl rfl rfl (ev_hit hN98 rfl) rfl rfl ?_
      refine st_step rfl (fun _ h9 => op_pick_f (ev_hit hN98 rfl) rfl h9) ?_
      refine st_nil ?_
      refine hK108 _ _ ?_
      refine wp_cond_false (ev_hit hN98 rfl) ?_
      refine wp_skip ?_
      refine hK103 _ _ ?_
      refine one_reg ?_
      refine op_move (ev_base hN98 rfl s98_8) ?_
      refine op_add (ev_hit hN98 rfl) rfl (add64 (by omega)) ?_
      refine op_assign (ev_hit hN98 rfl) ?_
      refine reg_nil ?_
      -- round 17F 21F 29F 41T 49F
      exact loop_next _ hN98 hd98 ⟨(i + 1), A, r, W, rfl, (sl_base hN98 rfl s98_0), (sl_base hN98 rfl s98_1), (sl_base hN98 rfl s98_5), (sl_hit hN98 rfl).trans (congrArg (Value.int .i64) (by omega)), (sl_base hN98 rfl s98_6), (by omega), (by first | omega | (simp; omega)), (by rw [mgRun_step (by omega), at_skipM hA (.inl (by omega))]; exact hA), hAt, (by rw [mgRun_step (by omega), at_skipM hA (.inl (by omega))]; exact hW), (by first | omega | (simp; omega)), hb, (by omega), hr, hall, hP, (hO99.cast (by first | rfl | (simp; done)) rfl), (hO100.cast (by first | rfl | (simp; done)) rfl)⟩ (by omega)
    · -- 41F
     refine reg_nil ?_
     refine hK102 _ _ ?_
     refine wp_cond_false (ev_hit hN98 rfl) ?_
     refine wp_exit (then_exit (then_exit (blk_hit ?_)))
     refine hK96 _ _ ?_
     refine seq_any fun K152 hK152 => ?_
     refine seq_any fun K153 hK153 => ?_
     refine one_reg ?_
     refine op_assign rfl ?_
     refine reg_nil ?_
     refine hK153 _ _ ?_
     refine wp_block ?_
     have hi9 : i = P.length := by omega
     have hA9 : AtIs (L.map Prod.snd) A (mgRun (L.map Prod.snd) P).1 := by rw [List.take_of_length_le (by omega)] at hA; exact hA
     have hW9 : (mgRun (L.map Prod.snd) P).2 = W := by rw [List.take_of_length_le (by omega)] at hW; exact hW
     have hAS := hA9.le
     refine loop_m (fun mz_ az_ w' => ∃ (k : Nat) (r3 : Value), mz_ = L.length - k ∧ (az_.tmps.getD 0 undef = vL) ∧ (az_.tmps.getD 1 undef = vP) ∧ (az_.tmps.getD 5 undef = v80) ∧ (az_.tmps.getD 10 undef = (Value.int .i64 ((k : Nat) : Int))) ∧ (az_.tmps.getD 6 undef = r3) ∧ (k ≤ L.length) ∧ ((W ++ (((mgRun (L.map Prod.snd) P).1.take k).flatten)).length ≤ 60 + k * 20) ∧ (Below w.heap.size w w') ∧ (w98.heap.size ≤ w'.heap.size) ∧ (RdC w' 0 w.heap.size 1 vL L.length (L.flatMap (fun x9 => [x9.1]))) ∧ (∀ x9 ∈ L, RdC w' 0 w.heap.size 1 x9.1 x9.2.length (x9.2.map u16v)) ∧ (RdC w' 0 w.heap.size 1 vP P.length (P.map (Value.int .i64))) ∧ (Own w' w.heap.size 3 1 v80 A.length (A.map nv)) ∧ (Own w' w.heap.size 46 1 r3 (W ++ (((mgRun (L.map Prod.snd) P).1.take k).flatten)).length ((W ++ (((mgRun (L.map Prod.snd) P).1.take k).flatten)).map u16v))) _ hN98 hd98 ⟨0, r, rfl, (sl_base hN98 rfl s98_0), (sl_base hN98 rfl s98_1), (sl_base hN98 rfl s98_5), (sl_hit hN98 rfl), (sl_base hN98 rfl s98_6), (Nat.zero_le _), (by simp; omega), hb, (Nat.le_refl _), hr, hall, hP, hO100, (hO99.cast (by simp) (by simp))⟩ ?_
     rintro _ a154 w154 hN154 hd154 ⟨k, r3, rfl, s154_0, s154_1, s154_5, s154_10, s154_6, hk, hfl, hb, zl_w154, hr, hall, hP, hO100, hO155⟩
     have z_w154 := hb.size
     refine seq_any fun K156 hK156 => ?_
     refine seq_any fun K157 hK157 => ?_
     refine one_reg ?_
     refine op_move (ev_base hN154 rfl s154_10) ?_
     refine op_move (ev_base hN154 rfl s154_0) ?_
     refine op_len_rd Try.underlying44 (ev_hit hN154 rfl) hr ?_
     refine op_lss (ev_hit hN154 rfl) (ev_hit hN154 rfl) (fun c90 => ?_) (fun c90 => ?_)
     · -- 90T
      refine reg_nil ?_
      refine hK157 _ _ ?_
      refine wp_cond_true (ev_hit hN154 rfl) ?_
      refine wp_skip ?_
      refine hK156 _ _ ?_
      refine seq_any fun K158 hK158 => ?_
      refine wp_block ?_
      have hk9 := hAt k
      have hcc := hc0 _ (getD_mem (d := DU) (show k < L.length by omega))
      refine reg_from mixed ?_
      intro w160 E159
      have z_w160 := E159.size
      have hr := hr.keep0 E159
      have hall : ∀ x9 ∈ L, RdC w160 0 w.heap.size 1 x9.1 x9.2.length (x9.2.map u16v) := fun x9 hx9 => (hall x9 hx9).keep0 E159
      have hP := hP.keep0 E159
      have hO100 := hO100.keep0 E159
      have hO155 := hO155.keep0 E159
      have hb := below_step0 hb E159 hb.size
      refine from_still (m := 10) 10 (hd := [_, _, _, _, _, _, _, _, _, _]) (by kernel_rfl) rfl rfl ?_
      refine st_step rfl (fun _ h9 => op_move (ev_base hN154 rfl s154_6) h9) ?_
      refine st_step rfl (fun _ h9 => op_move (ev_base hN154 rfl s154_0) h9) ?_
      refine st_step rfl (fun _ h9 => op_move (ev_base hN154 rfl s154_10) h9) ?_
      refine st_index_rd slt44 (ev_hit hN154 rfl) hr (ev_hit hN154 rfl) (by omega) (by omega) ?_
      intro b161 o162 h0b161 h1b161 hc163
      have hs164 : RdC w160 0 w.heap.size 1 (L.getD k DU).1 (L.getD k DU).2.length ((L.getD k DU).2.map u16v) := hall _ (getD_mem (by omega))
      refine st_step rfl (fun _ h9 => op_load1 (v := (L.getD k DU).1) one45 (ev_hit hN154 rfl) (by have := hc163 0 (L.getD k DU).1 (by decide) (el_ll (i := k) (d := DU) (by omega) (by omega)); simpa using this) h9) ?_
      refine st_step rfl (fun _ h9 => op_move (ev_base hN154 rfl s154_5) h9) ?_
      refine st_step rfl (fun _ h9 => op_move (ev_base hN154 rfl s154_10) h9) ?_
      refine st_index_rd slt35 (ev_hit hN154 rfl) hO100.rdw (ev_hit hN154 rfl) (by omega) (by omega) ?_
      intro b165 o166 h0b165 h1b165 hc167
      refine st_step rfl (fun _ h9 => op_load1 (v := (Value.int .i64 (((A.getD k 0) : Nat) : Int))) one3 (ev_hit hN154 rfl) (by have := hc167 0 (Value.int .i64 (((A.getD k 0) : Nat) : Int)) (by decide) (el_nv (i := k) (by omega) (by omega)); simpa using this) h9) ?_
      refine st_slice_rd (lo := ((A.getD k 0))) (hi := (L.getD k DU).2.length) slt45 (ev_hit hN154 rfl) hs164 (.inr ⟨_, _, rfl, (ev_hit hN154 rfl)⟩) (.inl ⟨rfl, rfl⟩) (by omega) (by omega) ?_
      intro v168 hR169
      have hR169 : RdC w160 0 w.heap.size 1 v168 ((L.getD k DU).2.length - ((A.getD k 0))) ((((L.getD k DU).2.drop ((A.getD k 0)))).map u16v) := by simpa [List.map_drop, List.map_take, List.take_of_length_le] using hR169
      refine st_nil ?_
      refine from_seq (tl := [_, _]) (by decide) (by kernel_rfl) rfl ?_
      have hP175 := hO155
      refine op_append slt45 (ev_hit hN154 rfl) hP175 (ev_hit hN154 rfl) (Src.ofRd Try.underlying45 (by decide) hR169 (one_u16 _)) (by unfold maxLen; omega) (by omega) hb.size ?_
      intro v170 w171 hO173 E172 hm174
      have z_w171 := E172.size
      have hr := hr.keepO hP175 E172 (by omega)
      have hall : ∀ x9 ∈ L, RdC w171 0 w.heap.size 1 x9.1 x9.2.length (x9.2.map u16v) := fun x9 hx9 => (hall x9 hx9).keepO hP175 E172 (by omega)
      have hP := hP.keepO hP175 E172 (by omega)
      have hO100 := hO100.keepT hP175 E172 (by decide)
      have hs164 := hs164.keepO hP175 E172 (by omega)
      have hR169 := hR169.keepO hP175 E172 (by omega)
      have hb := below_stepO hb hP175 E172 hb.size (by omega)
      have hO173 : Own w171 w.heap.size 46 1 v170 ((W ++ (((mgRun (L.map Prod.snd) P).1.take k).flatten)).length + ((L.getD k DU).2.length - ((A.getD k 0)))) ((((W ++ (((mgRun (L.map Prod.snd) P).1.take k).flatten)) ++ ((L.getD k DU).2.drop ((A.getD k 0))))).map u16v) := by simpa [u8v, u16v, sv] using hO173
      refine op_assign (ev_hit hN154 rfl) ?_
      refine reg_nil ?_
      refine hK158 _ _ ?_
      refine one_reg ?_
      refine op_move (ev_base hN154 rfl s154_10) ?_
      refine op_add (ev_hit hN154 rfl) rfl (add64 (by omega)) ?_
      refine op_assign (ev_hit hN154 rfl) ?_
      refine reg_nil ?_
      -- round 17F 21F 29F 41F 90T
      exact loop_next _ hN154 hd154 ⟨(k + 1), v170, rfl, (sl_base hN154 rfl s154_0), (sl_base hN154 rfl s154_1), (sl_base hN154 rfl s154_5), (sl_hit hN154 rfl).trans (congrArg (Value.int .i64) (by omega)), (sl_hit hN154 rfl), (by omega), (by rw [at_flatM hA9 (by omega), ← List.append_assoc, List.length_append, List.length_drop]; omega), hb, (by omega), hr, hall, hP, hO100, (hO173.cast (by rw [at_flatM hA9 (by omega), ← List.append_assoc, List.length_append (bs := List.drop _ _), List.length_drop]) (by rw [at_flatM hA9 (by omega)]; simp [List.append_assoc]))⟩ (by omega)
     · -- 90F
      refine reg_nil ?_
      refine hK157 _ _ ?_
      refine wp_cond_false (ev_hit hN154 rfl) ?_
      refine wp_exit (then_exit (then_exit (blk_hit ?_)))
      refine hK152 _ _ ?_
      refine seq_any fun K176 hK176 => ?_
      refine one_reg ?_
      refine op_move (ev_base hN154 rfl s154_0) ?_
      refine op_move (ev_base hN154 rfl s154_1) ?_
      have hc9 : ∀ x ∈ L, x.2.length ≤ 1000 := fun x hx => Nat.le_trans (hc0 x hx) (by decide)
      refine op_fn (vs := [vL, vP]) ok30 ⟨(ev_hit hN154 rfl), ⟨(ev_hit hN154 rfl), trivial⟩⟩ (Merge_ret L P _ _ _ (by omega) hc9 (hr.mono (Nat.zero_le _) (by omega)) (fun x hx => (hall x hx).mono (Nat.zero_le _) (by omega)) (by omega) (hP.mono (Nat.zero_le _) (by omega))) ?_
      rintro v177 w178 ⟨E179, hO177⟩
      have dj180 : DJ v177 r3 := fun k hk hg => by have q1 := (hO177.lt k hk).1; have q2 := (hO155.lt k hg).2; omega
      have E179 := grown_of_below E179
      have z_w178 := E179.size
      have hr := hr.keep0 E179
      have hall : ∀ x9 ∈ L, RdC w178 0 w.heap.size 1 x9.1 x9.2.length (x9.2.map u16v) := fun x9 hx9 => (hall x9 hx9).keep0 E179
      have hP := hP.keep0 E179
      have hO100 := hO100.keep0 E179
      have hO155 := hO155.keep0 E179
      have hb := below_step0 hb E179 hb.size
      have hO177 := hO177.mono (base' := w.heap.size) (by omega)
      have hq9 : mgOut (L.map Prod.snd) P = (W ++ (((mgRun (L.map Prod.snd) P).1.take k).flatten)) := by unfold mgOut; rw [hW9, List.take_of_length_le (by omega)]
      refine op_assign (ev_hit hN154 rfl) ?_
      refine reg_nil ?_
      refine hK176 _ _ ?_
      refine seq_any fun K181 hK181 => ?_
      refine seq_any fun K182 hK182 => ?_
      refine one_reg ?_
      refine op_move (ev_hit hN154 rfl) ?_
      refine op_len_rd Try.underlying45 (ev_hit hN154 rfl) hO177.rdw ?_
      refine op_move (ev_base hN154 rfl s154_6) ?_
      refine op_len_rd Try.underlying45 (ev_hit hN154 rfl) hO155.rdw ?_
      refine op_neq (ev_hit hN154 rfl) (ev_hit hN154 rfl) (fun c111 => ?_) (fun c111 => ?_)
      · -- 111T
       exfalso; have := congrArg List.length hq9; omega
      · -- 111F
       refine reg_nil ?_
       refine hK182 _ _ ?_
       refine wp_cond_false (ev_hit hN154 rfl) ?_
       refine wp_skip ?_
       refine hK181 _ _ ?_
       refine seq_any fun K183 hK183 => ?_
       refine seq_any fun K184 hK184 => ?_
       refine one_reg ?_
       refine op_assign rfl ?_
       refine reg_nil ?_
       refine hK184 _ _ ?_
       refine wp_block ?_
       have hq8 := congrArg List.length hq9
       refine loop_m (fun mz_ az_ w' => ∃ (j : Nat), mz_ = (mgOut (L.map Prod.snd) P).length - j ∧ (az_.tmps.getD 6 undef = r3) ∧ (az_.tmps.getD 11 undef = v177) ∧ (az_.tmps.getD 12 undef = (Value.int .i64 ((j : Nat) : Int))) ∧ (j ≤ (mgOut (L.map Prod.snd) P).length) ∧ (Below w.heap.size w w') ∧ (w178.heap.size ≤ w'.heap.size) ∧ (RdC w' 0 w.heap.size 1 vL L.length (L.flatMap (fun x9 => [x9.1]))) ∧ (∀ x9 ∈ L, RdC w' 0 w.heap.size 1 x9.1 x9.2.length (x9.2.map u16v)) ∧ (RdC w' 0 w.heap.size 1 vP P.length (P.map (Value.int .i64))) ∧ (Own w' w.heap.size 3 1 v80 A.length (A.map nv)) ∧ (Own w' w.heap.size 46 1 r3 (W ++ (((mgRun (L.map Prod.snd) P).1.take k).flatten)).length ((W ++ (((mgRun (L.map Prod.snd) P).1.take k).flatten)).map u16v)) ∧ (Own w' w.heap.size 46 1 v177 (mgOut (L.map Prod.snd) P).length ((mgOut (L.map Prod.snd) P).map u16v))) _ hN154 hd154 ⟨0, rfl, (sl_base hN154 rfl s154_6), (sl_hit hN154 rfl), (sl_hit hN154 rfl), (Nat.zero_le _), hb, (Nat.le_refl _), hr, hall, hP, hO100, hO155, hO177⟩ ?_
       rintro _ a185 w185 hN185 hd185 ⟨j, rfl, s185_6, s185_11, s185_12, hj, hb, zl_w185, hr, hall, hP, hO100, hO155, hO177⟩
       have z_w185 := hb.size
       refine seq_any fun K186 hK186 => ?_
       refine seq_any fun K187 hK187 => ?_
       refine one_reg ?_
       refine op_move (ev_base hN185 rfl s185_12) ?_
       refine op_move (ev_base hN185 rfl s185_6) ?_
       refine op_len_rd Try.underlying45 (ev_hit hN185 rfl) hO155.rdw ?_
       refine op_lss (ev_hit hN185 rfl) (ev_hit hN185 rfl) (fun c115 => ?_) (fun c115 => ?_)
       · -- 115T
        refine reg_nil ?_
        refine hK187 _ _ ?_
        refine wp_cond_true (ev_hit hN185 rfl) ?_
        refine wp_skip ?_
        refine hK186 _ _ ?_
        refine seq_any fun K188 hK188 => ?_
        refine wp_block ?_
        refine seq_any fun K189 hK189 => ?_
        refine reg_still mixed (by kernel_rfl) ?_
        intro w191 E190
        have z_w191 := E190.size
        have hr := hr.keep0 E190
        have hall : ∀ x9 ∈ L, RdC w191 0 w.heap.size 1 x9.1 x9.2.length (x9.2.map u16v) := fun x9 hx9 => (hall x9 hx9).keep0 E190
        have hP := hP.keep0 E190
        have hO100 := hO100.keep0 E190
        have hO155 := hO155.keep0 E190
        have hO177 := hO177.keep0 E190
        have hb := below_step0 hb E190 hb.size
        refine st_step rfl (fun _ h9 => op_move (ev_base hN185 rfl s185_11) h9) ?_
        refine st_step rfl (fun _ h9 => op_move (ev_base hN185 rfl s185_12) h9) ?_
        refine st_index_rd slt45 (ev_hit hN185 rfl) hO177.rdw (ev_hit hN185 rfl) (by omega) (by omega) ?_
        intro b192 o193 h0b192 h1b192 hc194
        refine st_step rfl (fun _ h9 => op_load1 (v := (Value.int .u16 (((mgOut (L.map Prod.snd) P).getD j 0).toNat : Int))) one46 (ev_hit hN185 rfl) (by have := hc194 0 (Value.int .u16 (((mgOut (L.map Prod.snd) P).getD j 0).toNat : Int)) (by decide) (el_u16 (i := j) (by omega) (by omega)); simpa using this) h9) ?_
        refine st_step rfl (fun _ h9 => op_move (ev_base hN185 rfl s185_6) h9) ?_
        refine st_step rfl (fun _ h9 => op_move (ev_base hN185 rfl s185_12) h9) ?_
        refine st_index_rd slt45 (ev_hit hN185 rfl) hO155.rdw (ev_hit hN185 rfl) (by omega) (by omega) ?_
        intro b195 o196 h0b195 h1b195 hc197
        refine st_step rfl (fun _ h9 => op_load1 (v := (Value.int .u16 (((W ++ (((mgRun (L.map Prod.snd) P).1.take k).flatten)).getD j 0).toNat : Int))) one46 (ev_hit hN185 rfl) (by have := hc197 0 (Value.int .u16 (((W ++ (((mgRun (L.map Prod.snd) P).1.take k).flatten)).getD j 0).toNat : Int)) (by decide) (el_u16 (i := j) (by omega) (by omega)); simpa using this) h9) ?_
        refine st_step rfl (fun _ h9 => op_cmp (b := (decide ((((mgOut (L.map Prod.snd) P).getD j 0).toNat : Int) ≠ (((W ++ (((mgRun (L.map Prod.snd) P).1.take k).flatten)).getD j 0).toNat : Int)))) (ev_hit hN185 rfl) (ev_hit hN185 rfl) (b_neq rfl) h9) ?_
        refine st_nil ?_
        refine hK189 _ _ ?_
        refine wp_cond_split (ev_hit hN185 rfl) (fun c126 => ?_) (fun c126 => ?_)
        · -- 126T
         have c126 := of_decide_eq_true c126
         exact absurd (by rw [hq9]) c126
        · -- 126F
         have c126 := of_decide_eq_false c126
         refine wp_skip ?_
         refine hK188 _ _ ?_
         refine one_reg ?_
         refine op_move (ev_base hN185 rfl s185_12) ?_
         refine op_add (ev_hit hN185 rfl) rfl (add64 (by omega)) ?_
         refine op_assign (ev_hit hN185 rfl) ?_
         refine reg_nil ?_
         -- round 17F 21F 29F 41F 90F 111F 115T 126F
         exact loop_next _ hN185 hd185 ⟨(j + 1), rfl, (sl_base hN185 rfl s185_6), (sl_base hN185 rfl s185_11), (sl_hit hN185 rfl).trans (congrArg (Value.int .i64) (by omega)), (by omega), hb, (by omega), hr, hall, hP, hO100, hO155, hO177⟩ (by omega)
       · -- 115F
        refine reg_nil ?_
        refine hK187 _ _ ?_
        refine wp_cond_false (ev_hit hN185 rfl) ?_
        refine wp_exit (then_exit (then_exit (blk_hit ?_)))
        refine hK183 _ _ ?_
        refine seq_any fun K198 hK198 => ?_
        refine one_reg ?_
        refine op_assign rfl ?_
        refine reg_nil ?_
        refine hK198 _ _ ?_
        refine wp_ret ?_
        refine ret1 rfl hd185 (ev_hit hN185 rfl) ⟨_, rfl, ?_⟩
        -- path 17F 21F 29F 41F 90F 111F 115F
        exact ⟨hb, rfl⟩

end Go.Proofs.Ytmhdbphpmgjpcaa

/- What the arguments of the laws are, told by their types. -/
namespace Go.Proofs.Ytmhdbphpmgjpcaa
open Go.Gx Go.RowKit
theorem rd_le {w : World} {L B sz n : Nat} {v : Value} {cs : List Value} (h : RdC w L B sz v n cs) : n ≤ 9223372036854775807 := by obtain ⟨_, _, _, _, hq, hm, _⟩ := h; exact Nat.le_trans hq hm
theorem cells5 : Try.prog.cellsOf 5 = 1 := by kernel_rfl
theorem flat_u8v (l : List UInt8) : l.flatMap (fun c => [u8v c]) = l.map u8v := by induction l with | nil => rfl | cons c l ih => simp [ih]
theorem dec22 {H : Type} {enc : TypeId × Value → H} {w : World} {base : Nat} {spare : Nat → Bool} {held : Bool} : Dec enc Try.prog w base spare held 22 (fun p : Value × List UInt8 => [p.1]) (fun p => RdC w 0 w.heap.size 1 p.1 p.2.length (p.2.map u8v)) :=
  (Dec.slice Try.underlying22 (by rw [cells5]; decide) (Dec.u8 Try.underlying5) (fun _ _ => by rw [cells5]; rfl)).map fun p hp => ⟨p, rfl, by have hq := hp.1; rwa [cells5, flat_u8v] at hq⟩
theorem cells46 : Try.prog.cellsOf 46 = 1 := by kernel_rfl
theorem flat_u16v (l : List UInt16) : l.flatMap (fun c => [u16v c]) = l.map u16v := by induction l with | nil => rfl | cons c l ih => simp [ih]
theorem dec45 {H : Type} {enc : TypeId × Value → H} {w : World} {base : Nat} {spare : Nat → Bool} {held : Bool} : Dec enc Try.prog w base spare held 45 (fun p : Value × List UInt16 => [p.1]) (fun p => RdC w 0 w.heap.size 1 p.1 p.2.length (p.2.map u16v)) :=
  (Dec.slice Try.underlying45 (by rw [cells46]; decide) (Dec.u16 Try.underlying46) (fun _ _ => by rw [cells46]; rfl)).map fun p hp => ⟨p, rfl, by have hq := hp.1; rwa [cells46, flat_u16v] at hq⟩
theorem cells45 : Try.prog.cellsOf 45 = 1 := by kernel_rfl
theorem dec44 {H : Type} {enc : TypeId × Value → H} {w : World} {base : Nat} {spare : Nat → Bool} {held : Bool} : Dec enc Try.prog w base spare held 44 (fun p : Value × List (Value × List UInt16) => [p.1]) (fun p => RdC w 0 w.heap.size 1 p.1 p.2.length (p.2.flatMap (fun (x9 : Value × List UInt16) => [x9.1])) ∧ ∀ x ∈ p.2, (RdC w 0 w.heap.size 1 x.1 x.2.length (x.2.map u16v))) :=
  (Dec.slice Try.underlying44 (by rw [cells45]; decide) dec45 (fun _ _ => by rw [cells45]; rfl)).map fun p hp => ⟨p, rfl, by have hq := hp.1; rw [cells45] at hq; exact hq, hp.2⟩
theorem cells3 : Try.prog.cellsOf 3 = 1 := by kernel_rfl
theorem dec35 {H : Type} {enc : TypeId × Value → H} {w : World} {base : Nat} {spare : Nat → Bool} {held : Bool} : Dec enc Try.prog w base spare held 35 (fun p : Value × List (Int) => [p.1]) (fun p => RdC w 0 w.heap.size 1 p.1 p.2.length (p.2.flatMap (fun n => [.int .i64 n])) ∧ ∀ x ∈ p.2, (Lit.int .i64 x).wf = true) :=
  (Dec.slice Try.underlying35 (by rw [cells3]; decide) (Dec.int Try.underlying3) (fun _ _ => by rw [cells3]; rfl)).map fun p hp => ⟨p, rfl, by have hq := hp.1; rw [cells3] at hq; exact hq, hp.2⟩
end Go.Proofs.Ytmhdbphpmgjpcaa
