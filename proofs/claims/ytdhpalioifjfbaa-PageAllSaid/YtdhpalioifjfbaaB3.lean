/- Walks, written by a program: what each function of the translation hands back. -/
import Derived.Test.YtdhpalioifjfbaaB2
namespace Go.Proofs.Ytdhpalioifjfbaa
open Go.Gx Go.RowKit
attribute [local irreducible] wpList wpStill Code.wp Calls

theorem packs_ret (bs : By) (vb : Value) (base p : Nat) (w : World) (hl : bs.length = 256) (hx : Bx w p 50 [vb]) (O : Own w base 5 1 vb 256 (bs.map u8v)) (L : List By) (R : Rep bs L) : Ret Try.prog 53 #[(ptr p 0)] w (fun v' w' => w.grownBy w' vb.ownBlock ∧ v' = .tuple #[] ∧ ∃ bs', Own w' base 5 1 vb 256 (bs'.map u8v) ∧ Rep bs' L ∧ numB bs' 2 + sumL L = 256) := by
 have hvk : ∀ k, vb.ownBlock = some k → k < w.heap.size := fun k hk => (O.lt k hk).2
 have hfit : 8 + L.length * 4 + sumL L ≤ 256 := by have := R.fit; have := R.sum; omega
 have hb := grown_refl w vb.ownBlock
 refine enter (N := 62) Try.func53 rfl rfl (by simp) fun a0 hN hd hA => ?_
 have s0 : a0.tmps.getD 0 undef = (ptr p 0) := hA 0 (by simp)
 clear hA
 refine seq_any fun K1 hK1 => ?_
 refine one_reg ?_
 refine op_assign rfl ?_
 refine reg_nil ?_
 refine hK1 _ _ ?_
 refine seq_any fun K2 hK2 => ?_
 refine seq_any fun K3 hK3 => ?_
 refine one_reg ?_
 refine op_move (ev_base hN rfl s0) ?_
 refine op_fn (vs := [(ptr p 0)]) ok37 ⟨(ev_hit hN rfl), trivial⟩ (many_ret bs _ _ _ _ (by first | assumption | exact Rep.len (by assumption)) hx O L R) ?_
 rintro _ w5 ⟨E6, rfl⟩
 have E6 := grown_of_below E6
 have z_w5 := E6.size
 have hx := hx.keep0 E6
 have O := O.keep0 E6
 have hb := grow_step0 hb E6
 have hm_4 := Rep.fits R
 refine op_move rfl ?_
 refine reg_nil ?_
 refine hK3 _ _ ?_
 refine wp_block ?_
 refine loop_m (fun mz_ az_ w' => ∃ (s : Nat) (u : Value) (acc : List ByV), mz_ = L.length - s ∧ (az_.tmps.getD 0 undef = (ptr p 0)) ∧ (az_.tmps.getD 8 undef = (Value.int .i64 ((L.length : Nat) : Int))) ∧ (az_.tmps.getD 9 undef = (Value.int .i64 ((s : Nat) : Int))) ∧ (az_.tmps.getD 2 undef = u) ∧ (s ≤ L.length) ∧ (acc.map Prod.snd = L.take s) ∧ (w.grownBy w' vb.ownBlock) ∧ (w5.heap.size ≤ w'.heap.size) ∧ (Bx w' p 50 [vb]) ∧ (Own w' base 5 1 vb 256 (bs.map u8v)) ∧ (∀ x9 ∈ acc, Own w' w.heap.size 5 1 x9.1 x9.2.length (x9.2.map u8v)) ∧ (Own w' w.heap.size 22 1 u s (acc.flatMap (fun x9 => [x9.1])))) _ hN hd ⟨0, _, [], rfl, (sl_base hN rfl s0), (sl_hit hN rfl), (sl_hit hN rfl), (sl_hit hN rfl), Nat.zero_le _, rfl, hb, (Nat.le_refl _), hx, O, (fun x9 hx9 => absurd hx9 List.not_mem_nil), (Own.nil _ _ _ _)⟩ ?_
 rintro _ a7 w7 hN7 hd7 ⟨s, u, acc, rfl, s7_0, s7_8, s7_9, s7_2, hs, hacc, hb, zl_w7, hx, O, hall, hO8⟩
 have z_w7 := hb.size
 refine seq_any fun K9 hK9 => ?_
 refine one_reg ?_
 refine op_lss (ev_base hN7 rfl s7_9) (ev_base hN7 rfl s7_8) (fun c10 => ?_) (fun c10 => ?_)
 · -- 10T
  refine reg_nil ?_
  refine hK9 _ _ ?_
  refine seq_any fun K10 hK10 => ?_
  refine wp_cond_true (ev_hit hN7 rfl) ?_
  refine wp_skip ?_
  refine hK10 _ _ ?_
  refine seq_any fun K11 hK11 => ?_
  refine wp_block ?_
  refine seq_any fun K12 hK12 => ?_
  refine one_reg ?_
  refine op_move (ev_base hN7 rfl s7_9) ?_
  refine op_assign (ev_hit hN7 rfl) ?_
  refine reg_nil ?_
  refine hK12 _ _ ?_
  have hsi := sizeL_in (L := L) (s := s) (by omega)
  have hrc := (R.recs s (by omega)).2.1
  have hgt := R.get (s := s) (by omega)
  have O_s := O
  have hO8_s := hO8
  refine reg_split (hd := [_, _, _, _, _, _, _, _, _, _, _, _, _, _, _, _, _, _, _]) (tl := _) 19 mixed (by kernel_rfl) rfl rfl ?_
  refine any_chain (Φ := phiC [(fun _ _ uz _ => uz = u), chP 0, (fun _ _ uz _ => uz = (ptr p 0)), (fun _ _ uz _ => uz = (ptr p 0)), (fun _ _ uz _ => uz = (ptr p 0)), (fun _ _ uz _ => uz = vb), (fun _ _ uz _ => uz = (ptr p 0)), (fun _ _ uz _ => uz = (Value.int .i64 ((s : Nat) : Int))), (fun _ _ uz _ => uz = (Value.int .i64 (((numB bs (8 + s * 4)) : Nat) : Int))), (fun _ _ uz _ => uz = (ptr p 0)), (fun _ _ uz _ => uz = (Value.int .i64 ((s : Nat) : Int))), (fun _ _ uz _ => uz = (Value.int .i64 (((numB bs (8 + s * 4)) : Nat) : Int))), (fun _ _ uz _ => uz = (ptr p 0)), (fun _ _ uz _ => uz = (Value.int .i64 ((s : Nat) : Int))), (fun _ _ uz _ => uz = (Value.int .i64 (((sizeL L ((s : Nat) : Int)) : Nat) : Int))), (fun _ _ uz _ => uz = (Value.int .i64 ((((numB bs (8 + s * 4)) : Nat) : Int) + (((sizeL L ((s : Nat) : Int)) : Nat) : Int)))), (fun _ vz uz w' => ∃ (v24 : Value), uz = v24 ∧ RdC w' base w7.heap.size 1 v24 ((L.getD s []).length) (((L.getD s [])).map u8v) ∧ (w7.heap.size ≤ w'.heap.size ∧ ∀ k, vz.ownBlock = some k → w7.heap.size ≤ k)), chQ 1, (fun cz vz uz w' => cz = 2 ∧  ∃ (b34 : Nat), uz = (Value.slice (some ⟨b34, 0, none⟩) 1 1) ∧ w7.heap.size ≤ b34 ∧ Bx w' b34 22 [vz] ∧ vz.ownBlock ≠ some b34)]) (C := CL [(fun vz w' => Own w' w.heap.size 5 1 vz 0 ([])), (fun vz w' => Own w' w.heap.size 5 1 vz 0 ([])), (fun vz w' => Own w' w.heap.size 5 1 vz (0 + ((L.getD s []).length)) (((L.getD s [])).map u8v))]) ⟨[1, 17], fun c => [62, 13, 29].getD c 62⟩ (Value.slice none 0 0) (by kernel_rfl) (by kernel_rfl) (by kernel_rfl) (by kernel_rfl) hN7 (StK.get0 (n := 2) (StK.eq (StK.ch (StK.eq (StK.eq (StK.eq (StK.eq (StK.eq (StK.eq (StK.eq (StK.eq (StK.eq (StK.eq (StK.eq (StK.eq (StK.eq (StK.eq (StK.cons (fun c v u w1 w2 E h => by obtain ⟨x0, hv, f0, q0⟩ := h; exact ⟨x0, hv, f0.keep0 E, ⟨Nat.le_trans q0.1 E.size, q0.2⟩⟩) (fun c v v' u w1 w2 _ E h => by obtain ⟨x0, hv, f0, q0⟩ := h; exact ⟨x0, hv, f0.keep E.1 (fun k hk => .inr (q0.2 k hk)), ⟨Nat.le_trans q0.1 E.1.size, ge_step E q0.1 q0.2⟩⟩) (StK.chq (StK.cons (fun c v u w1 w2 E h => by obtain ⟨hc9, x0, hv, l0, f0, q0⟩ := h; exact ⟨hc9, x0, hv, l0, f0.keep0 E, q0⟩) (fun c v v' u w1 w2 hc9 E h => absurd h.1 (Nat.ne_of_lt hc9)) (StK.nil))))))))))))))))))))) (StK.get1 (n := 2) (StK.eq (StK.ch (StK.eq (StK.eq (StK.eq (StK.eq (StK.eq (StK.eq (StK.eq (StK.eq (StK.eq (StK.eq (StK.eq (StK.eq (StK.eq (StK.eq (StK.cons (fun c v u w1 w2 E h => by obtain ⟨x0, hv, f0, q0⟩ := h; exact ⟨x0, hv, f0.keep0 E, ⟨Nat.le_trans q0.1 E.size, q0.2⟩⟩) (fun c v v' u w1 w2 _ E h => by obtain ⟨x0, hv, f0, q0⟩ := h; exact ⟨x0, hv, f0.keep E.1 (fun k hk => .inr (q0.2 k hk)), ⟨Nat.le_trans q0.1 E.1.size, ge_step E q0.1 q0.2⟩⟩) (StK.chq (StK.cons (fun c v u w1 w2 E h => by obtain ⟨hc9, x0, hv, l0, f0, q0⟩ := h; exact ⟨hc9, x0, hv, l0, f0.keep0 E, q0⟩) (fun c v v' u w1 w2 hc9 E h => absurd h.1 (Nat.ne_of_lt hc9)) (StK.nil))))))))))))))))))))) (StL2.get0 (StL2.own (StL2.own (StL2.own (StL2.nil))))) (StL2.get1 (StL2.own (StL2.own (StL2.own (StL2.nil))))) (Own.nil w7 w.heap.size 5 1) (ObLn.get (ObLn.cons ?_ (ObLn.pass rfl (ObLn.cons ?_ (ObLn.cons ?_ (ObLn.cons ?_ (ObLn.cons ?_ (ObLn.cons ?_ (ObLn.cons ?_ (ObLn.cons ?_ (ObLn.cons ?_ (ObLn.cons ?_ (ObLn.cons ?_ (ObLn.cons ?_ (ObLn.cons ?_ (ObLn.cons ?_ (ObLn.cons ?_ (ObLn.cons ?_ (ObLn.pass rfl (ObLn.cons ?_ (ObLn.nil))))))))))))))))))))) (ObLc.get (ObLc.cons ?_ (ObLc.cons ?_ (ObLc.nil)))) ?_
  ·
   intro aA wA ccA cvA hNA hclA hRA hltA hvoA hbsA hdpA
   have qA_2 := (hbsA 2 rfl).trans (sl_base hN7 rfl s7_2)
   refine op_move (ev_base hNA rfl qA_2) ?_
   exact obNc_end rfl rfl (grown_refl _ _)
  ·
   intro aA wA ccA cvA hNA hclA hRA hltA hvoA hbsA hdpA
   have qA_0 := (hbsA 0 rfl).trans (sl_base hN7 rfl s7_0)
   refine op_move (ev_base hNA rfl qA_0) ?_
   exact obNc_end rfl rfl (grown_refl _ _)
  ·
   intro aA wA ccA cvA hNA hclA hRA hltA hvoA hbsA hdpA
   have qA_14 : Sl aA 14 (ptr p 0) := hdpA 2 _ 14 (by kernel_rfl) rfl rfl
   refine op_nil (ev_base hNA rfl qA_14) ?_
   exact obNc_end rfl rfl (grown_refl _ _)
  ·
   intro aA wA ccA cvA hNA hclA hRA hltA hvoA hbsA hdpA
   have qA_15 : Sl aA 15 (ptr p 0) := hdpA 3 _ 15 (by kernel_rfl) rfl rfl
   refine op_field fld50_0 (ev_base hNA rfl qA_15) ?_
   exact obNc_end rfl rfl (grown_refl _ _)
  ·
   intro aA wA ccA cvA hNA hclA hRA hltA hvoA hbsA hdpA
   have hRA : w7.grownBy wA (Value.slice none 0 0).ownBlock := hRA
   have hnil_o := (Own.nil w7 w.heap.size 5 1)
   have z_wA := hRA.size
   have hb := grow_step0 hb hRA
   have hx := hx.keep0 hRA
   have O := O.keep0 hRA
   have hall := fun x9 hx9 => (hall x9 hx9).keep0 hRA
   have hO8 := hO8.keep0 hRA
   have qA_16 : Sl aA 16 (ptr p 0) := hdpA 4 _ 16 (by kernel_rfl) rfl rfl
   clear hbsA hdpA
   refine op_load1 (v := vb) one22 (ev_base hNA rfl qA_16) (hx.cell rfl) ?_
   exact obNc_end rfl rfl (grown_refl _ _)
  ·
   intro aA wA ccA cvA hNA hclA hRA hltA hvoA hbsA hdpA
   have qA_0 := (hbsA 0 rfl).trans (sl_base hN7 rfl s7_0)
   refine op_move (ev_base hNA rfl qA_0) ?_
   exact obNc_end rfl rfl (grown_refl _ _)
  ·
   intro aA wA ccA cvA hNA hclA hRA hltA hvoA hbsA hdpA
   have qA_3 := (hbsA 3 rfl).trans (sl_hit hN7 rfl)
   refine op_move (ev_base hNA rfl qA_3) ?_
   exact obNc_end rfl rfl (grown_refl _ _)
  ·
   intro aA wA ccA cvA hNA hclA hRA hltA hvoA hbsA hdpA
   have hRA : w7.grownBy wA (Value.slice none 0 0).ownBlock := hRA
   have hnil_o := (Own.nil w7 w.heap.size 5 1)
   have z_wA := hRA.size
   have hb := grow_step0 hb hRA
   have hx := hx.keep0 hRA
   have O := O.keep0 hRA
   have hall := fun x9 hx9 => (hall x9 hx9).keep0 hRA
   have hO8 := hO8.keep0 hRA
   have qA_18 : Sl aA 18 (ptr p 0) := hdpA 6 _ 18 (by kernel_rfl) rfl rfl
   have qA_19 : Sl aA 19 (Value.int .i64 ((s : Nat) : Int)) := hdpA 7 _ 19 (by kernel_rfl) rfl rfl
   clear hbsA hdpA
   refine op_fn (vs := [(ptr p 0), (Value.int .i64 ((s : Nat) : Int))]) ok43 ⟨(ev_base hNA rfl qA_18), ⟨(ev_base hNA rfl qA_19), trivial⟩⟩ (at_ret bs _ _ _ _ (by first | assumption | exact Rep.len (by assumption)) hx O s (by omega)) ?_
   rintro _ w13 ⟨E14, rfl⟩
   have E14 := grown_of_below E14
   have z_w13 := E14.size
   have hx := hx.keep0 E14
   have O := O.keep0 E14
   have hall : ∀ x9 ∈ acc, Own w13 w.heap.size 5 1 x9.1 x9.2.length (x9.2.map u8v) := fun x9 hx9 => (hall x9 hx9).keep0 E14
   have hO8 := hO8.keep0 E14
   have hb := grow_step0 hb E14
   exact obNc_end rfl rfl (E14)
  ·
   intro aA wA ccA cvA hNA hclA hRA hltA hvoA hbsA hdpA
   have qA_0 := (hbsA 0 rfl).trans (sl_base hN7 rfl s7_0)
   refine op_move (ev_base hNA rfl qA_0) ?_
   exact obNc_end rfl rfl (grown_refl _ _)
  ·
   intro aA wA ccA cvA hNA hclA hRA hltA hvoA hbsA hdpA
   have qA_3 := (hbsA 3 rfl).trans (sl_hit hN7 rfl)
   refine op_move (ev_base hNA rfl qA_3) ?_
   exact obNc_end rfl rfl (grown_refl _ _)
  ·
   intro aA wA ccA cvA hNA hclA hRA hltA hvoA hbsA hdpA
   have hRA : w7.grownBy wA (Value.slice none 0 0).ownBlock := hRA
   have hnil_o := (Own.nil w7 w.heap.size 5 1)
   have z_wA := hRA.size
   have hb := grow_step0 hb hRA
   have hx := hx.keep0 hRA
   have O := O.keep0 hRA
   have hall := fun x9 hx9 => (hall x9 hx9).keep0 hRA
   have hO8 := hO8.keep0 hRA
   have qA_21 : Sl aA 21 (ptr p 0) := hdpA 9 _ 21 (by kernel_rfl) rfl rfl
   have qA_22 : Sl aA 22 (Value.int .i64 ((s : Nat) : Int)) := hdpA 10 _ 22 (by kernel_rfl) rfl rfl
   clear hbsA hdpA
   refine op_fn (vs := [(ptr p 0), (Value.int .i64 ((s : Nat) : Int))]) ok43 ⟨(ev_base hNA rfl qA_21), ⟨(ev_base hNA rfl qA_22), trivial⟩⟩ (at_ret bs _ _ _ _ (by first | assumption | exact Rep.len (by assumption)) hx O s (by omega)) ?_
   rintro _ w15 ⟨E16, rfl⟩
   have E16 := grown_of_below E16
   have z_w15 := E16.size
   have hx := hx.keep0 E16
   have O := O.keep0 E16
   have hall : ∀ x9 ∈ acc, Own w15 w.heap.size 5 1 x9.1 x9.2.length (x9.2.map u8v) := fun x9 hx9 => (hall x9 hx9).keep0 E16
   have hO8 := hO8.keep0 E16
   have hb := grow_step0 hb E16
   exact obNc_end rfl rfl (E16)
  ·
   intro aA wA ccA cvA hNA hclA hRA hltA hvoA hbsA hdpA
   have qA_0 := (hbsA 0 rfl).trans (sl_base hN7 rfl s7_0)
   refine op_move (ev_base hNA rfl qA_0) ?_
   exact obNc_end rfl rfl (grown_refl _ _)
  ·
   intro aA wA ccA cvA hNA hclA hRA hltA hvoA hbsA hdpA
   have qA_3 := (hbsA 3 rfl).trans (sl_hit hN7 rfl)
   refine op_move (ev_base hNA rfl qA_3) ?_
   exact obNc_end rfl rfl (grown_refl _ _)
  ·
   intro aA wA ccA cvA hNA hclA hRA hltA hvoA hbsA hdpA
   have hRA : w7.grownBy wA (Value.slice none 0 0).ownBlock := hRA
   have hnil_o := (Own.nil w7 w.heap.size 5 1)
   have z_wA := hRA.size
   have hb := grow_step0 hb hRA
   have hx := hx.keep0 hRA
   have O := O.keep0 hRA
   have hall := fun x9 hx9 => (hall x9 hx9).keep0 hRA
   have hO8 := hO8.keep0 hRA
   have qA_24 : Sl aA 24 (ptr p 0) := hdpA 12 _ 24 (by kernel_rfl) rfl rfl
   have qA_25 : Sl aA 25 (Value.int .i64 ((s : Nat) : Int)) := hdpA 13 _ 25 (by kernel_rfl) rfl rfl
   clear hbsA hdpA
   refine op_fn (vs := [(ptr p 0), (Value.int .i64 ((s : Nat) : Int))]) ok38 ⟨(ev_base hNA rfl qA_24), ⟨(ev_base hNA rfl qA_25), trivial⟩⟩ (size_ret bs _ _ _ _ (by first | assumption | exact Rep.len (by assumption)) hx O L R ((s : Nat) : Int) (by omega)) ?_
   rintro _ w18 ⟨E19, rfl⟩
   have E19 := grown_of_below E19
   have z_w18 := E19.size
   have hx := hx.keep0 E19
   have O := O.keep0 E19
   have hall : ∀ x9 ∈ acc, Own w18 w.heap.size 5 1 x9.1 x9.2.length (x9.2.map u8v) := fun x9 hx9 => (hall x9 hx9).keep0 E19
   have hO8 := hO8.keep0 E19
   have hb := grow_step0 hb E19
   have hz_17 := sizeL_le R ((s : Nat) : Int)
   exact obNc_end rfl rfl (E19)
  ·
   intro aA wA ccA cvA hNA hclA hRA hltA hvoA hbsA hdpA
   have qA_23 : Sl aA 23 (Value.int .i64 (((numB bs (8 + s * 4)) : Nat) : Int)) := hdpA 11 _ 23 (by kernel_rfl) rfl rfl
   have qA_26 : Sl aA 26 (Value.int .i64 (((sizeL L ((s : Nat) : Int)) : Nat) : Int)) := hdpA 14 _ 26 (by kernel_rfl) rfl rfl
   refine op_add (ev_base hNA rfl qA_23) (ev_base hNA rfl qA_26) (add64 (by omega)) ?_
   exact obNc_end rfl rfl (grown_refl _ _)
  ·
   intro aA wA ccA cvA hNA hclA hRA hltA hvoA hbsA hdpA
   have hRA : w7.grownBy wA (Value.slice none 0 0).ownBlock := hRA
   have hnil_o := (Own.nil w7 w.heap.size 5 1)
   have z_wA := hRA.size
   have hb := grow_step0 hb hRA
   have hx := hx.keep0 hRA
   have O := O.keep0 hRA
   have hall := fun x9 hx9 => (hall x9 hx9).keep0 hRA
   have hO8 := hO8.keep0 hRA
   have qA_17 : Sl aA 17 vb := hdpA 5 _ 17 (by kernel_rfl) rfl rfl
   have qA_20 : Sl aA 20 (Value.int .i64 (((numB bs (8 + s * 4)) : Nat) : Int)) := hdpA 8 _ 20 (by kernel_rfl) rfl rfl
   have qA_27 : Sl aA 27 (Value.int .i64 ((((numB bs (8 + s * 4)) : Nat) : Int) + (((sizeL L ((s : Nat) : Int)) : Nat) : Int))) := hdpA 15 _ 27 (by kernel_rfl) rfl rfl
   clear hbsA hdpA
   refine op_slice_rd (lo := ((numB bs (8 + s * 4)))) (hi := (((numB bs (8 + s * 4))) + ((sizeL L ((s : Nat) : Int))))) slt22 (ev_base hNA rfl qA_17) (Own.rdB O O_s) (.inr ⟨_, _, rfl, (ev_base hNA rfl qA_20)⟩) (.inr ⟨_, _, rfl, (ev_base hNA rfl qA_27)⟩) (by omega) (by omega) ?_
   intro v20 hR21
   have hR21 : RdC wA base w7.heap.size 1 v20 ((L.getD s []).length) (((L.getD s [])).map u8v) := by have h9 := hR21; rw [hsi, Nat.add_sub_cancel_left, Nat.mul_one, Nat.mul_one, ← List.map_drop, ← List.map_take, hgt] at h9; exact h9
   exact obNc_end rfl ⟨v20, rfl, hR21, ⟨by omega, ge_of hvoA (fun k hk => by simp [Value.ownBlock] at hk) (by omega)⟩⟩ (grown_refl _ _)
  ·
   intro aA wA ccA cvA hNA hclA hRA hltA hvoA hbsA hdpA
   have hRA : w7.grownBy wA (Value.slice none 0 0).ownBlock := hRA
   have hnil_o := (Own.nil w7 w.heap.size 5 1)
   have z_wA := hRA.size
   have hb := grow_step0 hb hRA
   have hx := hx.keep0 hRA
   have O := O.keep0 hRA
   have hall := fun x9 hx9 => (hall x9 hx9).keep0 hRA
   have hO8 := hO8.keep0 hRA
   have hchA : chQ 1 ccA cvA (aA.tmps.getD 29 undef) wA := hdpA 17 _ 29 (by kernel_rfl) rfl rfl
   have hccA : ccA = 2 := Nat.le_antisymm hclA hchA.1
   have qA_29 := hchA.2.1 hccA
   have hslA : IsSl cvA := qA_29 ▸ hchA.2.2
   clear hbsA hdpA
   refine op_bslice (e := 22) (pv := [(0, cvA)]) (cs := [cvA]) ⟨rfl, (ev_base hNA rfl qA_29), trivial⟩ (by obtain ⟨_, _, _, rfl⟩ := hslA.sl; kernel_rfl) ?_
   intro w22 b23 lo_b23 hi_b23 hB25 E24
   have ne_b23_u : u.ownBlock ≠ some b23 := fun hh => by have := (hO8.lt _ hh).2; omega
   have z_w22 := E24.size
   have hx := hx.keep0 E24
   have O := O.keep0 E24
   have hall : ∀ x9 ∈ acc, Own w22 w.heap.size 5 1 x9.1 x9.2.length (x9.2.map u8v) := fun x9 hx9 => (hall x9 hx9).keep0 E24
   have hO8 := hO8.keep0 E24
   have hb := grow_step0 hb E24
   exact obNc_end rfl ⟨hccA, b23, rfl, (by omega), hB25, (fun hh => by have := hltA _ hh; omega)⟩ (E24)
  ·
   intro o_ ho_; obtain rfl := Option.some.inj ho_; intro aA wA cvA hNA hRA hcv0A hbsA hdpA hCA
   have hRA : w7.grownBy wA (Value.slice none 0 0).ownBlock := hRA
   have hnil_o := (Own.nil w7 w.heap.size 5 1)
   have z_wA := hRA.size
   have hb := grow_step0 hb hRA
   have hx := hx.keep0 hRA
   have O := O.keep0 hRA
   have hO8 := hO8.keep0 hRA
   have hcvA : (Value.slice none 0 0) = cvA := (hcv0A rfl).symm
   subst hcvA
   have hCA : Own wA w.heap.size 5 1 (Value.slice none 0 0) 0 ([]) := hCA
   clear hbsA hdpA
   refine op_bslice (e := 5) (pv := []) (cs := []) trivial (by kernel_rfl) ?_
   intro w26 b27 lo_b27 hi_b27 hB29 E28
   have ne_b27_vb : vb.ownBlock ≠ some b27 := fun hh => by have := (O.lt _ hh).2; omega
   have z_w26 := E28.size
   have hx := hx.keep0 E28
   have O := O.keep0 E28
   have hO8 := hO8.keep0 E28
   have hCA := hCA.keep0 E28
   have hb := grow_step0 hb E28
   exact obCc_end rfl rfl (chP_now (w := w26)) (Own.ofBx (base := w.heap.size) (sz := 1) (n := 0) hB29 rfl (by decide) (by omega)) ⟨E28, .inr (fun k hk => by simp [Value.ownBlock] at hk; omega)⟩
  ·
   intro o_ ho_; obtain rfl := Option.some.inj ho_; intro aA wA cvA hNA hRA hcv0A hbsA hdpA hCA
   have hRA : w7.grownBy wA (Value.slice none 0 0).ownBlock := hRA
   have hnil_o := (Own.nil w7 w.heap.size 5 1)
   have z_wA := hRA.size
   have hb := grow_step0 hb hRA
   have hx := hx.keep0 hRA
   have O := O.keep0 hRA
   have hO8 := hO8.keep0 hRA
   have hCA : Own wA w.heap.size 5 1 cvA 0 ([]) := hCA
   have qA_13 : aA.tmps.getD 13 undef = cvA := (show chP 0 1 cvA (aA.tmps.getD 13 undef) wA from hdpA 1 _ 13 (by kernel_rfl) rfl rfl).2 rfl
   obtain ⟨v24, qA_28, hR25, xqA_28_0⟩ := hdpA 16 _ 28 (by kernel_rfl) rfl rfl
   have hR25 : RdC wA base w7.heap.size 1 v24 ((L.getD s []).length) (((L.getD s [])).map u8v) := hR25
   clear hbsA hdpA
   have hP35 := hCA
   refine op_append slt22 (ev_base hNA rfl qA_13) hP35 (ev_base hNA rfl qA_28) (Src.ofRd Try.underlying22 (by decide) hR25 (by simp [Value.oneCell', u8v])) (by unfold maxLen; omega) (by omega) hb.size ?_
   intro v30 w31 hO33 E32 hm34
   have z_w31 := E32.size
   have hx := hx.keepO hP35 E32 (by decide)
   have hO8 := hO8.keepT hP35 E32 (by decide)
   have hR25 := hR25.keep E32 (fun k hk => .inr (xqA_28_0.2 k hk))
   have hb := grow_stepO hb hP35 E32 (by omega)
   have hO33 : Own w31 w.heap.size 5 1 v30 (0 + ((L.getD s []).length)) (((L.getD s [])).map u8v) := by simpa [u8v] using hO33
   exact obCc_end rfl rfl (chQ_now (w := w31) ⟨hO33.sl⟩) hO33 ⟨E32, hm34⟩
  ·
   intro a36 w36 v26 hN36 hd36 hbs36 hph36 hC36 E36 hm36
   have hd36 := hd36.trans hd7
   have s36_0 := (hbs36 0 rfl).trans (sl_base hN7 rfl s7_0)
   have s36_2 := (hbs36 2 rfl).trans (sl_base hN7 rfl s7_2)
   have s36_8 := (hbs36 8 rfl).trans (sl_base hN7 rfl s7_8)
   have s36_9 := (hbs36 9 rfl).trans (sl_base hN7 rfl s7_9)
   have s36_12 : Sl a36 12 u := hph36 0 _ 12 rfl rfl
   obtain ⟨_, b34, s36_30, l36_0, hB36, xq36_30_0⟩ := hph36 18 _ 30 rfl rfl
   have hB36 : Bx w36 b34 22 [v26] := hB36
   have hi_b34 := hB36.lt
   have ne_b34_u : u.ownBlock ≠ some b34 := fun hh => by have := (hO8.lt _ hh).2; omega
   clear hbs36 hph36
   have E36 : w7.grownBy w36 (Value.slice none 0 0).ownBlock := E36
   have hC36 : Own w36 w.heap.size 5 1 v26 (0 + ((L.getD s []).length)) (((L.getD s [])).map u8v) := hC36
   have dj37 : DJ vb v26 := fun k hk hg => by have q1 := (O.lt k hk).2; rcases hm36 with h7 | h7; (rw [h7] at hg; simp [Value.ownBlock] at hg); (have := h7 k hg; omega)
   have E36 : w7.grownBy w36 none := E36
   have z_w36 := E36.size
   have hx := hx.keep0 E36
   have O := O.keep0 E36
   have hall : ∀ x9 ∈ acc, Own w36 w.heap.size 5 1 x9.1 x9.2.length (x9.2.map u8v) := fun x9 hx9 => (hall x9 hx9).keep0 E36
   have hO8 := hO8.keep0 E36
   have hb := grow_step0 hb E36
   refine split_end ?_
   refine from_seq (tl := [_, _]) (by decide) (by kernel_rfl) rfl ?_
   have hP43 := hO8
   refine op_append slt38 (ev_base hN36 rfl s36_12) hP43 (ev_base hN36 rfl s36_30) (Src.ofRd Try.underlying38 (by decide) (RdC.ofBx (sz := 1) (n := 1) hB36 rfl (by decide)) (by simp only [List.all_cons, List.all_nil, Bool.true_and, Bool.and_true, hC36.one]; try rfl)) (by unfold maxLen; omega) (by omega) hb.size ?_
   intro v38 w39 hO41 E40 hm42
   have z_w39 := E40.size
   have hx := hx.keepO hP43 E40 (by decide)
   have O := O.keepT hP43 E40 (by decide)
   have hall : ∀ x9 ∈ acc, Own w39 w.heap.size 5 1 x9.1 x9.2.length (x9.2.map u8v) := fun x9 hx9 => (hall x9 hx9).keepT hP43 E40 (by decide)
   have hC36 := hC36.keepT hP43 E40 (by decide)
   have hB36 := hB36.keep E40 (fun hh => ne_b34_u hh.symm)
   have hb := grow_stepO hb hP43 E40 (by omega)
   have hO41 : Own w39 w.heap.size 22 1 v38 (s + 1) (((acc ++ [(v26, (L.getD s []))])).flatMap (fun x9 => [x9.1])) := by exact hO41.cast rfl (by simp)
   have ne_b34_v38 : v38.ownBlock ≠ some b34 := ne_step (w1 := w36) ⟨E40, hm42⟩ (by omega) ne_b34_u
   refine op_assign (ev_hit hN36 rfl) ?_
   refine reg_nil ?_
   refine hK11 _ _ ?_
   refine one_reg ?_
   refine op_add (ev_base hN36 rfl s36_9) rfl (add64 (by omega)) ?_
   refine op_move (ev_hit hN36 rfl) ?_
   refine reg_nil ?_
   -- round 10T
   exact loop_next _ hN36 hd36 ⟨s + 1, _, (acc ++ [(v26, (L.getD s []))]), rfl, (sl_base hN36 rfl s36_0), (sl_base hN36 rfl s36_8), (sl_hit hN36 rfl).trans (congrArg (Value.int .i64) (by omega)), (sl_hit hN36 rfl), (by omega), (acc_snoc hacc (by omega)), hb, (by omega), hx, O, (oall_snoc hall (hC36.cast (by first | rfl | omega | (simp; done)) (by first | rfl | (simp; done)))), (hO41.cast rfl (by simp))⟩ (by omega)
 · -- 10F
  refine reg_nil ?_
  refine hK9 _ _ ?_
  refine seq_any fun K44 hK44 => ?_
  refine wp_cond_false (ev_hit hN7 rfl) ?_
  refine wp_exit (then_exit (then_exit (blk_hit ?_)))
  refine hK2 _ _ ?_
  refine seq_any fun K45 hK45 => ?_
  refine one_reg ?_
  refine op_assign rfl ?_
  refine reg_nil ?_
  refine hK45 _ _ ?_
  refine seq_any fun K46 hK46 => ?_
  refine seq_any fun K47 hK47 => ?_
  refine one_reg ?_
  have hal := acc_len hacc (by omega)
  refine op_move (ev_base hN7 rfl s7_2) ?_
  refine op_len_rd Try.underlying38 (ev_hit hN7 rfl) hO8.rdw ?_
  refine op_move rfl ?_
  refine reg_nil ?_
  refine hK47 _ _ ?_
  refine wp_block ?_
  refine loop_m (fun mz_ az_ w' => ∃ (i low : Nat) (bq : By), mz_ = L.length - i ∧ (az_.tmps.getD 0 undef = (ptr p 0)) ∧ (az_.tmps.getD 33 undef = u) ∧ (az_.tmps.getD 34 undef = (Value.int .i64 ((s : Nat) : Int))) ∧ (az_.tmps.getD 35 undef = (Value.int .i64 ((i : Nat) : Int))) ∧ (az_.tmps.getD 4 undef = (Value.int .i64 ((low : Nat) : Int))) ∧ (i ≤ L.length) ∧ (Pk bq L i low) ∧ (w.grownBy w' vb.ownBlock) ∧ (w7.heap.size ≤ w'.heap.size) ∧ (Bx w' p 50 [vb]) ∧ (∀ x9 ∈ acc, Own w' w.heap.size 5 1 x9.1 x9.2.length (x9.2.map u8v)) ∧ (Own w' w.heap.size 22 1 u s (acc.flatMap (fun x9 => [x9.1]))) ∧ (Own w' base 5 1 vb 256 (bq.map u8v))) _ hN7 hd7 ⟨0, 256, _, rfl, (sl_base hN7 rfl s7_0), (sl_hit hN7 rfl), (sl_hit hN7 rfl), (sl_hit hN7 rfl), (sl_hit hN7 rfl), Nat.zero_le _, (Pk.start R), hb, (Nat.le_refl _), hx, hall, hO8, O⟩ ?_
  rintro _ a48 w48 hN48 hd48 ⟨i, low, bq, rfl, s48_0, s48_33, s48_34, s48_35, s48_4, hi, hk, hb, zl_w48, hx, hall, hO8, hO49⟩
  have z_w48 := hb.size
  refine seq_any fun K50 hK50 => ?_
  refine one_reg ?_
  refine op_lss (ev_base hN48 rfl s48_35) (ev_base hN48 rfl s48_34) (fun c36 => ?_) (fun c36 => ?_)
  · -- 36T
   refine reg_nil ?_
   refine hK50 _ _ ?_
   refine seq_any fun K51 hK51 => ?_
   refine wp_cond_true (ev_hit hN48 rfl) ?_
   refine wp_skip ?_
   refine hK51 _ _ ?_
   refine seq_any fun K52 hK52 => ?_
   refine wp_block ?_
   refine seq_any fun K53 hK53 => ?_
   refine one_reg ?_
   refine op_move (ev_base hN48 rfl s48_35) ?_
   refine op_index_rd slt38 (ev_base hN48 rfl s48_33) hO8.rdw (ev_base hN48 rfl s48_35) (by omega) (by omega) ?_
   intro b54 o55 h0b54 h1b54 hc56
   have hs57 : Own w48 w.heap.size 5 1 (acc.getD i D0).1 (acc.getD i D0).2.length ((acc.getD i D0).2.map u8v) := hall _ (getD_mem (by omega))
   refine op_load1 (v := (acc.getD i D0).1) one22 (ev_hit hN48 rfl) (by have := hc56 0 (acc.getD i D0).1 (by decide) (el_ll (i := i) (d := D0) (by omega) (by omega)); simpa using this) ?_
   refine op_assign (ev_hit hN48 rfl) ?_
   refine op_assign (ev_hit hN48 rfl) ?_
   refine reg_nil ?_
   refine hK53 _ _ ?_
   refine seq_any fun K58 hK58 => ?_
   refine one_reg ?_
   refine op_move (ev_base hN48 rfl s48_4) ?_
   have hri := acc_get (i := i) hacc (by omega) (by omega)
   have hro := hk.room hfit (i := i) (by omega)
   have hrl := congrArg List.length hri
   refine op_move (ev_hit hN48 rfl) ?_
   refine op_len_rd Try.underlying22 (ev_hit hN48 rfl) hs57.rdw ?_
   refine op_sub (r := (((low - (acc.getD i D0).2.length) : Nat) : Int)) (ev_hit hN48 rfl) (ev_hit hN48 rfl) (by rw [IntKind.wrap_i64]; omega) ?_
   refine op_assign (ev_hit hN48 rfl) ?_
   refine reg_nil ?_
   refine hK58 _ _ ?_
   refine seq_any fun K59 hK59 => ?_
   refine one_reg ?_
   refine op_move (ev_base hN48 rfl s48_0) ?_
   refine op_nil (ev_hit hN48 rfl) ?_
   refine op_field fld50_0 (ev_hit hN48 rfl) ?_
   refine op_load1 (v := vb) one22 (ev_hit hN48 rfl) (hx.cell rfl) ?_
   refine op_move (ev_hit hN48 rfl) ?_
   refine op_slice_cut (k := (low - (acc.getD i D0).2.length)) slt22 (ev_hit hN48 rfl) hO49 (ev_hit hN48 rfl) (by omega) (by omega) ?_
   refine op_move (ev_hit hN48 rfl) ?_
   have hP63 := hO49
   refine op_copy_cut slt22 (ev_hit hN48 rfl) hP63 (ev_hit hN48 rfl) hs57.rdw (by simp [Value.oneCell', u8v]) (by omega) ?_
   intro w60 hO62 E61
   have z_w60 := E61.size
   have hx := hx.keepO hP63 E61 (by decide)
   have hall : ∀ x9 ∈ acc, Own w60 w.heap.size 5 1 x9.1 x9.2.length (x9.2.map u8v) := fun x9 hx9 => (hall x9 hx9).keep E61 (own_apart (hall x9 hx9) hvk)
   have hO8 := hO8.keepT hP63 E61 (by decide)
   have hs57 := hs57.keep E61 (own_apart hs57 hvk)
   have hb := grow_stepX hb E61 rfl
   have hO62 : Own w60 base 5 1 vb 256 (((cpB bq (low - (acc.getD i D0).2.length) (acc.getD i D0).2)).map u8v) := by exact hO62.cast rfl (by simp [cpB])
   refine reg_nil ?_
   refine hK59 _ _ ?_
   refine one_reg ?_
   have hl_c : (cpB bq (low - (acc.getD i D0).2.length) (acc.getD i D0).2).length = 256 := (cp_len (by have := hk.len; omega)).trans hk.len
   refine op_move (ev_base hN48 rfl s48_0) ?_
   refine op_move (ev_hit hN48 rfl) ?_
   refine op_move (ev_hit hN48 rfl) ?_
   refine op_move (ev_hit hN48 rfl) ?_
   refine op_len_rd Try.underlying22 (ev_hit hN48 rfl) hs57.rdw ?_
   refine op_fn (vs := [(ptr p 0), (Value.int .i64 ((i : Nat) : Int)), (Value.int .i64 (((low - (acc.getD i D0).2.length) : Nat) : Int)), (Value.int .i64 (((acc.getD i D0).2.length : Nat) : Int))]) ok41 ⟨(ev_hit hN48 rfl), ⟨(ev_hit hN48 rfl), ⟨(ev_hit hN48 rfl), ⟨(ev_hit hN48 rfl), trivial⟩⟩⟩⟩ (pts_ret (cpB bq (low - (acc.getD i D0).2.length) (acc.getD i D0).2) _ _ _ _ (by first | assumption | exact Rep.len (by assumption)) hx hO62 i (low - (acc.getD i D0).2.length) ((acc.getD i D0).2.length) (by omega) (by omega) (by omega)) ?_
   rintro _ w65 ⟨E66, rfl, hO64⟩
   have z_w65 := E66.size
   have hx := hx.keepO hO62 E66 (by decide)
   have hall : ∀ x9 ∈ acc, Own w65 w.heap.size 5 1 x9.1 x9.2.length (x9.2.map u8v) := fun x9 hx9 => (hall x9 hx9).keep E66 (own_apart (hall x9 hx9) hvk)
   have hO8 := hO8.keepT hO62 E66 (by decide)
   have hs57 := hs57.keep E66 (own_apart hs57 hvk)
   have hb := grow_stepX hb E66 rfl
   have hl_hO64 : (ptsB (cpB bq (low - (acc.getD i D0).2.length) (acc.getD i D0).2) i (low - (acc.getD i D0).2.length) ((acc.getD i D0).2.length)).length = 256 := (pts_len _ _ _ _).trans (by first | assumption | exact Rep.len (by assumption))
   refine reg_nil ?_
   refine hK52 _ _ ?_
   refine one_reg ?_
   refine op_add (ev_base hN48 rfl s48_35) rfl (add64 (by omega)) ?_
   refine op_move (ev_hit hN48 rfl) ?_
   refine reg_nil ?_
   -- round 10F 36T
   exact loop_next _ hN48 hd48 ⟨i + 1, _, _, rfl, (sl_base hN48 rfl s48_0), (sl_base hN48 rfl s48_33), (sl_base hN48 rfl s48_34), (sl_hit hN48 rfl).trans (congrArg (Value.int .i64) (by omega)), (sl_hit hN48 rfl), (by omega), (by have h9 := hk.step hfit (i := i) (by omega); rw [← hri] at h9; exact h9), hb, (by omega), hx, hall, hO8, hO64⟩ (by omega)
  · -- 36F
   refine reg_nil ?_
   refine hK50 _ _ ?_
   refine seq_any fun K67 hK67 => ?_
   refine wp_cond_false (ev_hit hN48 rfl) ?_
   refine wp_exit (then_exit (then_exit (blk_hit ?_)))
   refine hK46 _ _ ?_
   refine one_reg ?_
   have hl_e := hk.len
   have he : i = L.length := by omega
   have hse := hk.sum
   refine op_move (ev_base hN48 rfl s48_0) ?_
   refine op_move (ev_base hN48 rfl s48_4) ?_
   refine op_fn (vs := [(ptr p 0), (Value.int .i64 2), (Value.int .i64 ((low : Nat) : Int))]) ok42 ⟨(ev_hit hN48 rfl), ⟨rfl, ⟨(ev_hit hN48 rfl), trivial⟩⟩⟩ (set_ret bq _ _ _ _ (by first | assumption | exact Rep.len (by assumption)) hx hO49 2 low (by omega) (by omega)) ?_
   rintro _ w69 ⟨E70, rfl, hO68⟩
   have z_w69 := E70.size
   have hx := hx.keepO hO49 E70 (by decide)
   have hall : ∀ x9 ∈ acc, Own w69 w.heap.size 5 1 x9.1 x9.2.length (x9.2.map u8v) := fun x9 hx9 => (hall x9 hx9).keep E70 (own_apart (hall x9 hx9) hvk)
   have hO8 := hO8.keepT hO49 E70 (by decide)
   have hb := grow_stepX hb E70 rfl
   have hl_hO68 : (setB bq 2 low).length = 256 := (setB_len _ _ _).trans (by first | assumption | exact Rep.len (by assumption))
   refine reg_nil ?_
   refine end_ret ?_
   refine ret0 rfl hd48  ⟨_, rfl, ?_⟩
   -- path 10F 36F
   exact ⟨hb, rfl, _, hO68, (he ▸ hk : Pk bq L L.length low).last hfit⟩

end Go.Proofs.Ytdhpalioifjfbaa

/- Walks, written by a program: what each function of the translation hands back. -/
namespace Go.Proofs.Ytdhpalioifjfbaa
open Go.Gx Go.RowKit
attribute [local irreducible] wpList wpStill Code.wp Calls

theorem lays_ret (bs : By) (vb : Value) (base p : Nat) (w : World) (hl : bs.length = 256) (hx : Bx w p 50 [vb]) (O : Own w base 5 1 vb 256 (bs.map u8v)) (r : By) (bv : Value) (Lo Bo : Nat) (hbr : RdC w Lo Bo 1 bv r.length (r.map u8v)) (hap : ∀ q, vb.ownBlock = some q → q < Lo ∨ Bo ≤ q) (L : List By) (R : Rep bs L) (k : Nat) (hk : k ≤ L.length) (he : L.getD k [] = []) (hroom : 8 + max L.length (k + 1) * 4 + sumL L + r.length ≤ 256) : Ret Try.prog 40 #[(ptr p 0), (Value.int .i64 ((k : Nat) : Int)), bv] w (fun v' w' => w.grownBy w' vb.ownBlock ∧ v' = .tuple #[] ∧ ∃ bs', Own w' base 5 1 vb 256 (bs'.map u8v) ∧ Rep bs' (layL L k r)) := by
 have hb := grown_refl w vb.ownBlock
 refine enter (N := 54) Try.func40 rfl rfl (by simp) fun a0 hN hd hA => ?_
 have s0 : a0.tmps.getD 0 undef = (ptr p 0) := hA 0 (by simp)
 have s1 : a0.tmps.getD 1 undef = (Value.int .i64 ((k : Nat) : Int)) := hA 1 (by simp)
 have s2 : a0.tmps.getD 2 undef = bv := hA 2 (by simp)
 clear hA
 refine seq_any fun K1 hK1 => ?_
 refine one_reg ?_
 refine op_move (ev_base hN rfl s0) ?_
 refine op_fn (vs := [(ptr p 0)]) ok37 ⟨(ev_hit hN rfl), trivial⟩ (many_ret bs _ _ _ _ (by first | assumption | exact Rep.len (by assumption)) hx O L R) ?_
 rintro _ w3 ⟨E4, rfl⟩
 have E4 := grown_of_below E4
 have z_w3 := E4.size
 have hx := hx.keep0 E4
 have O := O.keep0 E4
 have hbr := hbr.keep0 E4
 have hb := grow_step0 hb E4
 have hm_2 := Rep.fits R
 refine op_move (ev_base hN rfl s1) ?_
 refine op_add (ev_hit hN rfl) rfl (add64 (by omega)) ?_
 refine op_max (r := ((max L.length (k + 1) : Nat) : Int)) (ev_hit hN rfl) (ev_hit hN rfl) (by omega) ?_
 refine op_assign (ev_hit hN rfl) ?_
 refine reg_nil ?_
 refine hK1 _ _ ?_
 refine seq_join1 (N := 54) (fun az_ w' => ∃ (bq : By), (az_.tmps.getD 0 undef = (ptr p 0)) ∧ (az_.tmps.getD 1 undef = (Value.int .i64 ((k : Nat) : Int))) ∧ (az_.tmps.getD 2 undef = bv) ∧ (Rep bq L) ∧ (8 + max L.length (k + 1) * 4 + r.length ≤ numB bq 2) ∧ (w.grownBy w' vb.ownBlock) ∧ (w3.heap.size ≤ w'.heap.size) ∧ (Bx w' p 50 [vb]) ∧ (RdC w' Lo Bo 1 bv r.length (r.map u8v)) ∧ (Own w' base 5 1 vb 256 (bq.map u8v))) (fun hJ5 => ?_) ?_
 ·
  refine seq_any fun K7 hK7 => ?_
  refine seq_any fun K8 hK8 => ?_
  refine one_reg ?_
  refine op_move (ev_base hN rfl s0) ?_
  refine op_fn (vs := [(ptr p 0), (Value.int .i64 2)]) ok52 ⟨(ev_hit hN rfl), ⟨rfl, trivial⟩⟩ (num_ret bs _ _ _ _ (by first | assumption | exact Rep.len (by assumption)) hx O 2 (by omega)) ?_
  rintro _ w9 ⟨E10, rfl⟩
  have E10 := grown_of_below E10
  have z_w9 := E10.size
  have hx := hx.keep0 E10
  have O := O.keep0 E10
  have hbr := hbr.keep0 E10
  have hb := grow_step0 hb E10
  have hn2 := numB_lt bs 2
  refine op_move (ev_base hN rfl s2) ?_
  refine op_len_rd Try.underlying22 (ev_hit hN rfl) hbr ?_
  refine op_sub (ev_hit hN rfl) (ev_hit hN rfl) (sub64 (by omega)) ?_
  refine op_move (ev_hit hN rfl) ?_
  refine op_mul (ev_hit hN rfl) rfl (mul64 (by omega)) ?_
  refine op_add rfl (ev_hit hN rfl) (add64 (by omega)) ?_
  refine op_lss (ev_hit hN rfl) (ev_hit hN rfl) (fun c21 => ?_) (fun c21 => ?_)
  · -- 21T
   refine reg_nil ?_
   refine hK8 _ _ ?_
   refine wp_cond_true (ev_hit hN rfl) ?_
   refine one_reg ?_
   refine op_move (ev_base hN rfl s0) ?_
   refine op_fn (vs := [(ptr p 0)]) ok53 ⟨(ev_hit hN rfl), trivial⟩ (packs_ret bs _ _ _ _ (by first | assumption | exact Rep.len (by assumption)) hx O L R) ?_
   rintro _ w13 ⟨E14, rfl, bs11, hO12, R11, hs11⟩
   have z_w13 := E14.size
   have hx := hx.keepO O E14 (by decide)
   have hbr := hbr.keep E14 hap
   have hb := grow_stepX hb E14 rfl
   have hl_hO12 : bs11.length = 256 := R11.len
   refine reg_nil ?_
   refine hK7 _ _ ?_
   exact hJ5 _ _ _ hN hd ⟨_, (sl_base hN rfl s0), (sl_base hN rfl s1), (sl_base hN rfl s2), R11, (by omega), hb, (by omega), hx, hbr, hO12⟩
  · -- 21F
   refine reg_nil ?_
   refine hK8 _ _ ?_
   refine wp_cond_false (ev_hit hN rfl) ?_
   refine wp_skip ?_
   refine hK7 _ _ ?_
   exact hJ5 _ _ _ hN hd ⟨_, (sl_base hN rfl s0), (sl_base hN rfl s1), (sl_base hN rfl s2), R, (by omega), hb, (by omega), hx, hbr, O⟩
 ·
  rintro a5 w5 hN5 hd5 ⟨bq, s5_0, s5_1, s5_2, R2, hr2, hb, zl_w5, hx, hbr, hO6⟩
  have z_w5 := hb.size
  refine seq_join1 (N := 54) (fun az_ w' => ∃ (b1 : By), (az_.tmps.getD 0 undef = (ptr p 0)) ∧ (az_.tmps.getD 1 undef = (Value.int .i64 ((k : Nat) : Int))) ∧ (az_.tmps.getD 2 undef = bv) ∧ (b1 = lay1 bq k) ∧ (b1.length = 256) ∧ (numB b1 2 = numB bq 2) ∧ (w.grownBy w' vb.ownBlock) ∧ (w5.heap.size ≤ w'.heap.size) ∧ (Bx w' p 50 [vb]) ∧ (RdC w' Lo Bo 1 bv r.length (r.map u8v)) ∧ (Own w' base 5 1 vb 256 (b1.map u8v))) (fun hJ15 => ?_) ?_
  ·
   refine seq_any fun K17 hK17 => ?_
   refine seq_any fun K18 hK18 => ?_
   refine one_reg ?_
   refine op_move (ev_base hN5 rfl s5_1) ?_
   refine op_move (ev_base hN5 rfl s5_0) ?_
   refine op_fn (vs := [(ptr p 0)]) ok37 ⟨(ev_hit hN5 rfl), trivial⟩ (many_ret bq _ _ _ _ (by first | assumption | exact Rep.len (by assumption)) hx hO6 L R2) ?_
   rintro _ w20 ⟨E21, rfl⟩
   have E21 := grown_of_below E21
   have z_w20 := E21.size
   have hx := hx.keep0 E21
   have hbr := hbr.keep0 E21
   have hO6 := hO6.keep0 E21
   have hb := grow_step0 hb E21
   have hm_19 := Rep.fits R2
   refine op_geq (ev_hit hN5 rfl) (ev_hit hN5 rfl) (fun c27 => ?_) (fun c27 => ?_)
   · -- 27T
    refine reg_nil ?_
    refine hK18 _ _ ?_
    refine wp_cond_true (ev_hit hN5 rfl) ?_
    refine one_reg ?_
    refine op_move (ev_base hN5 rfl s5_0) ?_
    refine op_move (ev_base hN5 rfl s5_1) ?_
    refine op_add (ev_hit hN5 rfl) rfl (add64 (by omega)) ?_
    refine op_fn (vs := [(ptr p 0), (Value.int .i64 0), (Value.int .i64 (((k : Nat) : Int) + 1))]) ok42 ⟨(ev_hit hN5 rfl), ⟨rfl, ⟨(ev_hit hN5 rfl), trivial⟩⟩⟩ (set_ret bq _ _ _ _ (by first | assumption | exact Rep.len (by assumption)) hx hO6 0 (k + 1) (by omega) (by omega)) ?_
    rintro _ w23 ⟨E24, rfl, hO22⟩
    have z_w23 := E24.size
    have hx := hx.keepO hO6 E24 (by decide)
    have hbr := hbr.keep E24 hap
    have hb := grow_stepX hb E24 rfl
    have hl_hO22 : (setB bq 0 (k + 1)).length = 256 := (setB_len _ _ _).trans (by first | assumption | exact Rep.len (by assumption))
    refine reg_nil ?_
    refine hK17 _ _ ?_
    exact hJ15 _ _ _ hN5 hd5 ⟨_, (sl_base hN5 rfl s5_0), (sl_base hN5 rfl s5_1), (sl_base hN5 rfl s5_2), (by have := R2.many; unfold lay1; rw [if_pos (by omega)]), (by first | assumption | exact R2.len), (numB_other (by omega)), hb, (by omega), hx, hbr, hO22⟩
   · -- 27F
    refine reg_nil ?_
    refine hK18 _ _ ?_
    refine wp_cond_false (ev_hit hN5 rfl) ?_
    refine wp_skip ?_
    refine hK17 _ _ ?_
    exact hJ15 _ _ _ hN5 hd5 ⟨_, (sl_base hN5 rfl s5_0), (sl_base hN5 rfl s5_1), (sl_base hN5 rfl s5_2), (by have := R2.many; unfold lay1; rw [if_neg (by omega)]), (by first | assumption | exact R2.len), rfl, hb, (by omega), hx, hbr, hO6⟩
  ·
   rintro a15 w15 hN15 hd15 ⟨b1, s15_0, s15_1, s15_2, hb1, hl1, hn1, hb, zl_w15, hx, hbr, hO16⟩
   have z_w15 := hb.size
   refine seq_any fun K25 hK25 => ?_
   refine one_reg ?_
   refine op_move (ev_base hN15 rfl s15_0) ?_
   refine op_fn (vs := [(ptr p 0), (Value.int .i64 2)]) ok52 ⟨(ev_hit hN15 rfl), ⟨rfl, trivial⟩⟩ (num_ret b1 _ _ _ _ (by first | assumption | exact Rep.len (by assumption)) hx hO16 2 (by omega)) ?_
   rintro _ w26 ⟨E27, rfl⟩
   have E27 := grown_of_below E27
   have z_w26 := E27.size
   have hx := hx.keep0 E27
   have hbr := hbr.keep0 E27
   have hO16 := hO16.keep0 E27
   have hb := grow_step0 hb E27
   have hn3 := numB_lt bq 2
   refine op_move (ev_base hN15 rfl s15_2) ?_
   refine op_len_rd Try.underlying22 (ev_hit hN15 rfl) hbr ?_
   refine op_sub (r := (((numB b1 2 - r.length) : Nat) : Int)) (ev_hit hN15 rfl) (ev_hit hN15 rfl) (by rw [IntKind.wrap_i64]; omega) ?_
   refine op_assign (ev_hit hN15 rfl) ?_
   refine reg_nil ?_
   refine hK25 _ _ ?_
   refine seq_any fun K28 hK28 => ?_
   refine one_reg ?_
   refine op_move (ev_base hN15 rfl s15_0) ?_
   refine op_nil (ev_hit hN15 rfl) ?_
   refine op_field fld50_0 (ev_hit hN15 rfl) ?_
   refine op_load1 (v := vb) one22 (ev_hit hN15 rfl) (hx.cell rfl) ?_
   refine op_move (ev_hit hN15 rfl) ?_
   refine op_slice_cut (k := (numB b1 2 - r.length)) slt22 (ev_hit hN15 rfl) hO16 (ev_hit hN15 rfl) (by omega) (by have := R2.low; omega) ?_
   refine op_move (ev_base hN15 rfl s15_2) ?_
   have hP32 := hO16
   refine op_copy_cut slt22 (ev_hit hN15 rfl) hP32 (ev_hit hN15 rfl) hbr (by simp [Value.oneCell', u8v]) (by have := R2.low; omega) ?_
   intro w29 hO31 E30
   have z_w29 := E30.size
   have hx := hx.keepO hP32 E30 (by decide)
   have hbr := hbr.keep E30 hap
   have hb := grow_stepX hb E30 rfl
   have hO31 : Own w29 base 5 1 vb 256 (((cpB b1 (numB b1 2 - r.length) r)).map u8v) := by exact hO31.cast rfl (by simp [cpB])
   refine reg_nil ?_
   refine hK28 _ _ ?_
   refine seq_any fun K33 hK33 => ?_
   refine one_reg ?_
   have hr2l := R2.low
   have hl_c : (cpB b1 (numB b1 2 - r.length) r).length = 256 := (cp_len (by omega)).trans hl1
   have hkf := R2.fits
   refine op_move (ev_base hN15 rfl s15_0) ?_
   refine op_move (ev_base hN15 rfl s15_1) ?_
   refine op_move (ev_hit hN15 rfl) ?_
   refine op_move (ev_base hN15 rfl s15_2) ?_
   refine op_len_rd Try.underlying22 (ev_hit hN15 rfl) hbr ?_
   refine op_fn (vs := [(ptr p 0), (Value.int .i64 ((k : Nat) : Int)), (Value.int .i64 (((numB b1 2 - r.length) : Nat) : Int)), (Value.int .i64 ((r.length : Nat) : Int))]) ok41 ⟨(ev_hit hN15 rfl), ⟨(ev_hit hN15 rfl), ⟨(ev_hit hN15 rfl), ⟨(ev_hit hN15 rfl), trivial⟩⟩⟩⟩ (pts_ret (cpB b1 (numB b1 2 - r.length) r) _ _ _ _ (by first | assumption | exact Rep.len (by assumption)) hx hO31 k (numB b1 2 - r.length) (r.length) (by omega) (by omega) (by omega)) ?_
   rintro _ w35 ⟨E36, rfl, hO34⟩
   have z_w35 := E36.size
   have hx := hx.keepO hO31 E36 (by decide)
   have hbr := hbr.keep E36 hap
   have hb := grow_stepX hb E36 rfl
   have hl_hO34 : (ptsB (cpB b1 (numB b1 2 - r.length) r) k (numB b1 2 - r.length) (r.length)).length = 256 := (pts_len _ _ _ _).trans (by first | assumption | exact Rep.len (by assumption))
   refine reg_nil ?_
   refine hK33 _ _ ?_
   refine one_reg ?_
   refine op_move (ev_base hN15 rfl s15_0) ?_
   refine op_move (ev_hit hN15 rfl) ?_
   refine op_fn (vs := [(ptr p 0), (Value.int .i64 2), (Value.int .i64 (((numB b1 2 - r.length) : Nat) : Int))]) ok42 ⟨(ev_hit hN15 rfl), ⟨rfl, ⟨(ev_hit hN15 rfl), trivial⟩⟩⟩ (set_ret (ptsB (cpB b1 (numB b1 2 - r.length) r) k (numB b1 2 - r.length) (r.length)) _ _ _ _ (by first | assumption | exact Rep.len (by assumption)) hx hO34 2 (numB b1 2 - r.length) (by omega) (by omega)) ?_
   rintro _ w38 ⟨E39, rfl, hO37⟩
   have z_w38 := E39.size
   have hx := hx.keepO hO34 E39 (by decide)
   have hbr := hbr.keep E39 hap
   have hb := grow_stepX hb E39 rfl
   have hl_hO37 : (setB (ptsB (cpB b1 (numB b1 2 - r.length) r) k (numB b1 2 - r.length) (r.length)) 2 (numB b1 2 - r.length)).length = 256 := (setB_len _ _ _).trans (by first | assumption | exact Rep.len (by assumption))
   refine reg_nil ?_
   refine end_ret ?_
   refine ret0 rfl hd15  ⟨_, rfl, ?_⟩
   -- path
   subst hb1
   exact ⟨hb, rfl, _, hO37, R2.lay hk he hr2⟩

end Go.Proofs.Ytdhpalioifjfbaa

/- Walks, written by a program: what each function of the translation hands back. -/
namespace Go.Proofs.Ytdhpalioifjfbaa
open Go.Gx Go.RowKit
attribute [local irreducible] wpList wpStill Code.wp Calls

theorem put_ret (L : List By) (bs : By) (n : Nat) (vb : Value) (base p : Nat) (w : World) (hbase : base ≤ w.heap.size) (hx : Bx w p 50 [vb]) (O : Own w base 5 1 vb n (bs.map u8v)) (hP : Pg n bs L vb) (r : By) (bv : Value) (Lo Bo : Nat) (hbr : RdC w Lo Bo 1 bv r.length (r.map u8v)) (hpa : ∀ q, pgRow p n vb = some q → q < Lo ∨ Bo ≤ q) (hBw : Bo ≤ w.heap.size)  : Ret Try.prog 11 #[(ptr p 0), bv] w (fun v' w' => w.grownBy w' (pgRow p n vb) ∧ v' = .tuple #[.int .i64 (putK L r), .int .i64 (putE L r)] ∧ ∃ u n' bs', Bx w' p 50 [u] ∧ Own w' base 5 1 u n' (bs'.map u8v) ∧ Pg n' bs' (putN L r) u ∧ RowP p n' u (pgRow p n vb) w.heap.size) := by
 have hb := grown_refl w (pgRow p n vb)
 refine enter (N := 45) Try.func11 rfl rfl (by simp) fun a0 hN hd hA => ?_
 have s0 : a0.tmps.getD 0 undef = (ptr p 0) := hA 0 (by simp)
 have s1 : a0.tmps.getD 1 undef = bv := hA 1 (by simp)
 clear hA
 refine seq_any fun K1 hK1 => ?_
 refine one_reg ?_
 refine op_assign rfl ?_
 refine op_assign rfl ?_
 refine reg_nil ?_
 refine hK1 _ _ ?_
 refine seq_any fun K2 hK2 => ?_
 refine seq_any fun K3 hK3 => ?_
 refine one_reg ?_
 refine op_move (ev_base hN rfl s0) ?_
 refine op_peq_some ptrt24 (ev_hit hN rfl) rfl ?_
 refine reg_nil ?_
 refine hK3 _ _ ?_
 refine wp_cond_false (ev_hit hN rfl) ?_
 refine wp_skip ?_
 refine hK2 _ _ ?_
 refine seq_any fun K4 hK4 => ?_
 refine seq_any fun K5 hK5 => ?_
 refine one_reg ?_
 refine op_move (ev_base hN rfl s1) ?_
 refine op_len_rd Try.underlying22 (ev_hit hN rfl) hbr ?_
 refine op_eql (ev_hit hN rfl) rfl (fun c10 => ?_) (fun c10 => ?_)
 · -- 10T
  refine op_move (ev_hit hN rfl) ?_
  refine g_false (j := 3) (dj := 11) (b := false) rfl rfl rfl (ev_hit hN rfl) rfl rfl ?_
  refine g_false (j := 3) (dj := 11) (b := false) rfl rfl rfl (ev_hit hN rfl) rfl rfl ?_
  refine g_false (j := 3) (dj := 11) (b := false) rfl rfl rfl (ev_hit hN rfl) rfl rfl ?_
  refine op_pick_t (ev_hit hN rfl) rfl ?_
  refine reg_nil ?_
  refine hK5 _ _ ?_
  refine wp_cond_true (ev_hit hN rfl) ?_
  refine seq_any fun K6 hK6 => ?_
  refine one_reg ?_
  refine op_assign rfl ?_
  refine op_assign rfl ?_
  refine reg_nil ?_
  refine hK6 _ _ ?_
  refine wp_ret (then_ret ( ?_))
  refine ret2 rfl hd (ev_hit hN rfl) (ev_hit hN rfl) ⟨_, rfl, ?_⟩
  -- path 10T
  obtain ⟨e1, e2, e3⟩ := put_bad (L := L) (badB_t (r := r) (by omega))
  rw [e1, e2, e3]
  exact ⟨hb, rfl, ⟨_, _, _, hx, O, hP, hP.rowP⟩⟩
 · -- 10F
  refine op_move (ev_hit hN rfl) ?_
  refine g_true (j := 3) (dj := 11) (b := false) rfl rfl rfl (ev_hit hN rfl) ?_
  refine op_move (ev_base hN rfl s1) ?_
  refine g_true (j := 3) (dj := 11) (b := false) rfl rfl rfl (ev_hit hN rfl) ?_
  refine op_len_rd Try.underlying22 (ev_hit hN rfl) hbr ?_
  refine g_true (j := 3) (dj := 11) (b := false) rfl rfl rfl (ev_hit hN rfl) ?_
  refine op_gtr (ev_hit hN rfl) rfl (fun c14 => ?_) (fun c14 => ?_)
  · -- 14T
   refine op_pick_f (ev_hit hN rfl) (ev_hit hN rfl) ?_
   refine reg_nil ?_
   refine hK5 _ _ ?_
   refine wp_cond_true (ev_hit hN rfl) ?_
   refine seq_any fun K7 hK7 => ?_
   refine one_reg ?_
   refine op_assign rfl ?_
   refine op_assign rfl ?_
   refine reg_nil ?_
   refine hK7 _ _ ?_
   refine wp_ret (then_ret ( ?_))
   refine ret2 rfl hd (ev_hit hN rfl) (ev_hit hN rfl) ⟨_, rfl, ?_⟩
   -- path 10F 14T
   obtain ⟨e1, e2, e3⟩ := put_bad (L := L) (badB_t (r := r) (by omega))
   rw [e1, e2, e3]
   exact ⟨hb, rfl, ⟨_, _, _, hx, O, hP, hP.rowP⟩⟩
  · -- 14F
   refine op_pick_f (ev_hit hN rfl) (ev_hit hN rfl) ?_
   refine reg_nil ?_
   refine hK5 _ _ ?_
   refine wp_cond_false (ev_hit hN rfl) ?_
   refine wp_skip ?_
   refine hK4 _ _ ?_
   refine seq_any fun K8 hK8 => ?_
   refine one_reg ?_
   refine op_move (ev_base hN rfl s0) ?_
   refine op_fn (vs := [(ptr p 0)]) ok36 ⟨(ev_hit hN rfl), trivial⟩ (ready_ret L bs n _ _ _ _ hbase hx O hP) ?_
   rintro _ w10 ⟨E11, rfl, u9, bs9, hx9, hO9, R9, ro9⟩
   have z_w10 := E11.size
   have hbr := hbr.keep E11 hpa
   have hb := grown_trans hb E11
   refine reg_nil ?_
   refine hK8 _ _ ?_
   refine seq_join1 (N := 45) (fun az_ w' => ∃ (k : Nat), (az_.tmps.getD 0 undef = (ptr p 0)) ∧ (az_.tmps.getD 1 undef = bv) ∧ (az_.tmps.getD 5 undef = (Value.int .i64 0)) ∧ (az_.tmps.getD 4 undef = (Value.int .i64 ((k : Nat) : Int))) ∧ (k = freeL L) ∧ (w.grownBy w' (pgRow p n vb)) ∧ (w10.heap.size ≤ w'.heap.size) ∧ (RdC w' Lo Bo 1 bv r.length (r.map u8v)) ∧ (Bx w' p 50 [u9]) ∧ (Own w' base 5 1 u9 256 (bs9.map u8v))) (fun hJ12 => ?_) ?_
   ·
    refine seq_any fun K13 hK13 => ?_
    refine wp_block ?_
    refine loop_m (fun mz_ az_ w' => ∃ (k : Nat), mz_ = (freeL L - k) ∧ (az_.tmps.getD 0 undef = (ptr p 0)) ∧ (az_.tmps.getD 1 undef = bv) ∧ (az_.tmps.getD 5 undef = (Value.int .i64 0)) ∧ (az_.tmps.getD 4 undef = (Value.int .i64 ((k : Nat) : Int))) ∧ (k ≤ freeL L) ∧ (w.grownBy w' (pgRow p n vb)) ∧ (w10.heap.size ≤ w'.heap.size) ∧ (RdC w' Lo Bo 1 bv r.length (r.map u8v)) ∧ (Bx w' p 50 [u9]) ∧ (Own w' base 5 1 u9 256 (bs9.map u8v))) _ hN hd ⟨0, rfl, (sl_base hN rfl s0), (sl_base hN rfl s1), (sl_hit hN rfl), (sl_hit hN rfl), Nat.zero_le _, hb, (Nat.le_refl _), hbr, hx9, hO9⟩ ?_
    rintro _ a14 w14 hN14 hd14 ⟨k, rfl, s14_0, s14_1, s14_5, s14_4, hkf, hb, zl_w14, hbr, hx9, hO9⟩
    have z_w14 := hb.size
    refine seq_any fun K15 hK15 => ?_
    refine seq_any fun K16 hK16 => ?_
    refine one_reg ?_
    refine op_move (ev_base hN14 rfl s14_4) ?_
    refine op_move (ev_base hN14 rfl s14_0) ?_
    refine op_fn (vs := [(ptr p 0)]) ok37 ⟨(ev_hit hN14 rfl), trivial⟩ (many_ret bs9 _ _ _ _ (by first | assumption | exact Rep.len (by assumption)) hx9 hO9 L R9) ?_
    rintro _ w18 ⟨E19, rfl⟩
    have E19 := grown_of_below E19
    have z_w18 := E19.size
    have hbr := hbr.keep0 E19
    have hx9 := hx9.keep0 E19
    have hO9 := hO9.keep0 E19
    have hb := grow_step0 hb E19
    have hm_17 := Rep.fits R9
    refine op_lss (ev_hit hN14 rfl) (ev_hit hN14 rfl) (fun c21 => ?_) (fun c21 => ?_)
    · -- 21T
     refine op_move (ev_hit hN14 rfl) ?_
     refine g_true (j := 4) (dj := 22) (b := true) rfl rfl rfl (ev_hit hN14 rfl) ?_
     refine op_move (ev_base hN14 rfl s14_0) ?_
     refine g_true (j := 4) (dj := 22) (b := true) rfl rfl rfl (ev_hit hN14 rfl) ?_
     refine op_move (ev_base hN14 rfl s14_4) ?_
     refine g_true (j := 4) (dj := 22) (b := true) rfl rfl rfl (ev_hit hN14 rfl) ?_
     refine op_fn (vs := [(ptr p 0), (Value.int .i64 ((k : Nat) : Int))]) ok38 ⟨(ev_hit hN14 rfl), ⟨(ev_hit hN14 rfl), trivial⟩⟩ (size_ret bs9 _ _ _ _ (by first | assumption | exact Rep.len (by assumption)) hx9 hO9 L R9 ((k : Nat) : Int) (by omega)) ?_
     rintro _ w21 ⟨E22, rfl⟩
     have E22 := grown_of_below E22
     have z_w21 := E22.size
     have hbr := hbr.keep0 E22
     have hx9 := hx9.keep0 E22
     have hO9 := hO9.keep0 E22
     have hb := grow_step0 hb E22
     have hz_20 := sizeL_le R9 ((k : Nat) : Int)
     refine g_true (j := 4) (dj := 22) (b := true) rfl rfl rfl (ev_hit hN14 rfl) ?_
     refine op_gtr (ev_hit hN14 rfl) rfl (fun c26 => ?_) (fun c26 => ?_)
     · -- 26T
      refine op_pick_t (ev_hit hN14 rfl) (ev_hit hN14 rfl) ?_
      refine reg_nil ?_
      refine hK16 _ _ ?_
      refine wp_cond_true (ev_hit hN14 rfl) ?_
      refine wp_skip ?_
      refine hK15 _ _ ?_
      refine wp_block ?_
      refine one_reg ?_
      refine op_move (ev_base hN14 rfl s14_4) ?_
      refine op_add (ev_hit hN14 rfl) rfl (add64 (by omega)) ?_
      refine op_assign (ev_hit hN14 rfl) ?_
      refine reg_nil ?_
      refine blk_normal ?_
      -- round 10F 14F 21T 26T
      exact loop_next _ hN14 hd14 ⟨k + 1, rfl, (sl_base hN14 rfl s14_0), (sl_base hN14 rfl s14_1), (sl_base hN14 rfl s14_5), (sl_hit hN14 rfl).trans (congrArg (Value.int .i64) (by omega)), (freeL_go hkf (by omega) (fun h9 => by have h8 := sizeL_in (L := L) (s := k) (by omega); rw [h9] at h8; simp at h8; omega)), hb, (by omega), hbr, hx9, hO9⟩ (by have h7 := freeL_go hkf (by omega) (fun h9 => by have h8 := sizeL_in (L := L) (s := k) (by omega); rw [h9] at h8; simp at h8; omega); omega)
     · -- 26F
      refine op_pick_t (ev_hit hN14 rfl) (ev_hit hN14 rfl) ?_
      refine reg_nil ?_
      refine hK16 _ _ ?_
      refine wp_cond_false (ev_hit hN14 rfl) ?_
      refine wp_exit (then_exit (then_exit (blk_hit ?_)))
      refine hK13 _ _ ?_
      exact hJ12 _ _ _ hN14 hd14 ⟨k, (sl_base hN14 rfl s14_0), (sl_base hN14 rfl s14_1), (sl_base hN14 rfl s14_5), (sl_base hN14 rfl s14_4), (freeL_stop hkf (.inr (List.eq_nil_of_length_eq_zero (by have h8 := sizeL_in (L := L) (s := k) (by omega); omega)))).symm, hb, (by omega), hbr, hx9, hO9⟩
    · -- 21F
     refine op_move (ev_hit hN14 rfl) ?_
     refine g_false (j := 4) (dj := 22) (b := true) rfl rfl rfl (ev_hit hN14 rfl) rfl rfl ?_
     refine g_false (j := 4) (dj := 22) (b := true) rfl rfl rfl (ev_hit hN14 rfl) rfl rfl ?_
     refine g_false (j := 4) (dj := 22) (b := true) rfl rfl rfl (ev_hit hN14 rfl) rfl rfl ?_
     refine g_false (j := 4) (dj := 22) (b := true) rfl rfl rfl (ev_hit hN14 rfl) rfl rfl ?_
     refine op_pick_f (ev_hit hN14 rfl) rfl ?_
     refine reg_nil ?_
     refine hK16 _ _ ?_
     refine wp_cond_false (ev_hit hN14 rfl) ?_
     refine wp_exit (then_exit (then_exit (blk_hit ?_)))
     refine hK13 _ _ ?_
     exact hJ12 _ _ _ hN14 hd14 ⟨k, (sl_base hN14 rfl s14_0), (sl_base hN14 rfl s14_1), (sl_base hN14 rfl s14_5), (sl_base hN14 rfl s14_4), (freeL_stop hkf (.inl (by omega))).symm, hb, (by omega), hbr, hx9, hO9⟩
   ·
    rintro a12 w12 hN12 hd12 ⟨k, s12_0, s12_1, s12_5, s12_4, hkf, hb, zl_w12, hbr, hx9, hO9⟩
    have z_w12 := hb.size
    refine seq_any fun K23 hK23 => ?_
    refine seq_any fun K24 hK24 => ?_
    refine one_reg ?_
    refine op_move (ev_base hN12 rfl s12_0) ?_
    refine op_move (ev_base hN12 rfl s12_0) ?_
    refine op_fn (vs := [(ptr p 0)]) ok37 ⟨(ev_hit hN12 rfl), trivial⟩ (many_ret bs9 _ _ _ _ (by first | assumption | exact Rep.len (by assumption)) hx9 hO9 L R9) ?_
    rintro _ w26 ⟨E27, rfl⟩
    have E27 := grown_of_below E27
    have z_w26 := E27.size
    have hbr := hbr.keep0 E27
    have hx9 := hx9.keep0 E27
    have hO9 := hO9.keep0 E27
    have hb := grow_step0 hb E27
    have hm_25 := Rep.fits R9
    refine op_move (ev_base hN12 rfl s12_4) ?_
    have hfl := freeL_le L
    refine op_add (ev_hit hN12 rfl) rfl (add64 (by omega)) ?_
    refine op_max (r := (((max L.length (k + 1)) : Nat) : Int)) (ev_hit hN12 rfl) (ev_hit hN12 rfl) (by omega) ?_
    refine op_fn (vs := [(ptr p 0), (Value.int .i64 (((max L.length (k + 1)) : Nat) : Int))]) ok39 ⟨(ev_hit hN12 rfl), ⟨(ev_hit hN12 rfl), trivial⟩⟩ (left_ret bs9 _ _ _ _ (by first | assumption | exact Rep.len (by assumption)) hx9 hO9 L R9 (max L.length (k + 1)) (by omega)) ?_
    rintro _ w29 ⟨E30, rfl⟩
    have E30 := grown_of_below E30
    have z_w29 := E30.size
    have hbr := hbr.keep0 E30
    have hx9 := hx9.keep0 E30
    have hO9 := hO9.keep0 E30
    have hb := grow_step0 hb E30
    have hlf_28 := leftL_rng R9 (max L.length (k + 1)) (by omega)
    refine op_move (ev_base hN12 rfl s12_1) ?_
    refine op_len_rd Try.underlying22 (ev_hit hN12 rfl) hbr ?_
    refine op_lss (ev_hit hN12 rfl) (ev_hit hN12 rfl) (fun c39 => ?_) (fun c39 => ?_)
    · -- 39T
     refine reg_nil ?_
     refine hK24 _ _ ?_
     refine wp_cond_true (ev_hit hN12 rfl) ?_
     refine seq_any fun K31 hK31 => ?_
     refine one_reg ?_
     refine op_assign rfl ?_
     refine op_assign rfl ?_
     refine reg_nil ?_
     refine hK31 _ _ ?_
     refine wp_ret (then_ret ( ?_))
     refine ret2 rfl hd12 (ev_hit hN12 rfl) (ev_hit hN12 rfl) ⟨_, rfl, ?_⟩
     -- path 10F 14F 39T
     obtain ⟨e1, e2, e3⟩ := put_full (L := L) (badB_f (r := r) (by omega)) (hkf ▸ c39)
     rw [e1, e2, e3]
     exact ⟨hb, rfl, ⟨_, _, _, hx9, hO9, R9.pg, (RowP.laid (by decide) ro9)⟩⟩
    · -- 39F
     refine reg_nil ?_
     refine hK24 _ _ ?_
     refine wp_cond_false (ev_hit hN12 rfl) ?_
     refine wp_skip ?_
     refine hK23 _ _ ?_
     refine seq_any fun K32 hK32 => ?_
     refine one_reg ?_
     refine op_move (ev_base hN12 rfl s12_0) ?_
     refine op_move (ev_base hN12 rfl s12_4) ?_
     refine op_move (ev_base hN12 rfl s12_1) ?_
     refine op_fn (vs := [(ptr p 0), (Value.int .i64 ((k : Nat) : Int)), bv]) ok40 ⟨(ev_hit hN12 rfl), ⟨(ev_hit hN12 rfl), ⟨(ev_hit hN12 rfl), trivial⟩⟩⟩ (lays_ret bs9 _ _ _ _ (by first | assumption | exact Rep.len (by assumption)) hx9 hO9 r _ _ _ hbr (ro9.apart hpa hBw) L R9 k (by omega) (by rw [hkf]; exact freeL_get) (by have h9 := c39; unfold leftL at h9; omega)) ?_
     rintro _ w35 ⟨E36, rfl, bs33, hO34, R33⟩
     have z_w35 := E36.size
     have hbr := hbr.keep E36 (ro9.apart hpa hBw)
     have hx9 := hx9.keepO hO9 E36 (by decide)
     have hb := grow_stepP hb E36 ro9
     have hl_hO34 : bs33.length = 256 := R33.len
     refine reg_nil ?_
     refine hK32 _ _ ?_
     refine seq_any fun K37 hK37 => ?_
     refine one_reg ?_
     refine op_move (ev_base hN12 rfl s12_4) ?_
     refine op_assign (ev_hit hN12 rfl) ?_
     refine op_assign rfl ?_
     refine reg_nil ?_
     refine hK37 _ _ ?_
     refine wp_ret ?_
     refine ret2 rfl hd12 (ev_hit hN12 rfl) (ev_hit hN12 rfl) ⟨_, rfl, ?_⟩
     -- path 10F 14F 39F
     obtain ⟨e1, e2, e3⟩ := put_ok (L := L) (badB_f (r := r) (by omega)) (hkf ▸ c39)
     rw [e1, e2, e3]
     subst hkf
     exact ⟨hb, rfl, ⟨_, _, _, hx9, hO34, R33.pg, (RowP.laid (by decide) ro9)⟩⟩

end Go.Proofs.Ytdhpalioifjfbaa

/- Walks, written by a program: what each function of the translation hands back. -/
namespace Go.Proofs.Ytdhpalioifjfbaa
open Go.Gx Go.RowKit
attribute [local irreducible] wpList wpStill Code.wp Calls

theorem get_ret (L : List By) (bs : By) (n : Nat) (vb : Value) (base p : Nat) (w : World) (hbase : base ≤ w.heap.size) (hx : Bx w p 50 [vb]) (O : Own w base 5 1 vb n (bs.map u8v)) (hP : Pg n bs L vb) (k : Int) (hk : -9223372036854775808 ≤ k ∧ k ≤ 9223372036854775807) : Ret Try.prog 15 #[(ptr p 0), (Value.int .i64 k)] w (fun v' w' => w.grownBy w' (pgRow p n vb) ∧ ∃ x, v' = .tuple #[x, .int .i64 (dropE L k)] ∧ Own w' w.heap.size 5 1 x (getL L k).length ((getL L k).map u8v) ∧ ∃ u n' bs', Bx w' p 50 [u] ∧ Own w' base 5 1 u n' (bs'.map u8v) ∧ Pg n' bs' (L) u ∧ RowP p n' u (pgRow p n vb) w.heap.size ∧ DJ x u) := by
 have hb := grown_refl w (pgRow p n vb)
 refine enter (N := 31) Try.func15 rfl rfl (by simp) fun a0 hN hd hA => ?_
 have s0 : a0.tmps.getD 0 undef = (ptr p 0) := hA 0 (by simp)
 have s1 : a0.tmps.getD 1 undef = (Value.int .i64 k) := hA 1 (by simp)
 clear hA
 refine seq_any fun K1 hK1 => ?_
 refine one_reg ?_
 refine op_assign rfl ?_
 refine op_assign rfl ?_
 refine reg_nil ?_
 refine hK1 _ _ ?_
 refine seq_any fun K2 hK2 => ?_
 refine seq_any fun K3 hK3 => ?_
 refine one_reg ?_
 refine op_move (ev_base hN rfl s0) ?_
 refine op_peq_some ptrt24 (ev_hit hN rfl) rfl ?_
 refine reg_nil ?_
 refine hK3 _ _ ?_
 refine wp_cond_false (ev_hit hN rfl) ?_
 refine wp_skip ?_
 refine hK2 _ _ ?_
 refine seq_any fun K4 hK4 => ?_
 refine one_reg ?_
 refine op_move (ev_base hN rfl s0) ?_
 refine op_fn (vs := [(ptr p 0)]) ok36 ⟨(ev_hit hN rfl), trivial⟩ (ready_ret L bs n _ _ _ _ hbase hx O hP) ?_
 rintro _ w6 ⟨E7, rfl, u5, bs5, hx5, hO5, R5, ro5⟩
 have z_w6 := E7.size
 have hb := grown_trans hb E7
 refine reg_nil ?_
 refine hK4 _ _ ?_
 refine seq_any fun K8 hK8 => ?_
 refine one_reg ?_
 refine op_move (ev_base hN rfl s0) ?_
 refine op_move (ev_base hN rfl s1) ?_
 refine op_fn (vs := [(ptr p 0), (Value.int .i64 k)]) ok38 ⟨(ev_hit hN rfl), ⟨(ev_hit hN rfl), trivial⟩⟩ (size_ret bs5 _ _ _ _ (by first | assumption | exact Rep.len (by assumption)) hx5 hO5 L R5 k (by omega)) ?_
 rintro _ w10 ⟨E11, rfl⟩
 have E11 := grown_of_below E11
 have z_w10 := E11.size
 have hx5 := hx5.keep0 E11
 have hO5 := hO5.keep0 E11
 have hb := grow_step0 hb E11
 have hz_9 := sizeL_le R5 k
 refine op_assign (ev_hit hN rfl) ?_
 refine reg_nil ?_
 refine hK8 _ _ ?_
 refine seq_any fun K12 hK12 => ?_
 refine seq_any fun K13 hK13 => ?_
 refine one_reg ?_
 refine op_move (ev_hit hN rfl) ?_
 refine op_eql (ev_hit hN rfl) rfl (fun c15 => ?_) (fun c15 => ?_)
 · -- 15T
  refine reg_nil ?_
  refine hK13 _ _ ?_
  refine wp_cond_true (ev_hit hN rfl) ?_
  refine seq_any fun K14 hK14 => ?_
  refine one_reg ?_
  refine op_assign rfl ?_
  refine op_assign rfl ?_
  refine reg_nil ?_
  refine hK14 _ _ ?_
  refine wp_ret (then_ret ( ?_))
  refine ret2 rfl hd (ev_hit hN rfl) (ev_hit hN rfl) ⟨_, rfl, ?_⟩
  -- path 15T
  have hz0 : sizeL L k = 0 := by omega
  rw [(drop_none hz0).1, getL_nil hz0]
  exact ⟨hb, .slice none 0 0, rfl, Own.nil _ _ _ _, ⟨_, _, _, hx5, hO5, R5.pg, (RowP.laid (by decide) ro5), (fun k9 (hk9 : (none : Option Nat) = some k9) => (by cases hk9))⟩⟩
 · -- 15F
  refine reg_nil ?_
  refine hK13 _ _ ?_
  refine wp_cond_false (ev_hit hN rfl) ?_
  refine wp_skip ?_
  refine hK12 _ _ ?_
  refine seq_any fun K15 hK15 => ?_
  have hmm := R5.fits
  have hplt := hx5.lt
  have hkn := sizeL_nat (L := L) (s := k) (by omega)
  have hrc := (R5.recs k.toNat (by omega)).2.1
  have hgt := R5.get (s := k.toNat) (by omega)
  have hsi : sizeL L k = (L.getD k.toNat []).length := by rw [← getL_len, getL_in (by omega)]
  have hO5_s := hO5
  refine reg_split (hd := [_, _, _, _, _, _, _, _, _, _, _, _, _, _]) (tl := _) 14 mixed (by kernel_rfl) rfl rfl ?_
  refine any_quiet (Φ := phiL [(fun uz w' => ∃ (b17 : Nat), uz = (Value.slice (some ⟨b17, 0, none⟩) 0 0) ∧ w10.heap.size ≤ b17 ∧ Bx w' b17 5 []), (fun uz _ => uz = (ptr p 0)), (fun uz _ => uz = (ptr p 0)), (fun uz _ => uz = (ptr p 0)), (fun uz _ => uz = u5), (fun uz _ => uz = (ptr p 0)), (fun uz _ => uz = (Value.int .i64 ((k.toNat : Nat) : Int))), (fun uz _ => uz = (Value.int .i64 (((numB bs5 (8 + k.toNat * 4)) : Nat) : Int))), (fun uz _ => uz = (ptr p 0)), (fun uz _ => uz = (Value.int .i64 ((k.toNat : Nat) : Int))), (fun uz _ => uz = (Value.int .i64 (((numB bs5 (8 + k.toNat * 4)) : Nat) : Int))), (fun uz _ => uz = (Value.int .i64 (((sizeL L k) : Nat) : Int))), (fun uz _ => uz = (Value.int .i64 ((((numB bs5 (8 + k.toNat * 4)) : Nat) : Int) + (((sizeL L k) : Nat) : Int)))), (fun uz w' => ∃ (v24 : Value), uz = v24 ∧ RdC w' base w10.heap.size 1 v24 ((L.getD k.toNat []).length) (((L.getD k.toNat [])).map u8v))]) (by kernel_rfl) (by kernel_rfl) (by kernel_rfl) hN (StL.get (StL.cons (fun u w1 w2 E h => by obtain ⟨x0, hv, l0, f0⟩ := h; exact ⟨x0, hv, l0, f0.keep0 E⟩) (StL.eq (StL.eq (StL.eq (StL.eq (StL.eq (StL.eq (StL.eq (StL.eq (StL.eq (StL.eq (StL.eq (StL.eq (StL.cons (fun u w1 w2 E h => by obtain ⟨x0, hv, f0⟩ := h; exact ⟨x0, hv, f0.keep0 E⟩) (StL.nil _)))))))))))))))) (ObL.get (s := 14) (ObL.cons ?_ (ObL.cons ?_ (ObL.cons ?_ (ObL.cons ?_ (ObL.cons ?_ (ObL.cons ?_ (ObL.cons ?_ (ObL.cons ?_ (ObL.cons ?_ (ObL.cons ?_ (ObL.cons ?_ (ObL.cons ?_ (ObL.cons ?_ (ObL.cons ?_ (ObL.nil))))))))))))))) rfl) ?_
  ·
   intro aA wA hNA hRA hbsA hdpA
   have hRA : w10.grownBy wA none := hRA
   have z_wA := hRA.size
   have hx5 := hx5.keep0 hRA
   have hO5 := hO5.keep0 hRA
   have hb := grow_step0 hb hRA
   clear hbsA hdpA
   refine op_bslice (e := 5) (pv := []) (cs := []) trivial (by kernel_rfl) ?_
   intro w16 b17 lo_b17 hi_b17 hB19 E18
   have ne_b17_u5 : u5.ownBlock ≠ some b17 := fun hh => by have := (hO5.lt _ hh).2; omega
   have z_w16 := E18.size
   have hx5 := hx5.keep0 E18
   have hO5 := hO5.keep0 E18
   have hb := grow_step0 hb E18
   exact obN_end rfl ⟨b17, rfl, (by omega), hB19⟩ (E18)
  ·
   intro aA wA hNA hRA hbsA hdpA
   have qA_0 := (hbsA 0 rfl).trans (sl_base hN rfl s0)
   refine op_move (ev_base hNA rfl qA_0) ?_
   exact obN_end rfl rfl (grown_refl _ _)
  ·
   intro aA wA hNA hRA hbsA hdpA
   have qA_17 : Sl aA 17 (ptr p 0) := hdpA 1 _ 17 (by kernel_rfl) rfl rfl
   refine op_nil (ev_base hNA rfl qA_17) ?_
   exact obN_end rfl rfl (grown_refl _ _)
  ·
   intro aA wA hNA hRA hbsA hdpA
   have qA_18 : Sl aA 18 (ptr p 0) := hdpA 2 _ 18 (by kernel_rfl) rfl rfl
   refine op_field fld50_0 (ev_base hNA rfl qA_18) ?_
   exact obN_end rfl rfl (grown_refl _ _)
  ·
   intro aA wA hNA hRA hbsA hdpA
   have hRA : w10.grownBy wA none := hRA
   have z_wA := hRA.size
   have hx5 := hx5.keep0 hRA
   have hO5 := hO5.keep0 hRA
   have hb := grow_step0 hb hRA
   have qA_19 : Sl aA 19 (ptr p 0) := hdpA 3 _ 19 (by kernel_rfl) rfl rfl
   clear hbsA hdpA
   refine op_load1 (v := u5) one22 (ev_base hNA rfl qA_19) (hx5.cell rfl) ?_
   exact obN_end rfl rfl (grown_refl _ _)
  ·
   intro aA wA hNA hRA hbsA hdpA
   have qA_0 := (hbsA 0 rfl).trans (sl_base hN rfl s0)
   refine op_move (ev_base hNA rfl qA_0) ?_
   exact obN_end rfl rfl (grown_refl _ _)
  ·
   intro aA wA hNA hRA hbsA hdpA
   have qA_1 := (hbsA 1 rfl).trans (sl_base hN rfl s1)
   refine op_move ((ev_base hNA rfl qA_1).trans (congrArg (Value.int .i64) (show _ = ((k.toNat : Nat) : Int) by omega))) ?_
   exact obN_end rfl rfl (grown_refl _ _)
  ·
   intro aA wA hNA hRA hbsA hdpA
   have hRA : w10.grownBy wA none := hRA
   have z_wA := hRA.size
   have hx5 := hx5.keep0 hRA
   have hO5 := hO5.keep0 hRA
   have hb := grow_step0 hb hRA
   have qA_21 : Sl aA 21 (ptr p 0) := hdpA 5 _ 21 (by kernel_rfl) rfl rfl
   have qA_22 : Sl aA 22 (Value.int .i64 ((k.toNat : Nat) : Int)) := hdpA 6 _ 22 (by kernel_rfl) rfl rfl
   clear hbsA hdpA
   refine op_fn (vs := [(ptr p 0), (Value.int .i64 ((k.toNat : Nat) : Int))]) ok43 ⟨(ev_base hNA rfl qA_21), ⟨(ev_base hNA rfl qA_22), trivial⟩⟩ (at_ret bs5 _ _ _ _ (by first | assumption | exact Rep.len (by assumption)) hx5 hO5 k.toNat (by omega)) ?_
   rintro _ w20 ⟨E21, rfl⟩
   have E21 := grown_of_below E21
   have z_w20 := E21.size
   have hx5 := hx5.keep0 E21
   have hO5 := hO5.keep0 E21
   have hb := grow_step0 hb E21
   exact obN_end rfl rfl (E21)
  ·
   intro aA wA hNA hRA hbsA hdpA
   have qA_0 := (hbsA 0 rfl).trans (sl_base hN rfl s0)
   refine op_move (ev_base hNA rfl qA_0) ?_
   exact obN_end rfl rfl (grown_refl _ _)
  ·
   intro aA wA hNA hRA hbsA hdpA
   have qA_1 := (hbsA 1 rfl).trans (sl_base hN rfl s1)
   refine op_move ((ev_base hNA rfl qA_1).trans (congrArg (Value.int .i64) (show _ = ((k.toNat : Nat) : Int) by omega))) ?_
   exact obN_end rfl rfl (grown_refl _ _)
  ·
   intro aA wA hNA hRA hbsA hdpA
   have hRA : w10.grownBy wA none := hRA
   have z_wA := hRA.size
   have hx5 := hx5.keep0 hRA
   have hO5 := hO5.keep0 hRA
   have hb := grow_step0 hb hRA
   have qA_24 : Sl aA 24 (ptr p 0) := hdpA 8 _ 24 (by kernel_rfl) rfl rfl
   have qA_25 : Sl aA 25 (Value.int .i64 ((k.toNat : Nat) : Int)) := hdpA 9 _ 25 (by kernel_rfl) rfl rfl
   clear hbsA hdpA
   refine op_fn (vs := [(ptr p 0), (Value.int .i64 ((k.toNat : Nat) : Int))]) ok43 ⟨(ev_base hNA rfl qA_24), ⟨(ev_base hNA rfl qA_25), trivial⟩⟩ (at_ret bs5 _ _ _ _ (by first | assumption | exact Rep.len (by assumption)) hx5 hO5 k.toNat (by omega)) ?_
   rintro _ w22 ⟨E23, rfl⟩
   have E23 := grown_of_below E23
   have z_w22 := E23.size
   have hx5 := hx5.keep0 E23
   have hO5 := hO5.keep0 E23
   have hb := grow_step0 hb E23
   exact obN_end rfl rfl (E23)
  ·
   intro aA wA hNA hRA hbsA hdpA
   have qA_6 := (hbsA 6 rfl).trans (sl_hit hN rfl)
   refine op_move (ev_base hNA rfl qA_6) ?_
   exact obN_end rfl rfl (grown_refl _ _)
  ·
   intro aA wA hNA hRA hbsA hdpA
   have qA_26 : Sl aA 26 (Value.int .i64 (((numB bs5 (8 + k.toNat * 4)) : Nat) : Int)) := hdpA 10 _ 26 (by kernel_rfl) rfl rfl
   have qA_27 : Sl aA 27 (Value.int .i64 (((sizeL L k) : Nat) : Int)) := hdpA 11 _ 27 (by kernel_rfl) rfl rfl
   refine op_add (ev_base hNA rfl qA_26) (ev_base hNA rfl qA_27) (add64 (by omega)) ?_
   exact obN_end rfl rfl (grown_refl _ _)
  ·
   intro aA wA hNA hRA hbsA hdpA
   have hRA : w10.grownBy wA none := hRA
   have z_wA := hRA.size
   have hx5 := hx5.keep0 hRA
   have hO5 := hO5.keep0 hRA
   have hb := grow_step0 hb hRA
   have qA_20 : Sl aA 20 u5 := hdpA 4 _ 20 (by kernel_rfl) rfl rfl
   have qA_23 : Sl aA 23 (Value.int .i64 (((numB bs5 (8 + k.toNat * 4)) : Nat) : Int)) := hdpA 7 _ 23 (by kernel_rfl) rfl rfl
   have qA_28 : Sl aA 28 (Value.int .i64 ((((numB bs5 (8 + k.toNat * 4)) : Nat) : Int) + (((sizeL L k) : Nat) : Int))) := hdpA 12 _ 28 (by kernel_rfl) rfl rfl
   clear hbsA hdpA
   refine op_slice_rd (lo := ((numB bs5 (8 + k.toNat * 4)))) (hi := (((numB bs5 (8 + k.toNat * 4))) + ((sizeL L k)))) slt22 (ev_base hNA rfl qA_20) (Own.rdB hO5 hO5_s) (.inr ⟨_, _, rfl, (ev_base hNA rfl qA_23)⟩) (.inr ⟨_, _, rfl, (ev_base hNA rfl qA_28)⟩) (by omega) (by omega) ?_
   intro v24 hR25
   have hR25 : RdC wA base w10.heap.size 1 v24 ((L.getD k.toNat []).length) (((L.getD k.toNat [])).map u8v) := by have h9 := hR25; rw [hsi, Nat.add_sub_cancel_left, Nat.mul_one, Nat.mul_one, ← List.map_drop, ← List.map_take, hgt] at h9; exact h9
   exact obN_end rfl ⟨v24, rfl, hR25⟩ (grown_refl _ _)
  ·
   intro a26 w26 hN26 hd26 hbs26 hph26 E26
   have hd26 := hd26.trans hd
   have s26_4 := (hbs26 4 rfl).trans (sl_hit hN rfl)
   have s26_5 := (hbs26 5 rfl).trans (sl_hit hN rfl)
   obtain ⟨b17, s26_16, l26_0, hB19⟩ := hph26 0 _ 16 rfl rfl
   have hB19 : Bx w26 b17 5 [] := hB19
   have hi_b17 := hB19.lt
   have ne_b17_u5 : u5.ownBlock ≠ some b17 := fun hh => by have := (hO5.lt _ hh).2; omega
   obtain ⟨v24, s26_29, hR25⟩ := hph26 13 _ 29 rfl rfl
   have hR25 : RdC w26 base w10.heap.size 1 v24 ((L.getD k.toNat []).length) (((L.getD k.toNat [])).map u8v) := hR25
   clear hbs26 hph26
   have E26 : w10.grownBy w26 none := E26
   have z_w26 := E26.size
   have hx5 := hx5.keep0 E26
   have hO5 := hO5.keep0 E26
   have hb := grow_step0 hb E26
   refine split_end ?_
   refine from_seq (tl := [_, _, _]) (by decide) (by kernel_rfl) rfl ?_
   have hP32 := (Own.ofBx (base := w.heap.size) (sz := 1) (n := 0) hB19 rfl (by decide) (by omega))
   refine op_append slt22 (ev_base hN26 rfl s26_16) hP32 (ev_base hN26 rfl s26_29) (Src.ofRd Try.underlying22 (by decide) hR25 (by simp [Value.oneCell', u8v])) (by unfold maxLen; omega) (by omega) hb.size ?_
   intro v27 w28 hO30 E29 hm31
   have dj33 : DJ u5 (Value.slice (some ⟨b17, 0, none⟩) 0 0) := fun k hk hg => by simp [Value.ownBlock] at hg; subst hg; exact ne_b17_u5 hk
   have dj34 : DJ u5 v27 := DJ.step hm31 (fun k hk => (hO5.lt k hk).2) dj33
   have z_w28 := E29.size
   have hx5 := hx5.keep E29 (by simp [Value.ownBlock]; try omega)
   have hO5 := hO5.keepD E29 dj33
   have hb := grow_stepO hb hP32 E29 (by omega)
   have hO30 : Own w28 w.heap.size 5 1 v27 (0 + ((L.getD k.toNat []).length)) (((L.getD k.toNat [])).map u8v) := by simpa [u8v] using hO30
   refine op_assign (ev_hit hN26 rfl) ?_
   refine op_assign rfl ?_
   refine reg_nil ?_
   refine hK15 _ _ ?_
   refine wp_ret ?_
   refine ret2 rfl hd26 (ev_hit hN26 rfl) (ev_hit hN26 rfl) ⟨_, rfl, ?_⟩
   -- path 15F
   have hz1 : sizeL L k ≠ 0 := by omega
   rw [(drop_ok hz1).1, getL_in hz1]
   exact ⟨hb, _, rfl, hO30.cast (by omega) rfl, ⟨_, _, _, hx5, hO5, R5.pg, (RowP.laid (by decide) ro5), dj34.symm⟩⟩

end Go.Proofs.Ytdhpalioifjfbaa

/- Walks, written by a program: what each function of the translation hands back. -/
namespace Go.Proofs.Ytdhpalioifjfbaa
open Go.Gx Go.RowKit
attribute [local irreducible] wpList wpStill Code.wp Calls

theorem setx_ret (L : List By) (bs : By) (n : Nat) (vb : Value) (base p : Nat) (w : World) (hbase : base ≤ w.heap.size) (hx : Bx w p 50 [vb]) (O : Own w base 5 1 vb n (bs.map u8v)) (hP : Pg n bs L vb) (r : By) (bv : Value) (Lo Bo : Nat) (hbr : RdC w Lo Bo 1 bv r.length (r.map u8v)) (hpa : ∀ q, pgRow p n vb = some q → q < Lo ∨ Bo ≤ q) (hBw : Bo ≤ w.heap.size) (k : Int) (hk : -9223372036854775808 ≤ k ∧ k ≤ 9223372036854775807) : Ret Try.prog 20 #[(ptr p 0), (Value.int .i64 k), bv] w (fun v' w' => w.grownBy w' (pgRow p n vb) ∧ v' = .int .i64 (setE L k r) ∧ ∃ u n' bs', Bx w' p 50 [u] ∧ Own w' base 5 1 u n' (bs'.map u8v) ∧ Pg n' bs' (setN L k r) u ∧ RowP p n' u (pgRow p n vb) w.heap.size) := by
 have hb := grown_refl w (pgRow p n vb)
 refine enter (N := 44) Try.func20 rfl rfl (by simp) fun a0 hN hd hA => ?_
 have s0 : a0.tmps.getD 0 undef = (ptr p 0) := hA 0 (by simp)
 have s1 : a0.tmps.getD 1 undef = (Value.int .i64 k) := hA 1 (by simp)
 have s2 : a0.tmps.getD 2 undef = bv := hA 2 (by simp)
 clear hA
 refine seq_any fun K1 hK1 => ?_
 refine one_reg ?_
 refine op_assign rfl ?_
 refine reg_nil ?_
 refine hK1 _ _ ?_
 refine seq_any fun K2 hK2 => ?_
 refine seq_any fun K3 hK3 => ?_
 refine one_reg ?_
 refine op_move (ev_base hN rfl s0) ?_
 refine op_peq_some ptrt24 (ev_hit hN rfl) rfl ?_
 refine reg_nil ?_
 refine hK3 _ _ ?_
 refine wp_cond_false (ev_hit hN rfl) ?_
 refine wp_skip ?_
 refine hK2 _ _ ?_
 refine seq_any fun K4 hK4 => ?_
 refine one_reg ?_
 refine op_move (ev_base hN rfl s0) ?_
 refine op_fn (vs := [(ptr p 0)]) ok36 ⟨(ev_hit hN rfl), trivial⟩ (ready_ret L bs n _ _ _ _ hbase hx O hP) ?_
 rintro _ w6 ⟨E7, rfl, u5, bs5, hx5, hO5, R5, ro5⟩
 have z_w6 := E7.size
 have hbr := hbr.keep E7 hpa
 have hb := grown_trans hb E7
 refine reg_nil ?_
 refine hK4 _ _ ?_
 refine seq_any fun K8 hK8 => ?_
 refine one_reg ?_
 refine op_move (ev_base hN rfl s0) ?_
 refine op_move (ev_base hN rfl s1) ?_
 refine op_fn (vs := [(ptr p 0), (Value.int .i64 k)]) ok38 ⟨(ev_hit hN rfl), ⟨(ev_hit hN rfl), trivial⟩⟩ (size_ret bs5 _ _ _ _ (by first | assumption | exact Rep.len (by assumption)) hx5 hO5 L R5 k (by omega)) ?_
 rintro _ w10 ⟨E11, rfl⟩
 have E11 := grown_of_below E11
 have z_w10 := E11.size
 have hbr := hbr.keep0 E11
 have hx5 := hx5.keep0 E11
 have hO5 := hO5.keep0 E11
 have hb := grow_step0 hb E11
 have hz_9 := sizeL_le R5 k
 refine op_assign (ev_hit hN rfl) ?_
 refine reg_nil ?_
 refine hK8 _ _ ?_
 refine seq_any fun K12 hK12 => ?_
 refine wp_block ?_
 refine seq_any fun K13 hK13 => ?_
 refine one_reg ?_
 refine op_move (ev_hit hN rfl) ?_
 refine op_eql (ev_hit hN rfl) rfl (fun c17 => ?_) (fun c17 => ?_)
 · -- 17T
  refine op_assign (ev_hit hN rfl) ?_
  refine reg_nil ?_
  refine hK13 _ _ ?_
  refine wp_cond_true (ev_hit hN rfl) ?_
  refine seq_any fun K14 hK14 => ?_
  refine one_reg ?_
  refine op_assign rfl ?_
  refine reg_nil ?_
  refine hK14 _ _ ?_
  refine wp_ret (blk_ret (then_ret ( ?_)))
  refine ret1 rfl hd (ev_hit hN rfl) ⟨_, rfl, ?_⟩
  -- path 17T
  obtain ⟨e1, e2⟩ := set_none (L := L) (k := k) (r := r) (by omega)
  rw [e1, e2]
  exact ⟨hb, rfl, ⟨_, _, _, hx5, hO5, R5.pg, (RowP.laid (by decide) ro5)⟩⟩
 · -- 17F
  refine op_assign (ev_hit hN rfl) ?_
  refine reg_nil ?_
  refine hK13 _ _ ?_
  refine wp_cond_false (ev_hit hN rfl) ?_
  refine seq_any fun K15 hK15 => ?_
  refine one_reg ?_
  refine op_move (ev_base hN rfl s2) ?_
  refine op_len_rd Try.underlying22 (ev_hit hN rfl) hbr ?_
  refine op_eql (ev_hit hN rfl) rfl (fun c21 => ?_) (fun c21 => ?_)
  · -- 21T
   refine op_move (ev_hit hN rfl) ?_
   refine g_false (j := 3) (dj := 22) (b := false) rfl rfl rfl (ev_hit hN rfl) rfl rfl ?_
   refine g_false (j := 3) (dj := 22) (b := false) rfl rfl rfl (ev_hit hN rfl) rfl rfl ?_
   refine g_false (j := 3) (dj := 22) (b := false) rfl rfl rfl (ev_hit hN rfl) rfl rfl ?_
   refine op_pick_t (ev_hit hN rfl) rfl ?_
   refine op_assign (ev_hit hN rfl) ?_
   refine reg_nil ?_
   refine hK15 _ _ ?_
   refine wp_cond_true (ev_hit hN rfl) ?_
   refine seq_any fun K16 hK16 => ?_
   refine one_reg ?_
   refine op_assign rfl ?_
   refine reg_nil ?_
   refine hK16 _ _ ?_
   refine wp_ret (blk_ret (then_ret ( ?_)))
   refine ret1 rfl hd (ev_hit hN rfl) ⟨_, rfl, ?_⟩
   -- path 17F 21T
   obtain ⟨e1, e2⟩ := set_bad (L := L) (k := k) (by omega) (badB_t (r := r) (by omega))
   rw [e1, e2]
   exact ⟨hb, rfl, ⟨_, _, _, hx5, hO5, R5.pg, (RowP.laid (by decide) ro5)⟩⟩
  · -- 21F
   refine op_move (ev_hit hN rfl) ?_
   refine g_true (j := 3) (dj := 22) (b := false) rfl rfl rfl (ev_hit hN rfl) ?_
   refine op_move (ev_base hN rfl s2) ?_
   refine g_true (j := 3) (dj := 22) (b := false) rfl rfl rfl (ev_hit hN rfl) ?_
   refine op_len_rd Try.underlying22 (ev_hit hN rfl) hbr ?_
   refine g_true (j := 3) (dj := 22) (b := false) rfl rfl rfl (ev_hit hN rfl) ?_
   refine op_gtr (ev_hit hN rfl) rfl (fun c25 => ?_) (fun c25 => ?_)
   · -- 25T
    refine op_pick_f (ev_hit hN rfl) (ev_hit hN rfl) ?_
    refine op_assign (ev_hit hN rfl) ?_
    refine reg_nil ?_
    refine hK15 _ _ ?_
    refine wp_cond_true (ev_hit hN rfl) ?_
    refine seq_any fun K17 hK17 => ?_
    refine one_reg ?_
    refine op_assign rfl ?_
    refine reg_nil ?_
    refine hK17 _ _ ?_
    refine wp_ret (blk_ret (then_ret ( ?_)))
    refine ret1 rfl hd (ev_hit hN rfl) ⟨_, rfl, ?_⟩
    -- path 17F 21F 25T
    obtain ⟨e1, e2⟩ := set_bad (L := L) (k := k) (by omega) (badB_t (r := r) (by omega))
    rw [e1, e2]
    exact ⟨hb, rfl, ⟨_, _, _, hx5, hO5, R5.pg, (RowP.laid (by decide) ro5)⟩⟩
   · -- 25F
    refine op_pick_f (ev_hit hN rfl) (ev_hit hN rfl) ?_
    refine op_assign (ev_hit hN rfl) ?_
    refine reg_nil ?_
    refine hK15 _ _ ?_
    refine wp_cond_false (ev_hit hN rfl) ?_
    refine seq_any fun K18 hK18 => ?_
    refine one_reg ?_
    refine op_move (ev_base hN rfl s0) ?_
    refine op_move (ev_base hN rfl s0) ?_
    refine op_fn (vs := [(ptr p 0)]) ok37 ⟨(ev_hit hN rfl), trivial⟩ (many_ret bs5 _ _ _ _ (by first | assumption | exact Rep.len (by assumption)) hx5 hO5 L R5) ?_
    rintro _ w20 ⟨E21, rfl⟩
    have E21 := grown_of_below E21
    have z_w20 := E21.size
    have hbr := hbr.keep0 E21
    have hx5 := hx5.keep0 E21
    have hO5 := hO5.keep0 E21
    have hb := grow_step0 hb E21
    have hm_19 := Rep.fits R5
    refine op_fn (vs := [(ptr p 0), (Value.int .i64 ((L.length : Nat) : Int))]) ok39 ⟨(ev_hit hN rfl), ⟨(ev_hit hN rfl), trivial⟩⟩ (left_ret bs5 _ _ _ _ (by first | assumption | exact Rep.len (by assumption)) hx5 hO5 L R5 (L.length) (by omega)) ?_
    rintro _ w23 ⟨E24, rfl⟩
    have E24 := grown_of_below E24
    have z_w23 := E24.size
    have hbr := hbr.keep0 E24
    have hx5 := hx5.keep0 E24
    have hO5 := hO5.keep0 E24
    have hb := grow_step0 hb E24
    have hlf_22 := leftL_rng R5 (L.length) (by omega)
    refine op_move (ev_hit hN rfl) ?_
    refine op_add (ev_hit hN rfl) (ev_hit hN rfl) (add64 (by omega)) ?_
    refine op_move (ev_base hN rfl s2) ?_
    refine op_len_rd Try.underlying22 (ev_hit hN rfl) hbr ?_
    refine op_lss (ev_hit hN rfl) (ev_hit hN rfl) (fun c36 => ?_) (fun c36 => ?_)
    · -- 36T
     refine op_assign (ev_hit hN rfl) ?_
     refine reg_nil ?_
     refine hK18 _ _ ?_
     refine wp_cond_true (ev_hit hN rfl) ?_
     refine seq_any fun K25 hK25 => ?_
     refine one_reg ?_
     refine op_assign rfl ?_
     refine reg_nil ?_
     refine hK25 _ _ ?_
     refine wp_ret (blk_ret (then_ret ( ?_)))
     refine ret1 rfl hd (ev_hit hN rfl) ⟨_, rfl, ?_⟩
     -- path 17F 21F 25F 36T
     obtain ⟨e1, e2⟩ := set_full (L := L) (k := k) (by omega) (badB_f (r := r) (by omega)) (by omega)
     rw [e1, e2]
     exact ⟨hb, rfl, ⟨_, _, _, hx5, hO5, R5.pg, (RowP.laid (by decide) ro5)⟩⟩
    · -- 36F
     refine op_assign (ev_hit hN rfl) ?_
     refine reg_nil ?_
     refine hK18 _ _ ?_
     refine wp_cond_false (ev_hit hN rfl) ?_
     refine wp_skip ?_
     refine hK12 _ _ ?_
     refine seq_any fun K26 hK26 => ?_
     refine one_reg ?_
     have hkn := sizeL_nat (L := L) (s := k) (by omega)
     have hmm := R5.fits
     have hss := sumL_set (L := L) (i := k.toNat) (r := []) (by omega)
     have hsi : sizeL L k = (L.getD k.toNat []).length := by rw [← getL_len, getL_in (by omega)]
     refine op_move (ev_base hN rfl s0) ?_
     refine op_move ((ev_base hN rfl s1).trans (congrArg (Value.int .i64) (show _ = ((k.toNat : Nat) : Int) by omega))) ?_
     refine op_fn (vs := [(ptr p 0), (Value.int .i64 ((k.toNat : Nat) : Int)), (Value.int .i64 0), (Value.int .i64 0)]) ok41 ⟨(ev_hit hN rfl), ⟨(ev_hit hN rfl), ⟨rfl, ⟨rfl, trivial⟩⟩⟩⟩ (pts_ret bs5 _ _ _ _ (by first | assumption | exact Rep.len (by assumption)) hx5 hO5 k.toNat 0 0 (by omega) (by omega) (by omega)) ?_
     rintro _ w29 ⟨E30, rfl, hO27⟩
     have z_w29 := E30.size
     have hbr := hbr.keep E30 (ro5.apart hpa hBw)
     have hx5 := hx5.keepO hO5 E30 (by decide)
     have hb := grow_stepP hb E30 ro5
     have hl_hO27 : (ptsB bs5 k.toNat 0 0).length = 256 := (pts_len _ _ _ _).trans (by first | assumption | exact Rep.len (by assumption))
     have R28 := R5.empty (k := k.toNat) (by omega)
     refine reg_nil ?_
     refine hK26 _ _ ?_
     refine seq_any fun K31 hK31 => ?_
     refine one_reg ?_
     refine op_move (ev_base hN rfl s0) ?_
     refine op_move ((ev_base hN rfl s1).trans (congrArg (Value.int .i64) (show _ = ((k.toNat : Nat) : Int) by omega))) ?_
     refine op_move (ev_base hN rfl s2) ?_
     refine op_fn (vs := [(ptr p 0), (Value.int .i64 ((k.toNat : Nat) : Int)), bv]) ok40 ⟨(ev_hit hN rfl), ⟨(ev_hit hN rfl), ⟨(ev_hit hN rfl), trivial⟩⟩⟩ (lays_ret (ptsB bs5 k.toNat 0 0) _ _ _ _ (by first | assumption | exact Rep.len (by assumption)) hx5 hO27 r _ _ _ hbr (ro5.apart hpa hBw) (L.set k.toNat []) R28 k.toNat (by simp; omega) (set_get (by omega)) (by simp only [List.length_set]; simp only [List.length_nil] at hss; unfold leftL at *; omega)) ?_
     rintro _ w34 ⟨E35, rfl, bs32, hO33, R32⟩
     have z_w34 := E35.size
     have hbr := hbr.keep E35 (ro5.apart hpa hBw)
     have hx5 := hx5.keepO hO27 E35 (by decide)
     have hb := grow_stepP hb E35 ro5
     have hl_hO33 : bs32.length = 256 := R32.len
     refine reg_nil ?_
     refine hK31 _ _ ?_
     refine seq_any fun K36 hK36 => ?_
     refine one_reg ?_
     refine op_assign rfl ?_
     refine reg_nil ?_
     refine hK36 _ _ ?_
     refine wp_ret ?_
     refine ret1 rfl hd (ev_hit hN rfl) ⟨_, rfl, ?_⟩
     -- path 17F 21F 25F 36F
     obtain ⟨e1, e2⟩ := set_ok (L := L) (k := k) (by omega) (badB_f (r := r) (by omega)) (by omega)
     rw [e1, e2, ← layL_set (by omega)]
     exact ⟨hb, rfl, ⟨_, _, _, hx5, hO33, R32.pg, (RowP.laid (by decide) ro5)⟩⟩

end Go.Proofs.Ytdhpalioifjfbaa

/- Walks, written by a program: what each function of the translation hands back. -/
namespace Go.Proofs.Ytdhpalioifjfbaa
open Go.Gx Go.RowKit
attribute [local irreducible] wpList wpStill Code.wp Calls

theorem drop_ret (L : List By) (bs : By) (n : Nat) (vb : Value) (base p : Nat) (w : World) (hbase : base ≤ w.heap.size) (hx : Bx w p 50 [vb]) (O : Own w base 5 1 vb n (bs.map u8v)) (hP : Pg n bs L vb) (k : Int) (hk : -9223372036854775808 ≤ k ∧ k ≤ 9223372036854775807) : Ret Try.prog 13 #[(ptr p 0), (Value.int .i64 k)] w (fun v' w' => w.grownBy w' (pgRow p n vb) ∧ v' = .int .i64 (dropE L k) ∧ ∃ u n' bs', Bx w' p 50 [u] ∧ Own w' base 5 1 u n' (bs'.map u8v) ∧ Pg n' bs' (dropN L k) u ∧ RowP p n' u (pgRow p n vb) w.heap.size) := by
 have hb := grown_refl w (pgRow p n vb)
 refine enter (N := 33) Try.func13 rfl rfl (by simp) fun a0 hN hd hA => ?_
 have s0 : a0.tmps.getD 0 undef = (ptr p 0) := hA 0 (by simp)
 have s1 : a0.tmps.getD 1 undef = (Value.int .i64 k) := hA 1 (by simp)
 clear hA
 refine seq_any fun K1 hK1 => ?_
 refine one_reg ?_
 refine op_assign rfl ?_
 refine reg_nil ?_
 refine hK1 _ _ ?_
 refine seq_any fun K2 hK2 => ?_
 refine seq_any fun K3 hK3 => ?_
 refine one_reg ?_
 refine op_move (ev_base hN rfl s0) ?_
 refine op_peq_some ptrt24 (ev_hit hN rfl) rfl ?_
 refine reg_nil ?_
 refine hK3 _ _ ?_
 refine wp_cond_false (ev_hit hN rfl) ?_
 refine wp_skip ?_
 refine hK2 _ _ ?_
 refine seq_any fun K4 hK4 => ?_
 refine one_reg ?_
 refine op_move (ev_base hN rfl s0) ?_
 refine op_fn (vs := [(ptr p 0)]) ok36 ⟨(ev_hit hN rfl), trivial⟩ (ready_ret L bs n _ _ _ _ hbase hx O hP) ?_
 rintro _ w6 ⟨E7, rfl, u5, bs5, hx5, hO5, R5, ro5⟩
 have z_w6 := E7.size
 have hb := grown_trans hb E7
 refine reg_nil ?_
 refine hK4 _ _ ?_
 refine seq_any fun K8 hK8 => ?_
 refine seq_any fun K9 hK9 => ?_
 refine one_reg ?_
 refine op_move (ev_base hN rfl s0) ?_
 refine op_move (ev_base hN rfl s1) ?_
 refine op_fn (vs := [(ptr p 0), (Value.int .i64 k)]) ok38 ⟨(ev_hit hN rfl), ⟨(ev_hit hN rfl), trivial⟩⟩ (size_ret bs5 _ _ _ _ (by first | assumption | exact Rep.len (by assumption)) hx5 hO5 L R5 k (by omega)) ?_
 rintro _ w11 ⟨E12, rfl⟩
 have E12 := grown_of_below E12
 have z_w11 := E12.size
 have hx5 := hx5.keep0 E12
 have hO5 := hO5.keep0 E12
 have hb := grow_step0 hb E12
 have hz_10 := sizeL_le R5 k
 refine op_eql (ev_hit hN rfl) rfl (fun c13 => ?_) (fun c13 => ?_)
 · -- 13T
  refine reg_nil ?_
  refine hK9 _ _ ?_
  refine wp_cond_true (ev_hit hN rfl) ?_
  refine seq_any fun K13 hK13 => ?_
  refine one_reg ?_
  refine op_assign rfl ?_
  refine reg_nil ?_
  refine hK13 _ _ ?_
  refine wp_ret (then_ret ( ?_))
  refine ret1 rfl hd (ev_hit hN rfl) ⟨_, rfl, ?_⟩
  -- path 13T
  obtain ⟨e1, e2⟩ := drop_none (L := L) (k := k) (by omega)
  rw [e1, e2]
  exact ⟨hb, rfl, ⟨_, _, _, hx5, hO5, R5.pg, (RowP.laid (by decide) ro5)⟩⟩
 · -- 13F
  refine reg_nil ?_
  refine hK9 _ _ ?_
  refine wp_cond_false (ev_hit hN rfl) ?_
  refine wp_skip ?_
  refine hK8 _ _ ?_
  refine seq_any fun K14 hK14 => ?_
  refine one_reg ?_
  have hkn := sizeL_nat (L := L) (s := k) (by omega)
  have hmm := R5.fits
  refine op_move (ev_base hN rfl s0) ?_
  refine op_move ((ev_base hN rfl s1).trans (congrArg (Value.int .i64) (show _ = ((k.toNat : Nat) : Int) by omega))) ?_
  refine op_fn (vs := [(ptr p 0), (Value.int .i64 ((k.toNat : Nat) : Int)), (Value.int .i64 0), (Value.int .i64 0)]) ok41 ⟨(ev_hit hN rfl), ⟨(ev_hit hN rfl), ⟨rfl, ⟨rfl, trivial⟩⟩⟩⟩ (pts_ret bs5 _ _ _ _ (by first | assumption | exact Rep.len (by assumption)) hx5 hO5 k.toNat 0 0 (by omega) (by omega) (by omega)) ?_
  rintro _ w17 ⟨E18, rfl, hO15⟩
  have z_w17 := E18.size
  have hx5 := hx5.keepO hO5 E18 (by decide)
  have hb := grow_stepP hb E18 ro5
  have hl_hO15 : (ptsB bs5 k.toNat 0 0).length = 256 := (pts_len _ _ _ _).trans (by first | assumption | exact Rep.len (by assumption))
  have R16 := R5.empty (k := k.toNat) (by omega)
  refine reg_nil ?_
  refine hK14 _ _ ?_
  refine seq_join2 (N := 33) (fun az_ w' => ∃ (m : Nat), (az_.tmps.getD 0 undef = (ptr p 0)) ∧ (az_.tmps.getD 4 undef = (Value.int .i64 0)) ∧ (az_.tmps.getD 5 undef = (Value.int .i64 ((m : Nat) : Int))) ∧ (m ≤ (L.set k.toNat []).length) ∧ (cutL (L.set k.toNat []) = (L.set k.toNat []).take m) ∧ (w.grownBy w' (pgRow p n vb)) ∧ (w17.heap.size ≤ w'.heap.size) ∧ (Bx w' p 50 [u5]) ∧ (Own w' base 5 1 u5 256 ((ptsB bs5 k.toNat 0 0).map u8v))) (fun hJ19 => ?_) ?_
  ·
   refine seq_any fun K20 hK20 => ?_
   refine one_reg ?_
   refine op_move (ev_base hN rfl s0) ?_
   refine op_fn (vs := [(ptr p 0)]) ok37 ⟨(ev_hit hN rfl), trivial⟩ (many_ret (ptsB bs5 k.toNat 0 0) _ _ _ _ (by first | assumption | exact Rep.len (by assumption)) hx5 hO15 (L.set k.toNat []) R16) ?_
   rintro _ w22 ⟨E23, rfl⟩
   have E23 := grown_of_below E23
   have z_w22 := E23.size
   have hx5 := hx5.keep0 E23
   have hO15 := hO15.keep0 E23
   have hb := grow_step0 hb E23
   have hm_21 := Rep.fits R16
   refine op_assign (ev_hit hN rfl) ?_
   refine reg_nil ?_
   refine hK20 _ _ ?_
   refine seq_any fun K24 hK24 => ?_
   refine wp_block ?_
   refine loop_m (fun mz_ az_ w' => ∃ (m : Nat), mz_ = (m + 1) ∧ (az_.tmps.getD 0 undef = (ptr p 0)) ∧ (az_.tmps.getD 4 undef = (Value.int .i64 0)) ∧ (az_.tmps.getD 5 undef = (Value.int .i64 ((m : Nat) : Int))) ∧ (m ≤ (L.set k.toNat []).length) ∧ (cutL (L.set k.toNat []) = cutL ((L.set k.toNat []).take m)) ∧ (w.grownBy w' (pgRow p n vb)) ∧ (w22.heap.size ≤ w'.heap.size) ∧ (Bx w' p 50 [u5]) ∧ (Own w' base 5 1 u5 256 ((ptsB bs5 k.toNat 0 0).map u8v))) _ hN hd ⟨L.length, rfl, (sl_base hN rfl s0), (sl_hit hN rfl), (sl_hit hN rfl).trans (congrArg (Value.int .i64) (by simp)), (by simp), (by rw [List.take_of_length_le (by simp)]), hb, (Nat.le_refl _), hx5, hO15⟩ ?_
   rintro _ a25 w25 hN25 hd25 ⟨m, rfl, s25_0, s25_4, s25_5, hm1, hcu, hb, zl_w25, hx5, hO15⟩
   have z_w25 := hb.size
   refine seq_any fun K26 hK26 => ?_
   refine seq_any fun K27 hK27 => ?_
   refine one_reg ?_
   refine op_move (ev_base hN25 rfl s25_5) ?_
   refine op_gtr (ev_hit hN25 rfl) rfl (fun c20 => ?_) (fun c20 => ?_)
   · -- 20T
    refine op_move (ev_hit hN25 rfl) ?_
    refine g_true (j := 2) (dj := 21) (b := true) rfl rfl rfl (ev_hit hN25 rfl) ?_
    refine op_move (ev_base hN25 rfl s25_0) ?_
    refine g_true (j := 2) (dj := 21) (b := true) rfl rfl rfl (ev_hit hN25 rfl) ?_
    refine op_move (ev_base hN25 rfl s25_5) ?_
    refine g_true (j := 2) (dj := 21) (b := true) rfl rfl rfl (ev_hit hN25 rfl) ?_
    refine op_sub (r := ((m - 1 : Nat) : Int)) (ev_hit hN25 rfl) rfl (by rw [IntKind.wrap_i64]; omega) ?_
    refine g_true (j := 2) (dj := 21) (b := true) rfl rfl rfl (ev_hit hN25 rfl) ?_
    refine op_fn (vs := [(ptr p 0), (Value.int .i64 ((m - 1 : Nat) : Int))]) ok38 ⟨(ev_hit hN25 rfl), ⟨(ev_hit hN25 rfl), trivial⟩⟩ (size_ret (ptsB bs5 k.toNat 0 0) _ _ _ _ (by first | assumption | exact Rep.len (by assumption)) hx5 hO15 (L.set k.toNat []) R16 ((m - 1 : Nat) : Int) (by omega)) ?_
    rintro _ w29 ⟨E30, rfl⟩
    have E30 := grown_of_below E30
    have z_w29 := E30.size
    have hx5 := hx5.keep0 E30
    have hO15 := hO15.keep0 E30
    have hb := grow_step0 hb E30
    have hz_28 := sizeL_le R16 ((m - 1 : Nat) : Int)
    refine g_true (j := 2) (dj := 21) (b := true) rfl rfl rfl (ev_hit hN25 rfl) ?_
    refine op_eql (ev_hit hN25 rfl) rfl (fun c26 => ?_) (fun c26 => ?_)
    · -- 26T
     refine op_pick_t (ev_hit hN25 rfl) (ev_hit hN25 rfl) ?_
     refine reg_nil ?_
     refine hK27 _ _ ?_
     refine wp_cond_true (ev_hit hN25 rfl) ?_
     refine wp_skip ?_
     refine hK26 _ _ ?_
     refine wp_block ?_
     refine one_reg ?_
     refine op_move (ev_base hN25 rfl s25_5) ?_
     refine op_sub (r := ((m - 1 : Nat) : Int)) (ev_hit hN25 rfl) rfl (by rw [IntKind.wrap_i64]; omega) ?_
     refine op_assign (ev_hit hN25 rfl) ?_
     refine reg_nil ?_
     refine blk_normal ?_
     -- round 13F 20T 26T
     have hsm := sizeL_in (L := (L.set k.toNat [])) (s := m - 1) (by omega)
     exact loop_next _ hN25 hd25 ⟨(m - 1), rfl, (sl_base hN25 rfl s25_0), (sl_base hN25 rfl s25_4), (sl_hit hN25 rfl).trans (congrArg (Value.int .i64) (by omega)), (by omega), (hcu.trans (cutL_go (by omega) hm1 (List.eq_nil_of_length_eq_zero (by omega)))), hb, (by omega), hx5, hO15⟩ (by omega)
    · -- 26F
     refine op_pick_t (ev_hit hN25 rfl) (ev_hit hN25 rfl) ?_
     refine reg_nil ?_
     refine hK27 _ _ ?_
     refine wp_cond_false (ev_hit hN25 rfl) ?_
     refine wp_exit (then_exit (then_exit (blk_hit ?_)))
     refine hK24 _ _ ?_
     exact hJ19 _ _ _ hN25 hd25 ⟨m, (sl_base hN25 rfl s25_0), (sl_base hN25 rfl s25_4), (sl_base hN25 rfl s25_5), hm1, (hcu.trans (cutL_stop hm1 (.inr (fun h9 => by have h8 := sizeL_in (L := (L.set k.toNat [])) (s := m - 1) (by omega); rw [h9] at h8; simp at h8; omega)))), hb, (by omega), hx5, hO15⟩
   · -- 20F
    refine op_move (ev_hit hN25 rfl) ?_
    refine g_false (j := 2) (dj := 21) (b := true) rfl rfl rfl (ev_hit hN25 rfl) rfl rfl ?_
    refine g_false (j := 2) (dj := 21) (b := true) rfl rfl rfl (ev_hit hN25 rfl) rfl rfl ?_
    refine g_false (j := 2) (dj := 21) (b := true) rfl rfl rfl (ev_hit hN25 rfl) rfl rfl ?_
    refine g_false (j := 2) (dj := 21) (b := true) rfl rfl rfl (ev_hit hN25 rfl) rfl rfl ?_
    refine g_false (j := 2) (dj := 21) (b := true) rfl rfl rfl (ev_hit hN25 rfl) rfl rfl ?_
    refine op_pick_f (ev_hit hN25 rfl) rfl ?_
    refine reg_nil ?_
    refine hK27 _ _ ?_
    refine wp_cond_false (ev_hit hN25 rfl) ?_
    refine wp_exit (then_exit (then_exit (blk_hit ?_)))
    refine hK24 _ _ ?_
    exact hJ19 _ _ _ hN25 hd25 ⟨m, (sl_base hN25 rfl s25_0), (sl_base hN25 rfl s25_4), (sl_base hN25 rfl s25_5), hm1, (hcu.trans (cutL_stop hm1 (.inl (by omega)))), hb, (by omega), hx5, hO15⟩
  ·
   rintro a19 w19 hN19 hd19 ⟨m, s19_0, s19_4, s19_5, hm1, hcu, hb, zl_w19, hx5, hO15⟩
   have z_w19 := hb.size
   refine seq_any fun K31 hK31 => ?_
   refine one_reg ?_
   have hm2 : m ≤ L.length := by simpa using hm1
   refine op_move (ev_base hN19 rfl s19_0) ?_
   refine op_move (ev_base hN19 rfl s19_5) ?_
   refine op_fn (vs := [(ptr p 0), (Value.int .i64 0), (Value.int .i64 ((m : Nat) : Int))]) ok42 ⟨(ev_hit hN19 rfl), ⟨rfl, ⟨(ev_hit hN19 rfl), trivial⟩⟩⟩ (set_ret (ptsB bs5 k.toNat 0 0) _ _ _ _ (by first | assumption | exact Rep.len (by assumption)) hx5 hO15 0 m (by omega) (by omega)) ?_
   rintro _ w34 ⟨E35, rfl, hO32⟩
   have z_w34 := E35.size
   have hx5 := hx5.keepO hO15 E35 (by decide)
   have hb := grow_stepP hb E35 ro5
   have hl_hO32 : (setB (ptsB bs5 k.toNat 0 0) 0 m).length = 256 := (setB_len _ _ _).trans (by first | assumption | exact Rep.len (by assumption))
   have R33 := R16.cut (m := m) (by omega)
   refine reg_nil ?_
   refine hK31 _ _ ?_
   refine seq_any fun K36 hK36 => ?_
   refine one_reg ?_
   refine op_assign rfl ?_
   refine reg_nil ?_
   refine hK36 _ _ ?_
   refine wp_ret ?_
   refine ret1 rfl hd19 (ev_hit hN19 rfl) ⟨_, rfl, ?_⟩
   -- path 13F
   obtain ⟨e1, e2⟩ := drop_ok (L := L) (k := k) (by omega)
   rw [e1, e2, hcu]
   exact ⟨hb, rfl, ⟨_, _, _, hx5, hO32, R33.pg, (RowP.laid (by decide) ro5)⟩⟩

end Go.Proofs.Ytdhpalioifjfbaa

/- Walks, written by a program: what each function of the translation hands back. -/
namespace Go.Proofs.Ytdhpalioifjfbaa
open Go.Gx Go.RowKit
attribute [local irreducible] wpList wpStill Code.wp Calls

theorem slots_ret (L : List By) (bs : By) (n : Nat) (vb : Value) (base p : Nat) (w : World) (hbase : base ≤ w.heap.size) (hx : Bx w p 50 [vb]) (O : Own w base 5 1 vb n (bs.map u8v)) (hP : Pg n bs L vb)  : Ret Try.prog 12 #[(ptr p 0)] w (fun v' w' => w.grownBy w' (pgRow p n vb) ∧ ∃ x, v' = x ∧ Own w' w.heap.size 3 1 x (slotsI L L.length).length ((slotsI L L.length).map (Value.int .i64)) ∧ ∃ u n' bs', Bx w' p 50 [u] ∧ Own w' base 5 1 u n' (bs'.map u8v) ∧ Pg n' bs' (L) u ∧ RowP p n' u (pgRow p n vb) w.heap.size) := by
 have hb := grown_refl w (pgRow p n vb)
 refine enter (N := 24) Try.func12 rfl rfl (by simp) fun a0 hN hd hA => ?_
 have s0 : a0.tmps.getD 0 undef = (ptr p 0) := hA 0 (by simp)
 clear hA
 refine seq_any fun K1 hK1 => ?_
 refine one_reg ?_
 refine op_assign rfl ?_
 refine reg_nil ?_
 refine hK1 _ _ ?_
 refine seq_any fun K2 hK2 => ?_
 refine seq_any fun K3 hK3 => ?_
 refine one_reg ?_
 refine op_move (ev_base hN rfl s0) ?_
 refine op_peq_some ptrt24 (ev_hit hN rfl) rfl ?_
 refine reg_nil ?_
 refine hK3 _ _ ?_
 refine wp_cond_false (ev_hit hN rfl) ?_
 refine wp_skip ?_
 refine hK2 _ _ ?_
 refine seq_any fun K4 hK4 => ?_
 refine one_reg ?_
 refine op_move (ev_base hN rfl s0) ?_
 refine op_fn (vs := [(ptr p 0)]) ok36 ⟨(ev_hit hN rfl), trivial⟩ (ready_ret L bs n _ _ _ _ hbase hx O hP) ?_
 rintro _ w6 ⟨E7, rfl, u5, bs5, hx5, hO5, R5, ro5⟩
 have z_w6 := E7.size
 have hb := grown_trans hb E7
 refine reg_nil ?_
 refine hK4 _ _ ?_
 refine seq_any fun K8 hK8 => ?_
 refine one_reg ?_
 refine op_assign rfl ?_
 refine reg_nil ?_
 refine hK8 _ _ ?_
 refine seq_any fun K9 hK9 => ?_
 refine seq_any fun K10 hK10 => ?_
 refine one_reg ?_
 refine op_move (ev_base hN rfl s0) ?_
 refine op_fn (vs := [(ptr p 0)]) ok37 ⟨(ev_hit hN rfl), trivial⟩ (many_ret bs5 _ _ _ _ (by first | assumption | exact Rep.len (by assumption)) hx5 hO5 L R5) ?_
 rintro _ w12 ⟨E13, rfl⟩
 have E13 := grown_of_below E13
 have z_w12 := E13.size
 have hx5 := hx5.keep0 E13
 have hO5 := hO5.keep0 E13
 have hb := grow_step0 hb E13
 have hm_11 := Rep.fits R5
 refine op_move rfl ?_
 refine reg_nil ?_
 refine hK10 _ _ ?_
 refine wp_block ?_
 refine loop_m (fun mz_ az_ w' => ∃ (m : Nat) (x : Value), mz_ = L.length - m ∧ (az_.tmps.getD 0 undef = (ptr p 0)) ∧ (az_.tmps.getD 2 undef = (Value.slice none 0 0)) ∧ (az_.tmps.getD 10 undef = (Value.int .i64 ((L.length : Nat) : Int))) ∧ (az_.tmps.getD 11 undef = (Value.int .i64 ((m : Nat) : Int))) ∧ (az_.tmps.getD 3 undef = x) ∧ (m ≤ L.length) ∧ (w.grownBy w' (pgRow p n vb)) ∧ (w12.heap.size ≤ w'.heap.size) ∧ (Bx w' p 50 [u5]) ∧ (Own w' base 5 1 u5 256 (bs5.map u8v)) ∧ (Own w' w.heap.size 3 1 x (slotsI L m).length ((slotsI L m).map (Value.int .i64)))) _ hN hd ⟨0, _, rfl, (sl_base hN rfl s0), (sl_hit hN rfl), (sl_hit hN rfl), (sl_hit hN rfl), (sl_hit hN rfl), Nat.zero_le _, hb, (Nat.le_refl _), hx5, hO5, (Own.nil _ _ _ _)⟩ ?_
 rintro _ a14 w14 hN14 hd14 ⟨m, x, rfl, s14_0, s14_2, s14_10, s14_11, s14_3, hm, hb, zl_w14, hx5, hO5, hO15⟩
 have z_w14 := hb.size
 refine seq_any fun K16 hK16 => ?_
 refine one_reg ?_
 refine op_lss (ev_base hN14 rfl s14_11) (ev_base hN14 rfl s14_10) (fun c12 => ?_) (fun c12 => ?_)
 · -- 12T
  refine reg_nil ?_
  refine hK16 _ _ ?_
  refine seq_any fun K17 hK17 => ?_
  refine wp_cond_true (ev_hit hN14 rfl) ?_
  refine wp_skip ?_
  refine hK17 _ _ ?_
  refine seq_any fun K18 hK18 => ?_
  refine wp_block ?_
  refine seq_any fun K19 hK19 => ?_
  refine one_reg ?_
  refine op_move (ev_base hN14 rfl s14_11) ?_
  refine op_assign (ev_hit hN14 rfl) ?_
  refine reg_nil ?_
  refine hK19 _ _ ?_
  refine seq_any fun K20 hK20 => ?_
  refine one_reg ?_
  refine op_move (ev_base hN14 rfl s14_0) ?_
  refine op_move (ev_hit hN14 rfl) ?_
  refine op_fn (vs := [(ptr p 0), (Value.int .i64 ((m : Nat) : Int))]) ok38 ⟨(ev_hit hN14 rfl), ⟨(ev_hit hN14 rfl), trivial⟩⟩ (size_ret bs5 _ _ _ _ (by first | assumption | exact Rep.len (by assumption)) hx5 hO5 L R5 ((m : Nat) : Int) (by omega)) ?_
  rintro _ w22 ⟨E23, rfl⟩
  have E23 := grown_of_below E23
  have z_w22 := E23.size
  have hx5 := hx5.keep0 E23
  have hO5 := hO5.keep0 E23
  have hO15 := hO15.keep0 E23
  have hb := grow_step0 hb E23
  have hz_21 := sizeL_le R5 ((m : Nat) : Int)
  refine op_gtr (ev_hit hN14 rfl) rfl (fun c17 => ?_) (fun c17 => ?_)
  · -- 17T
   refine reg_nil ?_
   refine hK20 _ _ ?_
   refine wp_cond_true (ev_hit hN14 rfl) ?_
   refine one_reg ?_
   have hslen := slotsI_len L m
   have hsg := slotsI_go (L := L) (m := m) (by have := sizeL_in (L := L) (s := m) (by omega); omega)
   have hmm := R5.fits
   refine op_move (ev_base hN14 rfl s14_3) ?_
   refine op_move (ev_hit hN14 rfl) ?_
   refine op_bslice (e := 3) (pv := [(0, (Value.int .i64 ((m : Nat) : Int)))]) (cs := [(Value.int .i64 ((m : Nat) : Int))]) ⟨rfl, (ev_hit hN14 rfl), trivial⟩ (by kernel_rfl) ?_
   intro w24 b25 lo_b25 hi_b25 hB27 E26
   have ne_b25_x : x.ownBlock ≠ some b25 := fun hh => by have := (hO15.lt _ hh).2; omega
   have z_w24 := E26.size
   have hx5 := hx5.keep0 E26
   have hO5 := hO5.keep0 E26
   have hO15 := hO15.keep0 E26
   have hb := grow_step0 hb E26
   have hP33 := hO15
   refine op_append slt29 (ev_hit hN14 rfl) hP33 (ev_hit hN14 rfl) (Src.ofRd Try.underlying29 (by decide) (RdC.ofBx (sz := 1) (n := 1) hB27 rfl (by decide)) (by simp [Value.oneCell', u8v])) (by unfold maxLen; omega) (by omega) hb.size ?_
   intro v28 w29 hO31 E30 hm32
   have z_w29 := E30.size
   have hx5 := hx5.keepO hP33 E30 (by decide)
   have hO5 := hO5.keepT hP33 E30 (by decide)
   have hB27 := hB27.keep E30 (fun hh => ne_b25_x hh.symm)
   have hb := grow_stepO hb hP33 E30 (by omega)
   have hO31 : Own w29 w.heap.size 3 1 v28 (slotsI L (m + 1)).length (((slotsI L (m + 1))).map (Value.int .i64)) := by rw [hsg]; exact hO31.cast (by rw [List.length_append]; rfl) (by rw [List.map_append]; rfl)
   have ne_b25_v28 : v28.ownBlock ≠ some b25 := ne_step (w1 := w24) ⟨E30, hm32⟩ (by omega) ne_b25_x
   refine op_assign (ev_hit hN14 rfl) ?_
   refine reg_nil ?_
   refine hK18 _ _ ?_
   refine one_reg ?_
   refine op_add (ev_base hN14 rfl s14_11) rfl (add64 (by omega)) ?_
   refine op_move (ev_hit hN14 rfl) ?_
   refine reg_nil ?_
   -- round 12T 17T
   have hsm := sizeL_in (L := L) (s := m) (by omega)
   exact loop_next _ hN14 hd14 ⟨(m + 1), _, rfl, (sl_base hN14 rfl s14_0), (sl_base hN14 rfl s14_2), (sl_base hN14 rfl s14_10), (sl_hit hN14 rfl).trans (congrArg (Value.int .i64) (by omega)), (sl_hit hN14 rfl), (by omega), hb, (by omega), hx5, hO5, (hO31.cast rfl rfl)⟩ (by omega)
  · -- 17F
   refine reg_nil ?_
   refine hK20 _ _ ?_
   refine wp_cond_false (ev_hit hN14 rfl) ?_
   refine wp_skip ?_
   refine hK18 _ _ ?_
   refine one_reg ?_
   refine op_add (ev_base hN14 rfl s14_11) rfl (add64 (by omega)) ?_
   refine op_move (ev_hit hN14 rfl) ?_
   refine reg_nil ?_
   -- round 12T 17F
   have hsm := sizeL_in (L := L) (s := m) (by omega)
   exact loop_next _ hN14 hd14 ⟨(m + 1), _, rfl, (sl_base hN14 rfl s14_0), (sl_base hN14 rfl s14_2), (sl_base hN14 rfl s14_10), (sl_hit hN14 rfl).trans (congrArg (Value.int .i64) (by omega)), (sl_base hN14 rfl s14_3), (by omega), hb, (by omega), hx5, hO5, (hO15.cast (by rw [slotsI_skip (by omega)]) (by rw [slotsI_skip (by omega)]))⟩ (by omega)
 · -- 12F
  refine reg_nil ?_
  refine hK16 _ _ ?_
  refine seq_any fun K34 hK34 => ?_
  refine wp_cond_false (ev_hit hN14 rfl) ?_
  refine wp_exit (then_exit (then_exit (blk_hit ?_)))
  refine hK9 _ _ ?_
  refine seq_any fun K35 hK35 => ?_
  refine one_reg ?_
  refine op_move (ev_base hN14 rfl s14_3) ?_
  refine op_assign (ev_hit hN14 rfl) ?_
  refine reg_nil ?_
  refine hK35 _ _ ?_
  refine wp_ret ?_
  refine ret1 rfl hd14 (ev_hit hN14 rfl) ⟨_, rfl, ?_⟩
  -- path 12F
  have hme : m = L.length := by omega
  subst hme
  exact ⟨hb, _, rfl, hO15, ⟨_, _, _, hx5, hO5, R5.pg, (RowP.laid (by decide) ro5)⟩⟩

theorem free_ret (L : List By) (bs : By) (n : Nat) (vb : Value) (base p : Nat) (w : World) (hbase : base ≤ w.heap.size) (hx : Bx w p 50 [vb]) (O : Own w base 5 1 vb n (bs.map u8v)) (hP : Pg n bs L vb)  : Ret Try.prog 14 #[(ptr p 0)] w (fun v' w' => w.grownBy w' (pgRow p n vb) ∧ v' = .int .i64 (leftL L L.length) ∧ ∃ u n' bs', Bx w' p 50 [u] ∧ Own w' base 5 1 u n' (bs'.map u8v) ∧ Pg n' bs' (L) u ∧ RowP p n' u (pgRow p n vb) w.heap.size) := by
 have hb := grown_refl w (pgRow p n vb)
 refine enter (N := 11) Try.func14 rfl rfl (by simp) fun a0 hN hd hA => ?_
 have s0 : a0.tmps.getD 0 undef = (ptr p 0) := hA 0 (by simp)
 clear hA
 refine seq_any fun K36 hK36 => ?_
 refine one_reg ?_
 refine op_assign rfl ?_
 refine reg_nil ?_
 refine hK36 _ _ ?_
 refine seq_any fun K37 hK37 => ?_
 refine seq_any fun K38 hK38 => ?_
 refine one_reg ?_
 refine op_move (ev_base hN rfl s0) ?_
 refine op_peq_some ptrt24 (ev_hit hN rfl) rfl ?_
 refine reg_nil ?_
 refine hK38 _ _ ?_
 refine wp_cond_false (ev_hit hN rfl) ?_
 refine wp_skip ?_
 refine hK37 _ _ ?_
 refine seq_any fun K39 hK39 => ?_
 refine one_reg ?_
 refine op_move (ev_base hN rfl s0) ?_
 refine op_fn (vs := [(ptr p 0)]) ok36 ⟨(ev_hit hN rfl), trivial⟩ (ready_ret L bs n _ _ _ _ hbase hx O hP) ?_
 rintro _ w41 ⟨E42, rfl, u40, bs40, hx40, hO40, R40, ro40⟩
 have z_w41 := E42.size
 have hb := grown_trans hb E42
 refine reg_nil ?_
 refine hK39 _ _ ?_
 refine seq_any fun K43 hK43 => ?_
 refine one_reg ?_
 refine op_move (ev_base hN rfl s0) ?_
 refine op_move (ev_base hN rfl s0) ?_
 refine op_fn (vs := [(ptr p 0)]) ok37 ⟨(ev_hit hN rfl), trivial⟩ (many_ret bs40 _ _ _ _ (by first | assumption | exact Rep.len (by assumption)) hx40 hO40 L R40) ?_
 rintro _ w45 ⟨E46, rfl⟩
 have E46 := grown_of_below E46
 have z_w45 := E46.size
 have hx40 := hx40.keep0 E46
 have hO40 := hO40.keep0 E46
 have hb := grow_step0 hb E46
 have hm_44 := Rep.fits R40
 refine op_fn (vs := [(ptr p 0), (Value.int .i64 ((L.length : Nat) : Int))]) ok39 ⟨(ev_hit hN rfl), ⟨(ev_hit hN rfl), trivial⟩⟩ (left_ret bs40 _ _ _ _ (by first | assumption | exact Rep.len (by assumption)) hx40 hO40 L R40 (L.length) (by omega)) ?_
 rintro _ w48 ⟨E49, rfl⟩
 have E49 := grown_of_below E49
 have z_w48 := E49.size
 have hx40 := hx40.keep0 E49
 have hO40 := hO40.keep0 E49
 have hb := grow_step0 hb E49
 have hlf_47 := leftL_rng R40 (L.length) (by omega)
 refine op_assign (ev_hit hN rfl) ?_
 refine reg_nil ?_
 refine hK43 _ _ ?_
 refine wp_ret ?_
 refine ret1 rfl hd (ev_hit hN rfl) ⟨_, rfl, ?_⟩
 -- path
 exact ⟨hb, rfl, ⟨_, _, _, hx40, hO40, R40.pg, (RowP.laid (by decide) ro40)⟩⟩

theorem new_ret (w : World) : Ret Try.prog 10 #[] w (fun v' w' => Below w.heap.size w w' ∧ ∃ p, v' = ptr p 0 ∧ w.heap.size ≤ p ∧ Bx w' p 50 [.slice none 0 0]) := by
 have hb := Below.refl w.heap.size w
 refine enter (N := 3) Try.func10 rfl rfl (by simp) fun a0 hN hd hA => ?_
 clear hA
 refine seq_any fun K50 hK50 => ?_
 refine one_reg ?_
 refine op_assign rfl ?_
 refine reg_nil ?_
 refine hK50 _ _ ?_
 refine seq_any fun K51 hK51 => ?_
 refine one_reg ?_
 refine op_build (pv := []) (v := (Value.agg #[(Value.slice none 0 0)])) trivial (by kernel_rfl) ?_
 refine op_box (cs := [(Value.slice none 0 0)]) (ev_hit hN rfl) rfl ?_
 intro w52 b53 lo_b53 hi_b53 hB55 E54
 have z_w52 := E54.size
 have hb := below_step0 hb E54 hb.size
 refine op_assign (ev_hit hN rfl) ?_
 refine reg_nil ?_
 refine hK51 _ _ ?_
 refine wp_ret ?_
 refine ret1 rfl hd (ev_hit hN rfl) ⟨_, rfl, ?_⟩
 -- path
 exact ⟨hb, _, rfl, lo_b53, hB55⟩

end Go.Proofs.Ytdhpalioifjfbaa

/- Walks, written by a program: what each function of the translation hands back. -/
namespace Go.Proofs.Ytdhpalioifjfbaa
open Go.Gx Go.RowKit
attribute [local irreducible] wpList wpStill Code.wp Calls

theorem bytes_ret (L : List By) (bs : By) (n : Nat) (vb : Value) (base p : Nat) (w : World) (hbase : base ≤ w.heap.size) (hx : Bx w p 50 [vb]) (O : Own w base 5 1 vb n (bs.map u8v)) (hP : Pg n bs L vb)  : Ret Try.prog 25 #[(ptr p 0)] w (fun v' w' => w.grownBy w' (pgRow p n vb) ∧ ∃ (x : Value) (bx : By), v' = x ∧ Own w' w.heap.size 5 1 x 256 (bx.map u8v) ∧ Rep bx L ∧ ∃ u n' bs', Bx w' p 50 [u] ∧ Own w' base 5 1 u n' (bs'.map u8v) ∧ Pg n' bs' (L) u ∧ RowP p n' u (pgRow p n vb) w.heap.size ∧ DJ x u) := by
 have hb := grown_refl w (pgRow p n vb)
 refine enter (N := 13) Try.func25 rfl rfl (by simp) fun a0 hN hd hA => ?_
 have s0 : a0.tmps.getD 0 undef = (ptr p 0) := hA 0 (by simp)
 clear hA
 refine seq_any fun K1 hK1 => ?_
 refine one_reg ?_
 refine op_assign rfl ?_
 refine reg_nil ?_
 refine hK1 _ _ ?_
 refine seq_any fun K2 hK2 => ?_
 refine seq_any fun K3 hK3 => ?_
 refine one_reg ?_
 refine op_move (ev_base hN rfl s0) ?_
 refine op_peq_some ptrt24 (ev_hit hN rfl) rfl ?_
 refine reg_nil ?_
 refine hK3 _ _ ?_
 refine wp_cond_false (ev_hit hN rfl) ?_
 refine wp_skip ?_
 refine hK2 _ _ ?_
 refine seq_any fun K4 hK4 => ?_
 refine one_reg ?_
 refine op_move (ev_base hN rfl s0) ?_
 refine op_fn (vs := [(ptr p 0)]) ok36 ⟨(ev_hit hN rfl), trivial⟩ (ready_ret L bs n _ _ _ _ hbase hx O hP) ?_
 rintro _ w6 ⟨E7, rfl, u5, bs5, hx5, hO5, R5, ro5⟩
 have z_w6 := E7.size
 have hb := grown_trans hb E7
 refine reg_nil ?_
 refine hK4 _ _ ?_
 refine seq_any fun K8 hK8 => ?_
 refine one_reg ?_
 have hplt := hx5.lt
 refine op_bslice (e := 5) (pv := []) (cs := []) trivial (by kernel_rfl) ?_
 intro w9 b10 lo_b10 hi_b10 hB12 E11
 have ne_b10_u5 : u5.ownBlock ≠ some b10 := fun hh => by have := (hO5.lt _ hh).2; omega
 have z_w9 := E11.size
 have hx5 := hx5.keep0 E11
 have hO5 := hO5.keep0 E11
 have hb := grow_step0 hb E11
 refine op_move (ev_base hN rfl s0) ?_
 refine op_nil (ev_hit hN rfl) ?_
 refine op_field fld50_0 (ev_hit hN rfl) ?_
 refine op_load1 (v := u5) one22 (ev_hit hN rfl) (hx5.cell rfl) ?_
 have hP18 := (Own.ofBx (base := w.heap.size) (sz := 1) (n := 0) hB12 rfl (by decide) (by omega))
 refine op_append slt22 (ev_hit hN rfl) hP18 (ev_hit hN rfl) (Src.ofRd Try.underlying22 (by decide) hO5.rdw (by simp [Value.oneCell', u8v])) (by unfold maxLen; omega) (by omega) hb.size ?_
 intro v13 w14 hO16 E15 hm17
 have dj19 : DJ u5 (Value.slice (some ⟨b10, 0, none⟩) 0 0) := fun k hk hg => by simp [Value.ownBlock] at hg; subst hg; exact ne_b10_u5 hk
 have dj20 : DJ u5 v13 := DJ.step hm17 (fun k hk => (hO5.lt k hk).2) dj19
 have z_w14 := E15.size
 have hx5 := hx5.keep E15 (by simp [Value.ownBlock]; try omega)
 have hO5 := hO5.keepD E15 dj19
 have hb := grow_stepO hb hP18 E15 (by omega)
 have hO16 : Own w14 w.heap.size 5 1 v13 (0 + 256) ((bs5).map u8v) := by simpa [u8v] using hO16
 refine op_assign (ev_hit hN rfl) ?_
 refine reg_nil ?_
 refine hK8 _ _ ?_
 refine wp_ret ?_
 refine ret1 rfl hd (ev_hit hN rfl) ⟨_, rfl, ?_⟩
 -- path
 exact ⟨hb, _, _, rfl, hO16.cast (by omega) rfl, R5, ⟨_, _, _, hx5, hO5, R5.pg, (RowP.laid (by decide) ro5), dj20.symm⟩⟩

end Go.Proofs.Ytdhpalioifjfbaa

/- Walks, written by a program: what each function of the translation hands back. -/
namespace Go.Proofs.Ytdhpalioifjfbaa
open Go.Gx Go.RowKit
attribute [local irreducible] wpList wpStill Code.wp Calls

theorem put_nil (x : Value) (w : World) : Ret Try.prog 11 #[(Value.pointer none), x] w (fun v' w' => Below w.heap.size w w' ∧ v' = .tuple #[.int .i64 0, .int .i64 1]) := by
 have hb := Below.refl w.heap.size w
 refine enter (N := 45) Try.func11 rfl rfl (by simp) fun a0 hN hd hA => ?_
 have s0 : a0.tmps.getD 0 undef = (Value.pointer none) := hA 0 (by simp)
 have s1 : a0.tmps.getD 1 undef = x := hA 1 (by simp)
 clear hA
 refine seq_any fun K1 hK1 => ?_
 refine one_reg ?_
 refine op_assign rfl ?_
 refine op_assign rfl ?_
 refine reg_nil ?_
 refine hK1 _ _ ?_
 refine seq_any fun K2 hK2 => ?_
 refine seq_any fun K3 hK3 => ?_
 refine one_reg ?_
 refine op_move (ev_base hN rfl s0) ?_
 refine op_peq_none ptrt24 (ev_hit hN rfl) rfl ?_
 refine reg_nil ?_
 refine hK3 _ _ ?_
 refine wp_cond_true (ev_hit hN rfl) ?_
 refine seq_any fun K4 hK4 => ?_
 refine one_reg ?_
 refine op_assign rfl ?_
 refine op_assign rfl ?_
 refine reg_nil ?_
 refine hK4 _ _ ?_
 refine wp_ret (then_ret ( ?_))
 refine ret2 rfl hd (ev_hit hN rfl) (ev_hit hN rfl) ⟨_, rfl, ?_⟩
 -- path
 exact ⟨hb, rfl⟩

theorem get_nil (k : Int) (w : World) : Ret Try.prog 15 #[(Value.pointer none), (Value.int .i64 k)] w (fun v' w' => Below w.heap.size w w' ∧ v' = .tuple #[.slice none 0 0, .int .i64 1]) := by
 have hb := Below.refl w.heap.size w
 refine enter (N := 31) Try.func15 rfl rfl (by simp) fun a0 hN hd hA => ?_
 have s0 : a0.tmps.getD 0 undef = (Value.pointer none) := hA 0 (by simp)
 have s1 : a0.tmps.getD 1 undef = (Value.int .i64 k) := hA 1 (by simp)
 clear hA
 refine seq_any fun K5 hK5 => ?_
 refine one_reg ?_
 refine op_assign rfl ?_
 refine op_assign rfl ?_
 refine reg_nil ?_
 refine hK5 _ _ ?_
 refine seq_any fun K6 hK6 => ?_
 refine seq_any fun K7 hK7 => ?_
 refine one_reg ?_
 refine op_move (ev_base hN rfl s0) ?_
 refine op_peq_none ptrt24 (ev_hit hN rfl) rfl ?_
 refine reg_nil ?_
 refine hK7 _ _ ?_
 refine wp_cond_true (ev_hit hN rfl) ?_
 refine seq_any fun K8 hK8 => ?_
 refine one_reg ?_
 refine op_assign rfl ?_
 refine op_assign rfl ?_
 refine reg_nil ?_
 refine hK8 _ _ ?_
 refine wp_ret (then_ret ( ?_))
 refine ret2 rfl hd (ev_hit hN rfl) (ev_hit hN rfl) ⟨_, rfl, ?_⟩
 -- path
 exact ⟨hb, rfl⟩

theorem set_nil (k : Int) (x : Value) (w : World) : Ret Try.prog 20 #[(Value.pointer none), (Value.int .i64 k), x] w (fun v' w' => Below w.heap.size w w' ∧ v' = .int .i64 1) := by
 have hb := Below.refl w.heap.size w
 refine enter (N := 44) Try.func20 rfl rfl (by simp) fun a0 hN hd hA => ?_
 have s0 : a0.tmps.getD 0 undef = (Value.pointer none) := hA 0 (by simp)
 have s1 : a0.tmps.getD 1 undef = (Value.int .i64 k) := hA 1 (by simp)
 have s2 : a0.tmps.getD 2 undef = x := hA 2 (by simp)
 clear hA
 refine seq_any fun K9 hK9 => ?_
 refine one_reg ?_
 refine op_assign rfl ?_
 refine reg_nil ?_
 refine hK9 _ _ ?_
 refine seq_any fun K10 hK10 => ?_
 refine seq_any fun K11 hK11 => ?_
 refine one_reg ?_
 refine op_move (ev_base hN rfl s0) ?_
 refine op_peq_none ptrt24 (ev_hit hN rfl) rfl ?_
 refine reg_nil ?_
 refine hK11 _ _ ?_
 refine wp_cond_true (ev_hit hN rfl) ?_
 refine seq_any fun K12 hK12 => ?_
 refine one_reg ?_
 refine op_assign rfl ?_
 refine reg_nil ?_
 refine hK12 _ _ ?_
 refine wp_ret (then_ret ( ?_))
 refine ret1 rfl hd (ev_hit hN rfl) ⟨_, rfl, ?_⟩
 -- path
 exact ⟨hb, rfl⟩

theorem drop_nil (k : Int) (w : World) : Ret Try.prog 13 #[(Value.pointer none), (Value.int .i64 k)] w (fun v' w' => Below w.heap.size w w' ∧ v' = .int .i64 1) := by
 have hb := Below.refl w.heap.size w
 refine enter (N := 33) Try.func13 rfl rfl (by simp) fun a0 hN hd hA => ?_
 have s0 : a0.tmps.getD 0 undef = (Value.pointer none) := hA 0 (by simp)
 have s1 : a0.tmps.getD 1 undef = (Value.int .i64 k) := hA 1 (by simp)
 clear hA
 refine seq_any fun K13 hK13 => ?_
 refine one_reg ?_
 refine op_assign rfl ?_
 refine reg_nil ?_
 refine hK13 _ _ ?_
 refine seq_any fun K14 hK14 => ?_
 refine seq_any fun K15 hK15 => ?_
 refine one_reg ?_
 refine op_move (ev_base hN rfl s0) ?_
 refine op_peq_none ptrt24 (ev_hit hN rfl) rfl ?_
 refine reg_nil ?_
 refine hK15 _ _ ?_
 refine wp_cond_true (ev_hit hN rfl) ?_
 refine seq_any fun K16 hK16 => ?_
 refine one_reg ?_
 refine op_assign rfl ?_
 refine reg_nil ?_
 refine hK16 _ _ ?_
 refine wp_ret (then_ret ( ?_))
 refine ret1 rfl hd (ev_hit hN rfl) ⟨_, rfl, ?_⟩
 -- path
 exact ⟨hb, rfl⟩

theorem slots_nil (w : World) : Ret Try.prog 12 #[(Value.pointer none)] w (fun v' w' => Below w.heap.size w w' ∧ v' = .slice none 0 0) := by
 have hb := Below.refl w.heap.size w
 refine enter (N := 24) Try.func12 rfl rfl (by simp) fun a0 hN hd hA => ?_
 have s0 : a0.tmps.getD 0 undef = (Value.pointer none) := hA 0 (by simp)
 clear hA
 refine seq_any fun K17 hK17 => ?_
 refine one_reg ?_
 refine op_assign rfl ?_
 refine reg_nil ?_
 refine hK17 _ _ ?_
 refine seq_any fun K18 hK18 => ?_
 refine seq_any fun K19 hK19 => ?_
 refine one_reg ?_
 refine op_move (ev_base hN rfl s0) ?_
 refine op_peq_none ptrt24 (ev_hit hN rfl) rfl ?_
 refine reg_nil ?_
 refine hK19 _ _ ?_
 refine wp_cond_true (ev_hit hN rfl) ?_
 refine seq_any fun K20 hK20 => ?_
 refine one_reg ?_
 refine op_assign rfl ?_
 refine reg_nil ?_
 refine hK20 _ _ ?_
 refine wp_ret (then_ret ( ?_))
 refine ret1 rfl hd (ev_hit hN rfl) ⟨_, rfl, ?_⟩
 -- path
 exact ⟨hb, rfl⟩

theorem free_nil (w : World) : Ret Try.prog 14 #[(Value.pointer none)] w (fun v' w' => Below w.heap.size w w' ∧ v' = .int .i64 0) := by
 have hb := Below.refl w.heap.size w
 refine enter (N := 11) Try.func14 rfl rfl (by simp) fun a0 hN hd hA => ?_
 have s0 : a0.tmps.getD 0 undef = (Value.pointer none) := hA 0 (by simp)
 clear hA
 refine seq_any fun K21 hK21 => ?_
 refine one_reg ?_
 refine op_assign rfl ?_
 refine reg_nil ?_
 refine hK21 _ _ ?_
 refine seq_any fun K22 hK22 => ?_
 refine seq_any fun K23 hK23 => ?_
 refine one_reg ?_
 refine op_move (ev_base hN rfl s0) ?_
 refine op_peq_none ptrt24 (ev_hit hN rfl) rfl ?_
 refine reg_nil ?_
 refine hK23 _ _ ?_
 refine wp_cond_true (ev_hit hN rfl) ?_
 refine seq_any fun K24 hK24 => ?_
 refine one_reg ?_
 refine op_assign rfl ?_
 refine reg_nil ?_
 refine hK24 _ _ ?_
 refine wp_ret (then_ret ( ?_))
 refine ret1 rfl hd (ev_hit hN rfl) ⟨_, rfl, ?_⟩
 -- path
 exact ⟨hb, rfl⟩

theorem bytes_nil (w : World) : Ret Try.prog 25 #[(Value.pointer none)] w (fun v' w' => Below w.heap.size w w' ∧ v' = .slice none 0 0) := by
 have hb := Below.refl w.heap.size w
 refine enter (N := 13) Try.func25 rfl rfl (by simp) fun a0 hN hd hA => ?_
 have s0 : a0.tmps.getD 0 undef = (Value.pointer none) := hA 0 (by simp)
 clear hA
 refine seq_any fun K25 hK25 => ?_
 refine one_reg ?_
 refine op_assign rfl ?_
 refine reg_nil ?_
 refine hK25 _ _ ?_
 refine seq_any fun K26 hK26 => ?_
 refine seq_any fun K27 hK27 => ?_
 refine one_reg ?_
 refine op_move (ev_base hN rfl s0) ?_
 refine op_peq_none ptrt24 (ev_hit hN rfl) rfl ?_
 refine reg_nil ?_
 refine hK27 _ _ ?_
 refine wp_cond_true (ev_hit hN rfl) ?_
 refine seq_any fun K28 hK28 => ?_
 refine one_reg ?_
 refine op_assign rfl ?_
 refine reg_nil ?_
 refine hK28 _ _ ?_
 refine wp_ret (then_ret ( ?_))
 refine ret1 rfl hd (ev_hit hN rfl) ⟨_, rfl, ?_⟩
 -- path
 exact ⟨hb, rfl⟩

end Go.Proofs.Ytdhpalioifjfbaa

/- Walks, written by a program: what each function of the translation hands back. -/
namespace Go.Proofs.Ytdhpalioifjfbaa
open Go.Gx Go.RowKit
attribute [local irreducible] wpList wpStill Code.wp Calls

theorem begun13_ret (w : World) : Ret Try.prog 9 #[] w (fun v' w' => Below w.heap.size w w' ∧ v' = .bool true) := by
 have hb := Below.refl w.heap.size w
 refine enter (N := 44) Try.func9 rfl rfl (by simp) fun a0 hN hd hA => ?_
 clear hA
 refine seq_any fun K1 hK1 => ?_
 refine one_reg ?_
 refine op_assign rfl ?_
 refine reg_nil ?_
 refine hK1 _ _ ?_
 refine seq_any fun K2 hK2 => ?_
 refine one_reg ?_
 refine op_fn (vs := []) ok10 trivial (new_ret _) ?_
 rintro _ w4 ⟨E5, p3, rfl, lo_p3, hx3⟩
 have E5 := grown_of_below E5
 have z_w4 := E5.size
 have hb := below_step0 hb E5 hb.size
 have hi_p3 := hx3.lt
 refine op_assign (ev_hit hN rfl) ?_
 refine reg_nil ?_
 refine hK2 _ _ ?_
 refine seq_any fun K6 hK6 => ?_
 refine one_reg ?_
 refine op_move (ev_hit hN rfl) ?_
 refine op_bslice (e := 5) (pv := [(0, (Value.int .u8 1)), (1, (Value.int .u8 2)), (2, (Value.int .u8 3))]) (cs := [(Value.int .u8 1), (Value.int .u8 2), (Value.int .u8 3)]) ⟨rfl, rfl, ⟨rfl, rfl, ⟨rfl, rfl, trivial⟩⟩⟩ (by kernel_rfl) ?_
 intro w7 b8 lo_b8 hi_b8 hB10 E9
 have z_w7 := E9.size
 have hx3 := hx3.keep0 E9
 have hb := below_step0 hb E9 hb.size
 have hrx11 : RdC w7 b8 (b8 + 1) 1 (Value.slice (some ⟨b8, 0, none⟩) 3 3) ([1, 2, 3] : By).length (([1, 2, 3] : By).map u8v) := (RdC.ofBx (sz := 1) (n := 3) hB10 rfl (by decide))
 refine op_fn (vs := [(ptr p3 0), (Value.slice (some ⟨b8, 0, none⟩) 3 3)]) ok11 ⟨(ev_hit hN rfl), ⟨(ev_hit hN rfl), trivial⟩⟩ (put_ret [] [] 0 _ _ _ _ (by omega) hx3 (Own.nil w7 w.heap.size 5 1) Pg.zero ([1, 2, 3] : By) _ _ _ hrx11 (lit_apart (hB10.ne hx3 (by decide)) (ne_nil b8)) hB10.lt) ?_
 rintro _ w14 ⟨E15, rfl, u13, n13, bs13, hx13, hO13, hP13, ro13⟩
 have ne_b8_u13 : u13.ownBlock ≠ some b8 := ro13.ro.ne (ne_nil b8) (hB10.ne hx3 (by decide)) hB10.lt
 have hB10 := hB10.keepPn hx3 E15 (by decide) (ne_nil b8)
 have z_w14 := E15.size
 have hb := below_stepR hb E15 hb.size (by omega) (Own.nil w7 w.heap.size 5 1) (by omega)
 have hfi_13 := hP13.fits
 have hpk_12 := putK_rng [] ([1, 2, 3] : By)
 refine op_move (ev_hit hN rfl) ?_
 refine op_extract (ev_hit hN rfl) rfl ?_
 refine op_extract (ev_hit hN rfl) rfl ?_
 refine op_assign (ev_hit hN rfl) ?_
 refine op_assign (ev_hit hN rfl) ?_
 refine reg_nil ?_
 refine hK6 _ _ ?_
 refine seq_any fun K16 hK16 => ?_
 refine one_reg ?_
 refine op_move (ev_hit hN rfl) ?_
 refine op_fn (vs := [(ptr p3 0), (Value.int .i64 0)]) ok15 ⟨(ev_hit hN rfl), ⟨rfl, trivial⟩⟩ (get_ret (putN [] [1, 2, 3]) bs13 n13 _ _ _ _ (by omega) hx13 hO13 hP13 0 (by omega)) ?_
 rintro _ w19 ⟨E20, v17, rfl, hO17, u18, n18, bs18, hx18, hO18, hP18, ro18, dx18⟩
 have dj21 : DJ v17 u13 := fun k hk hg => by have q1 := (hO17.lt k hk).1; have q2 := (hO13.lt k hg).2; omega
 have ne_b8_u18 : u18.ownBlock ≠ some b8 := ro18.ro.ne ne_b8_u13 (hB10.ne hx13 (by decide)) hB10.lt
 have hB10 := hB10.keepPn hx13 E20 (by decide) ne_b8_u13
 have z_w19 := E20.size
 have hb := below_stepR hb E20 hb.size (by omega) hO13 (by omega)
 have hO17 := hO17.mono (base' := w.heap.size) (by omega)
 have hfi_18 := hP18.fits
 refine op_move (ev_hit hN rfl) ?_
 refine op_extract (ev_hit hN rfl) rfl ?_
 refine op_extract (ev_hit hN rfl) rfl ?_
 refine op_assign (ev_hit hN rfl) ?_
 refine op_assign (ev_hit hN rfl) ?_
 refine reg_nil ?_
 refine hK16 _ _ ?_
 refine seq_any fun K22 hK22 => ?_
 refine one_reg ?_
 refine op_move (ev_hit hN rfl) ?_
 refine op_eql (ev_hit hN rfl) rfl (fun c19 => ?_) (fun c19 => ?_)
 · -- 19T
  refine op_move (ev_hit hN rfl) ?_
  refine g_true (j := 2) (dj := 20) (b := true) rfl rfl rfl (ev_hit hN rfl) ?_
  refine op_move (ev_hit hN rfl) ?_
  refine g_true (j := 2) (dj := 20) (b := true) rfl rfl rfl (ev_hit hN rfl) ?_
  refine op_eql (ev_hit hN rfl) rfl (fun c22 => ?_) (fun c22 => ?_)
  · -- 22T
   refine op_pick_t (ev_hit hN rfl) (ev_hit hN rfl) ?_
   refine op_move (ev_hit hN rfl) ?_
   refine g_true (j := 6) (dj := 24) (b := true) rfl rfl rfl (ev_hit hN rfl) ?_
   refine op_move (ev_hit hN rfl) ?_
   refine g_true (j := 6) (dj := 24) (b := true) rfl rfl rfl (ev_hit hN rfl) ?_
   refine op_eql (ev_hit hN rfl) rfl (fun c26 => ?_) (fun c26 => ?_)
   · -- 26T
    refine op_pick_t (ev_hit hN rfl) (ev_hit hN rfl) ?_
    refine op_move (ev_hit hN rfl) ?_
    refine g_true (j := 10) (dj := 28) (b := true) rfl rfl rfl (ev_hit hN rfl) ?_
    refine op_move (ev_hit hN rfl) ?_
    refine g_true (j := 10) (dj := 28) (b := true) rfl rfl rfl (ev_hit hN rfl) ?_
    refine op_len_rd Try.underlying22 (ev_hit hN rfl) hO17.rdw ?_
    refine g_true (j := 10) (dj := 28) (b := true) rfl rfl rfl (ev_hit hN rfl) ?_
    refine op_eql (ev_hit hN rfl) rfl (fun c31 => ?_) (fun c31 => ?_)
    · -- 31T
     refine op_pick_t (ev_hit hN rfl) (ev_hit hN rfl) ?_
     refine op_move (ev_hit hN rfl) ?_
     refine g_true (j := 15) (dj := 33) (b := true) rfl rfl rfl (ev_hit hN rfl) ?_
     refine op_move (ev_hit hN rfl) ?_
     refine g_true (j := 15) (dj := 33) (b := true) rfl rfl rfl (ev_hit hN rfl) ?_
     refine op_fn (vs := [(ptr p3 0)]) ok14 ⟨(ev_hit hN rfl), trivial⟩ (free_ret (putN [] [1, 2, 3]) bs18 n18 _ _ _ _ (by omega) hx18 hO18 hP18 ) ?_
     rintro _ w25 ⟨E26, rfl, u24, n24, bs24, hx24, hO24, hP24, ro24⟩
     have ne_b8_u24 : u24.ownBlock ≠ some b8 := ro24.ro.ne ne_b8_u18 (hB10.ne hx18 (by decide)) hB10.lt
     have dj27 : DJ v17 u24 := DJ.stepP ro24.ro dx18 (hO17.neB hx18 (by decide)) (fun k hk => (hO17.lt k hk).2)
     have hB10 := hB10.keepPn hx18 E26 (by decide) ne_b8_u18
     have hO17 := hO17.keepP hx18 hO18 E26 (by decide) (.inr dx18)
     have z_w25 := E26.size
     have hb := below_stepR hb E26 hb.size (by omega) hO18 (by omega)
     have hfi_24 := hP24.fits
     have hlr_23 := hP18.left
     refine g_true (j := 15) (dj := 33) (b := true) rfl rfl rfl (ev_hit hN rfl) ?_
     refine op_eql (ev_hit hN rfl) rfl (fun c36 => ?_) (fun c36 => ?_)
     · -- 36T
      refine op_pick_t (ev_hit hN rfl) (ev_hit hN rfl) ?_
      refine op_move (ev_hit hN rfl) ?_
      refine g_true (j := 20) (dj := 38) (b := true) rfl rfl rfl (ev_hit hN rfl) ?_
      refine op_move (ev_hit hN rfl) ?_
      refine g_true (j := 20) (dj := 38) (b := true) rfl rfl rfl (ev_hit hN rfl) ?_
      refine op_fn (vs := [(ptr p3 0)]) ok25 ⟨(ev_hit hN rfl), trivial⟩ (bytes_ret (putN [] [1, 2, 3]) bs24 n24 _ _ _ _ (by omega) hx24 hO24 hP24 ) ?_
      rintro v28 w30 ⟨E31, _, bx28, rfl, hO28, _, u29, n29, bs29, hx29, hO29, hP29, ro29, dx29⟩
      have dj32 : DJ v28 v17 := fun k hk hg => by have q1 := (hO28.lt k hk).1; have q2 := (hO17.lt k hg).2; omega
      have dj33 : DJ v28 u24 := fun k hk hg => by have q1 := (hO28.lt k hk).1; have q2 := (hO24.lt k hg).2; omega
      have ne_b8_u29 : u29.ownBlock ≠ some b8 := ro29.ro.ne ne_b8_u24 (hB10.ne hx24 (by decide)) hB10.lt
      have dj34 : DJ v17 u29 := DJ.stepP ro29.ro dj27 (hO17.neB hx24 (by decide)) (fun k hk => (hO17.lt k hk).2)
      have hB10 := hB10.keepPn hx24 E31 (by decide) ne_b8_u24
      have hO17 := hO17.keepP hx24 hO24 E31 (by decide) (.inr dj27)
      have z_w30 := E31.size
      have hb := below_stepR hb E31 hb.size (by omega) hO24 (by omega)
      have hO28 := hO28.mono (base' := w.heap.size) (by omega)
      have hfi_29 := hP29.fits
      refine g_true (j := 20) (dj := 38) (b := true) rfl rfl rfl (ev_hit hN rfl) ?_
      refine op_len_rd Try.underlying22 (ev_hit hN rfl) hO28.rdw ?_
      refine g_true (j := 20) (dj := 38) (b := true) rfl rfl rfl (ev_hit hN rfl) ?_
      refine op_bin (v := .bool true) (ev_hit hN rfl) rfl (by rw [binOp_eql]; rfl) ?_
      refine op_pick_t (ev_hit hN rfl) (ev_hit hN rfl) ?_
      refine op_assign (ev_hit hN rfl) ?_
      refine reg_nil ?_
      refine hK22 _ _ ?_
      refine wp_ret ?_
      refine ret1 rfl hd (ev_hit hN rfl) ⟨_, rfl, ?_⟩
      -- path 19T 22T 26T 31T 36T
      exact ⟨hb, rfl⟩
     · -- 36F
      exact absurd c36 (by decide +kernel)
    · -- 31F
     exact absurd c31 (by decide +kernel)
   · -- 26F
    exact absurd c26 (by decide +kernel)
  · -- 22F
   exact absurd c22 (by decide +kernel)
 · -- 19F
  exact absurd c19 (by decide +kernel)

end Go.Proofs.Ytdhpalioifjfbaa

/- Pages, plainly: what the laws need. -/
namespace Go.Proofs.Ytdhpalioifjfbaa
open Go.Gx Go.RowKit
theorem tmod_nat {a b : Nat} : ((a : Nat) : Int).tmod ((b : Nat) : Int) = ((a % b : Nat) : Int) := rfl
theorem twin_copy (bl : List UInt8) : bl.map u8v ++ ((List.replicate (bl.length + 3) (0 : UInt8)).map u8v).drop (bl.map u8v).length = (bl ++ [0, 0, 0]).map u8v := by
  simp only [List.map_replicate, List.length_map, List.drop_replicate, List.map_append, Nat.add_sub_cancel_left]; rfl
theorem getD_tail (bl t : List UInt8) (k : Nat) : (bl ++ t).getD (bl.length + k) 0 = t.getD k 0 := by
  rw [List.getD_eq_getElem?_getD, List.getElem?_append_right (by omega), Nat.add_sub_cancel_left, List.getD_eq_getElem?_getD]
/-- no empty slot at the end -/
def Trim (L : List By) : Prop := ∀ m, L.length = m + 1 → L.getD m [] ≠ []
theorem Trim.nil : Trim [] := fun m h => by simp at h
theorem Trim.cut (L : List By) : Trim (cutL L) := by
  intro m hm
  have key : ∀ l : List By, ∀ m, (l.dropWhile (· == [])).length = m + 1 → (l.dropWhile (· == [])).getD 0 [] ≠ [] := by
    intro l
    induction l with
    | nil => intro m h; simp at h
    | cons a t ih =>
      intro m h
      rw [List.dropWhile_cons] at h ⊢
      split
      · rename_i ha; rw [if_pos ha] at h; exact ih m h
      · rename_i ha; simpa using ha
  unfold cutL at hm ⊢
  rw [List.length_reverse] at hm
  have := key L.reverse m hm
  simp only [List.getD_eq_getElem?_getD] at this ⊢
  rw [List.getElem?_reverse (by omega), hm]
  simpa using this
theorem Trim.drop {L : List By} (h : Trim L) (k : Int) : Trim (dropN L k) := by
  unfold dropN; split
  · exact h
  · exact Trim.cut _
theorem Trim.put {L : List By} (h : Trim L) (r : By) : Trim (putN L r) := by
  unfold putN
  split
  · exact h
  · rename_i hb
    split
    · exact h
    · intro m hm
      have hf := freeL_le L
      have hr : r ≠ [] := by
        intro hh; subst hh; exact hb (by decide)
      have hl := layL_len (r := r) hf
      by_cases hk : m = freeL L
      · rw [hk, layL_get hf]; exact hr
      · rw [layL_other hf hk]; exact h m (by omega)
theorem slotsN_mem {L : List By} {m s : Nat} : s ∈ slotsN L m ↔ s < m ∧ (L.getD s []).length ≠ 0 := by
  unfold slotsN; rw [List.mem_filter, List.mem_range, bne_iff_ne]
theorem slots_get {L : List By} {m i : Nat} (hm : m ≤ L.length) (hi : i < (slotsI L m).length) : sizeL L ((slotsI L m).getD i 0) ≠ 0 ∧ 0 ≤ (slotsI L m).getD i 0 ∧ (slotsI L m).getD i 0 < (L.length : Int) := by
  have h1 : (slotsI L m).getD i 0 ∈ slotsI L m := by
    rw [List.getD_eq_getElem?_getD, List.getElem?_eq_getElem hi]; exact List.getElem_mem _
  obtain ⟨s, hs, he⟩ := List.mem_map.1 h1
  rw [← he]
  obtain ⟨q1, q2⟩ := slotsN_mem.1 hs
  rw [sizeL_in (by omega)]
  exact ⟨q2, by omega, by omega⟩
theorem drop_slot {L : List By} {i : Nat} (hi : i < (slotsI L L.length).length) : dropE L ((slotsI L L.length).getD i 0) = 0 := (drop_ok (slots_get (Nat.le_refl _) hi).1).1
/-- is a slot of the list not at its own place? -/
def holeN (S : List Int) : Nat → Bool
  | 0 => false
  | i + 1 => holeN S i || decide (S.getD i 0 ≠ (i : Int))
theorem slotsN_full {L : List By} : ∀ {m : Nat}, m ≤ freeL L → slotsN L m = List.range m
  | 0, _ => rfl
  | m + 1, h => by
    have hne : (L.getD m []).length ≠ 0 := by
      intro hh
      have := freeL_stop (L := L) (j := m) (by omega) (.inr (List.eq_nil_of_length_eq_zero hh)); omega
    rw [slotsN_go hne, slotsN_full (by omega), List.range_succ]
theorem slotsN_grow {L : List By} {m : Nat} : (slotsN L m).length ≤ (slotsN L (m + 1)).length := by
  by_cases h : (L.getD m []).length = 0
  · rw [slotsN_skip h]; exact Nat.le_refl _
  · rw [slotsN_go h]; simp
theorem slotsN_mono {L : List By} {m : Nat} : ∀ {k : Nat}, (slotsN L m).length ≤ (slotsN L (m + k)).length
  | 0 => Nat.le_refl _
  | k + 1 => Nat.le_trans (slotsN_mono (k := k)) slotsN_grow
theorem holeN_false {S : List Int} {i : Nat} (h : ∀ j, j < i → S.getD j 0 = (j : Int)) : holeN S i = false := by
  induction i with
  | zero => rfl
  | succ i ih => unfold holeN; rw [ih fun j hj => h j (by omega), h i (by omega)]; simp
theorem holeN_true {S : List Int} {i j : Nat} (hj : j < i) (h : S.getD j 0 ≠ (j : Int)) : holeN S i = true := by
  induction i with
  | zero => omega
  | succ i ih =>
    unfold holeN
    by_cases hji : j = i
    · subst hji; rw [decide_eq_true h, Bool.or_true]
    · rw [ih (by omega)]; rfl
theorem hole_free {L : List By} (hT : Trim L) : (holeN (slotsI L L.length) (slotsI L L.length).length = true ↔ freeL L < L.length) := by
  have hle := freeL_le L
  constructor
  · intro h
    refine Classical.byContradiction fun hn => ?_
    have he : L.length = freeL L := by omega
    rw [he] at h
    have : slotsI L (freeL L) = (List.range (freeL L)).map (fun s => ((s : Nat) : Int)) := by unfold slotsI; rw [slotsN_full (Nat.le_refl _)]
    rw [this, holeN_false] at h
    · cases h
    · intro j hj
      simp at hj
      simp [hj]
  · intro h
    obtain ⟨m, hm⟩ : ∃ m, L.length = m + 1 := ⟨L.length - 1, by omega⟩
    have hlast := hT m hm
    have hfm : freeL L ≠ m := fun hh => hlast (hh ▸ freeL_get)
    have h1 : freeL L < (slotsI L L.length).length := by
      have e1 : (slotsN L (freeL L)).length = freeL L := by rw [slotsN_full (Nat.le_refl _)]; simp
      have e2 := slotsN_mono (L := L) (m := freeL L) (k := m - freeL L)
      rw [show freeL L + (m - freeL L) = m by omega] at e2
      have e3 : (slotsN L (m + 1)).length = (slotsN L m).length + 1 := by rw [slotsN_go (fun hh => hlast (List.eq_nil_of_length_eq_zero hh))]; simp
      unfold slotsI; rw [List.length_map, hm]; omega
    refine holeN_true h1 fun hh => ?_
    have := (slots_get (Nat.le_refl _) h1).1
    rw [hh, sizeL_in h, freeL_get] at this
    exact this rfl
theorem left_hole {L : List By} (hT : Trim L) (h : holeN (slotsI L L.length) (slotsI L L.length).length = true) : leftL L (max L.length (freeL L + 1)) = leftL L L.length := by
  have := (hole_free hT).1 h; rw [show max L.length (freeL L + 1) = L.length by omega]
theorem left_dense {L : List By} (hT : Trim L) (h : holeN (slotsI L L.length) (slotsI L L.length).length = false) : leftL L (max L.length (freeL L + 1)) = leftL L L.length - 4 := by
  have h2 : ¬ freeL L < L.length := fun hh => by rw [(hole_free hT).2 hh] at h; cases h
  have := freeL_le L
  rw [show max L.length (freeL L + 1) = L.length + 1 by omega]; unfold leftL; omega
theorem push_full {L : List By} {N : Nat} {r : By} (hN : leftL L (max L.length (freeL L + 1)) = (N : Int)) (h : N < 200) (hr : r.length = N + 1) : putE L r = 25 ∧ putN L r = L := by
  have := put_full (L := L) (badB_f (r := r) (by omega)) (by omega); exact ⟨this.1, this.2.2⟩
theorem push_ok {L : List By} {N : Nat} {r : By} (hN : leftL L (max L.length (freeL L + 1)) = (N : Int)) (h : 1 ≤ N) (hr : r.length = min N 200) :
    putE L r = 0 ∧ putK L r = (freeL L : Int) ∧ dropE (putN L r) (freeL L : Int) = 0 ∧ getL (putN L r) (freeL L : Int) = r ∧ leftL (putN L r) (putN L r).length = (N : Int) - (r.length : Int) := by
  obtain ⟨e1, e2, e3⟩ := put_ok (L := L) (badB_f (r := r) (by omega)) (by omega)
  have hf := freeL_le L
  have hl := layL_len (r := r) hf
  have hs := layL_sum (r := r) hf freeL_get
  have hz : sizeL (layL L (freeL L) r) (freeL L : Int) ≠ 0 := by rw [sizeL_in (by omega), layL_get hf]; omega
  rw [e3]
  refine ⟨e1, e2, (drop_ok hz).1, by rw [getL_in hz]; exact layL_get hf, ?_⟩
  rw [hl]; unfold leftL at hN ⊢; omega
theorem freeL_ne {L : List By} (h : freeL L = L.length) {j : Nat} (hj : j < L.length) : L.getD j [] ≠ [] := fun hh => by
  have := freeL_stop (L := L) (j := j) (by omega) (.inr hh); omega
theorem freeL_up {L : List By} (h : ∀ j, j < L.length → L.getD j [] ≠ []) : ∀ {m : Nat}, m ≤ L.length → m ≤ freeL L
  | 0, _ => Nat.zero_le _
  | m + 1, hm => freeL_go (freeL_up h (by omega)) (by omega) (h m (by omega))
theorem freeL_all {L : List By} (h : ∀ j, j < L.length → L.getD j [] ≠ []) : freeL L = L.length := Nat.le_antisymm (freeL_le L) (freeL_up h (Nat.le_refl _))
theorem fill_full {L : List By} {r : By} {k : Nat} (hf : freeL L = L.length) (hr : r.length = k) (hk : 1 ≤ k ∧ k ≤ 200) (h : leftL L L.length < (k : Int) + 4) : putE L r = 25 ∧ putN L r = L := by
  have := put_full (L := L) (badB_f (r := r) (by omega)) (by rw [hf, show max L.length (L.length + 1) = L.length + 1 by omega]; unfold leftL at h ⊢; omega)
  exact ⟨this.1, this.2.2⟩
theorem fill_ok {L : List By} {r : By} {k : Nat} (hf : freeL L = L.length) (hr : r.length = k) (hk : 1 ≤ k ∧ k ≤ 200) (h : ¬ leftL L L.length < (k : Int) + 4) :
    putE L r = 0 ∧ putK L r = (L.length : Int) ∧ (putN L r).length = L.length + 1 ∧ freeL (putN L r) = (putN L r).length ∧ leftL (putN L r) (putN L r).length = leftL L L.length - (k : Int) - 4 := by
  obtain ⟨e1, e2, e3⟩ := put_ok (L := L) (badB_f (r := r) (by omega)) (by rw [hf, show max L.length (L.length + 1) = L.length + 1 by omega]; unfold leftL at h ⊢; omega)
  rw [hf] at e2 e3
  have hl := layL_len (r := r) (Nat.le_refl L.length)
  have hs := layL_sum (r := r) (Nat.le_refl L.length) (hf ▸ freeL_get)
  have hfr : freeL (layL L L.length r) = (layL L L.length r).length := freeL_all fun j hj => by
    by_cases hjl : j = L.length
    · rw [hjl, layL_get (Nat.le_refl _)]; intro hh; rw [hh] at hr; simp at hr; omega
    · rw [layL_other (Nat.le_refl _) hjl]; exact freeL_ne hf (by omega)
  rw [e3]
  exact ⟨e1, e2, by omega, hfr, by unfold leftL; omega⟩
theorem drop_last {L : List By} (hf : freeL L = L.length) (h : 0 < L.length) :
    dropE L ((L.length : Int) - 1) = 0 ∧ (dropN L ((L.length : Int) - 1)).length + 1 = L.length ∧ freeL (dropN L ((L.length : Int) - 1)) = (dropN L ((L.length : Int) - 1)).length := by
  have e : ((L.length : Int) - 1) = ((L.length - 1 : Nat) : Int) := by omega
  rw [e]
  have hz : sizeL L ((L.length - 1 : Nat) : Int) ≠ 0 := by
    rw [sizeL_in (by omega)]; exact fun hh => freeL_ne hf (j := L.length - 1) (by omega) (List.eq_nil_of_length_eq_zero hh)
  obtain ⟨e1, e2⟩ := drop_ok hz
  rw [e1, e2, Int.toNat_natCast]
  have hset : L.set (L.length - 1) [] = L.take (L.length - 1) ++ [[]] := by
    rw [List.set_eq_take_append_cons_drop, if_pos (by omega), show L.length - 1 + 1 = L.length by omega, List.drop_length]
  have hcut : cutL (L.set (L.length - 1) []) = L.take (L.length - 1) := by
    rw [hset, cutL_nil]
    refine cutL_stop (by omega) ?_
    by_cases h0 : L.length - 1 = 0
    · exact .inl h0
    · exact .inr (freeL_ne hf (by omega))
  rw [hcut]
  have hlen : (L.take (L.length - 1)).length = L.length - 1 := by rw [List.length_take]; omega
  refine ⟨rfl, by omega, freeL_all fun j hj => ?_⟩
  have hne := freeL_ne hf (j := j) (by omega)
  have : (L.take (L.length - 1)).getD j [] = L.getD j [] := by
    simp only [List.getD_eq_getElem?_getD, List.getElem?_take]; rw [if_pos (by omega)]
  rw [this]; exact hne
theorem map_get {A : List ByV} {i : Nat} (h : i < A.length) : (A.map Prod.snd).getD i [] = (A.getD i D0).2 := by
  simp only [List.getD_eq_getElem?_getD, List.getElem?_map, List.getElem?_eq_getElem h, Option.map_some, Option.getD_some]
theorem has_eq {A : List ByV} {k : Int} (h0 : 0 ≤ k) (h1 : k < (A.length : Int)) : decide (sizeL (A.map Prod.snd) k ≠ 0) = decide ((A.getD k.toNat D0).2 ≠ []) := by
  have e : k = ((k.toNat : Nat) : Int) := by omega
  have hk : k.toNat < A.length := by omega
  rw [e, sizeL_in (by simpa using hk), Int.toNat_natCast, map_get hk]
  simp [List.length_eq_zero_iff]
theorem cut_go {B : List ByV} (h : 0 < B.length) (he : (B.getD (B.length - 1) D0).2 = []) : cutL (B.map Prod.snd) = cutL ((B.take (B.length - 1)).map Prod.snd) := by
  have h1 := cutL_go (L := B.map Prod.snd) (m := B.length) h (by simp) (by rw [map_get (by omega)]; exact he)
  rw [List.take_of_length_le (by simp)] at h1
  rw [h1, List.map_take]
theorem cut_stop {B : List ByV} (he : B.length = 0 ∨ (B.getD (B.length - 1) D0).2 ≠ []) : cutL (B.map Prod.snd) = B.map Prod.snd := by
  have h1 := cutL_stop (L := B.map Prod.snd) (m := B.length) (by simp) (by
    rcases he with he | he
    · exact .inl he
    · rcases Nat.eq_zero_or_pos B.length with h0 | h0
      · exact .inl h0
      · exact .inr (by rw [map_get (by omega)]; exact he))
  rwa [List.take_of_length_le (by simp)] at h1
theorem all_one {w : World} {ob e sz : Nat} {A : List ByV} (h : ∀ x9 ∈ A, Own w ob e sz x9.1 x9.2.length (x9.2.map u8v)) : (A.flatMap (fun x9 => [x9.1])).all Value.oneCell' = true := by
  induction A with
  | nil => rfl
  | cons a t ih =>
    simp only [List.flatMap_cons, List.singleton_append, List.all_cons, Bool.and_eq_true]
    exact ⟨(h a (List.mem_cons_self ..)).one, ih fun x hx => h x (List.mem_cons_of_mem _ hx)⟩
/-- the same on lists with their values -/
def layA (A : List ByV) (k : Nat) (x : ByV) : List ByV := if k < A.length then A.set k x else A ++ [x]
theorem layA_map {A : List ByV} {k : Nat} {x : ByV} (h : k ≤ A.length) : (layA A k x).map Prod.snd = layL (A.map Prod.snd) k x.2 := by
  unfold layA layL; rw [List.length_map]; split <;> simp
theorem layA_len {A : List ByV} {k : Nat} {x : ByV} (h : k ≤ A.length) : (layA A k x).length = max A.length (k + 1) := by
  have := congrArg List.length (layA_map (x := x) h); rw [List.length_map, layL_len (by simpa using h)] at this; simpa using this
theorem layA_mem {A : List ByV} {k : Nat} {x y : ByV} (h : y ∈ layA A k x) : y ∈ A ∨ y = x := by
  unfold layA at h; split at h
  · exact List.mem_or_eq_of_mem_set h
  · simpa using h
theorem lay_all {w : World} {ob e k : Nat} {A : List ByV} {v : Value} {r : By} (h : ∀ x9 ∈ A, Own w ob e 1 x9.1 x9.2.length (x9.2.map u8v)) (O : Own w ob e 1 v r.length (r.map u8v)) : ∀ x9 ∈ layA A k (v, r), Own w ob e 1 x9.1 x9.2.length (x9.2.map u8v) := by
  intro x hx
  rcases layA_mem hx with q | q
  · exact h x q
  · subst q; exact O
theorem lay_no {A : List ByV} {k : Nat} {v : Value} {r : By} (h : ∀ x9 ∈ A, NO x9.1 x9.2) (O : NO v r) : ∀ x9 ∈ layA A k (v, r), NO x9.1 x9.2 := by
  intro x hx
  rcases layA_mem hx with q | q
  · exact h x q
  · subst q; exact O
theorem sum_lay_le {L : List By} {k : Nat} {r : By} : sumL (layL L k r) ≤ sumL L + r.length := by
  unfold layL; split
  · rename_i h; have := sumL_set (r := r) h; omega
  · rw [sumL_app, sumL_one]; exact Nat.le_refl _
theorem lay_small {A : List ByV} {k : Nat} {v : Value} {r : By} (h : A.length ≤ 900 ∧ sumL (A.map Prod.snd) ≤ 900000) (hr : r.length ≤ 1000) (hk : k ≤ A.length) : (layA A k (v, r)).length ≤ 1000 ∧ sumL ((layA A k (v, r)).map Prod.snd) ≤ 1000000 := by
  rw [layA_len hk, layA_map hk]
  have := sum_lay_le (L := A.map Prod.snd) (k := k) (r := r)
  exact ⟨by omega, by simp only; omega⟩
def tryB (A : List ByV) (k : Nat) (x : ByV) : Bool := !decide (leftL ((layA A k x).map Prod.snd) (layA A k x).length < 0)
def tryA (A : List ByV) (k : Nat) (x : ByV) : List ByV := if tryB A k x then layA A k x else A
theorem tryA_t {A : List ByV} {k : Nat} {x : ByV} (h : ¬ leftL ((layA A k x).map Prod.snd) (layA A k x).length < 0) : tryB A k x = true ∧ tryA A k x = layA A k x := by
  have : tryB A k x = true := by unfold tryB; rw [decide_eq_false h]; rfl
  exact ⟨this, by unfold tryA; rw [this]; rfl⟩
theorem tryA_f {A : List ByV} {k : Nat} {x : ByV} (h : leftL ((layA A k x).map Prod.snd) (layA A k x).length < 0) : tryB A k x = false ∧ tryA A k x = A := by
  have : tryB A k x = false := by unfold tryB; rw [decide_eq_true h]; rfl
  exact ⟨this, by unfold tryA; rw [this]; rfl⟩
theorem layA_set1 {A : List ByV} {k : Nat} {v : Value} {r : By} (h : k < A.length) : (A.flatMap (fun x9 => [x9.1])).take k ++ [v] ++ (A.flatMap (fun x9 => [x9.1])).drop (k + 1) = (layA A k (v, r)).flatMap (fun x9 => [x9.1]) := by
  unfold layA; rw [if_pos h]; exact set_flat1 A Prod.fst (x := (v, r)) h
theorem layA_set2 {A : List ByV} {k : Nat} {y : ByV} {v : Value} {r : By} (h : k = A.length) : ((A ++ [y]).flatMap (fun x9 => [x9.1])).take k ++ [v] ++ ((A ++ [y]).flatMap (fun x9 => [x9.1])).drop (k + 1) = (layA A k (v, r)).flatMap (fun x9 => [x9.1]) := by
  have e : (A ++ [y]).set k (v, r) = A ++ [(v, r)] := by subst h; simp
  unfold layA; rw [if_neg (by omega), ← e]; exact set_flat1 (A ++ [y]) Prod.fst (x := (v, r)) (by simp; omega)
theorem layA_len1 {A : List ByV} {k : Nat} {x : ByV} (h : k < A.length) : A.length = (layA A k x).length := by rw [layA_len (by omega)]; omega
theorem layA_len2 {A : List ByV} {k : Nat} {x : ByV} (h : k = A.length) : A.length + 1 = (layA A k x).length := by rw [layA_len (by omega)]; omega
theorem try_full {A : List ByV} {k : Nat} {v : Value} {r : By} (hk : k ≤ A.length) (he : (A.map Prod.snd).getD k [] = []) : tryB A k (v, r) = !decide (leftL (A.map Prod.snd) (max A.length (k + 1)) < (r.length : Int)) := by
  unfold tryB
  rw [layA_map hk, layA_len hk]
  have hs := layL_sum (r := r) (show k ≤ (A.map Prod.snd).length by simpa using hk) he
  congr 1
  refine decide_eq_decide.2 ?_
  unfold leftL
  simp only at hs ⊢
  omega
def putA (A : List ByV) (x : ByV) : List ByV := if badB x.2 then A else tryA A (freeL (A.map Prod.snd)) x
theorem free_le (A : List ByV) : freeL (A.map Prod.snd) ≤ A.length := by have := freeL_le (A.map Prod.snd); simpa using this
theorem try_free {A : List ByV} {v : Value} {r : By} : tryB A (freeL (A.map Prod.snd)) (v, r) = !fullB (A.map Prod.snd) r := by
  rw [try_full (free_le A) freeL_get]; unfold fullB; rw [List.length_map]
theorem sput_bad {A : List ByV} {v : Value} {r : By} (h : badB r = true) : putE (A.map Prod.snd) r = 7 ∧ putK (A.map Prod.snd) r = 0 ∧ putA A (v, r) = A := by
  have := put_bad (L := A.map Prod.snd) h; exact ⟨this.1, this.2.1, by unfold putA; rw [h]; rfl⟩
theorem sput_not {A : List ByV} {v : Value} {r : By} (h : badB r = false) (ht : tryB A (freeL (A.map Prod.snd)) (v, r) = false) : putE (A.map Prod.snd) r = 25 ∧ putK (A.map Prod.snd) r = 0 ∧ putA A (v, r) = tryA A (freeL (A.map Prod.snd)) (v, r) := by
  have hf : fullB (A.map Prod.snd) r = true := by rw [try_free] at ht; simpa using ht
  have := put_full (L := A.map Prod.snd) h (of_decide_eq_true hf)
  exact ⟨this.1, this.2.1, by unfold putA; rw [h]; rfl⟩
theorem sput_ok {A : List ByV} {v : Value} {r : By} (h : badB r = false) (ht : tryB A (freeL (A.map Prod.snd)) (v, r) = true) : putE (A.map Prod.snd) r = 0 ∧ putK (A.map Prod.snd) r = (freeL (A.map Prod.snd) : Int) ∧ putA A (v, r) = tryA A (freeL (A.map Prod.snd)) (v, r) := by
  have hf : fullB (A.map Prod.snd) r = false := by rw [try_free] at ht; simpa using ht
  have := put_ok (L := A.map Prod.snd) h (of_decide_eq_false hf)
  exact ⟨this.1, this.2.1, by unfold putA; rw [h]; rfl⟩
theorem putA_map {A : List ByV} {v : Value} {r : By} : (putA A (v, r)).map Prod.snd = putN (A.map Prod.snd) r := by
  unfold putA putN
  cases hb : badB r
  · simp only [hb, Bool.false_eq_true, if_false]
    unfold tryA
    rw [try_free]
    cases hf : fullB (A.map Prod.snd) r
    · simp only [Bool.not_false, if_true, Bool.false_eq_true, if_false]; exact layA_map (free_le A)
    · simp
  · simp [hb]
theorem putA_mem {A : List ByV} {x y : ByV} (h : y ∈ putA A x) : y ∈ A ∨ (y = x ∧ badB x.2 = false) := by
  unfold putA tryA at h
  split at h
  · exact .inl h
  · rename_i hb
    split at h
    · rcases layA_mem h with q | q
      · exact .inl q
      · exact .inr ⟨q, by simpa using hb⟩
    · exact .inl h
def setA (A : List ByV) (k : Int) (x : ByV) : List ByV := if setE (A.map Prod.snd) k x.2 = 0 then A.set k.toNat x else A
theorem setA_map {A : List ByV} {k : Int} {v : Value} {r : By} : (setA A k (v, r)).map Prod.snd = setN (A.map Prod.snd) k r := by
  unfold setA setN; split <;> simp
theorem setA_mem {A : List ByV} {k : Int} {x y : ByV} (h : y ∈ setA A k x) : y ∈ A ∨ (y = x ∧ badB x.2 = false) := by
  unfold setA at h; split at h
  · rename_i he
    rcases List.mem_or_eq_of_mem_set h with q | q
    · exact .inl q
    · refine .inr ⟨q, ?_⟩
      cases hb : badB x.2 with
      | false => rfl
      | true =>
        exfalso
        unfold setE at he
        split at he
        · cases he
        · cases he
  · exact .inl h
theorem sset_none {A : List ByV} {k : Int} {v : Value} {r : By} (h : sizeL (A.map Prod.snd) k = 0) : setE (A.map Prod.snd) k r = 22 ∧ setA A k (v, r) = A := by
  have := set_none (r := r) h; exact ⟨this.1, by unfold setA; simp only; rw [this.1]; rfl⟩
theorem sset_bad {A : List ByV} {k : Int} {v : Value} {r : By} (h : sizeL (A.map Prod.snd) k ≠ 0) (hb : badB r = true) : setE (A.map Prod.snd) k r = 7 ∧ setA A k (v, r) = A := by
  have := set_bad (r := r) h hb; exact ⟨this.1, by unfold setA; simp only; rw [this.1]; rfl⟩
theorem try_set {A : List ByV} {k : Int} {v : Value} {r : By} (h : sizeL (A.map Prod.snd) k ≠ 0) : tryB A k.toNat (v, r) = !decide (leftL (A.map Prod.snd) (A.map Prod.snd).length + (sizeL (A.map Prod.snd) k : Int) < (r.length : Int)) := by
  have hk := sizeL_nat h
  rw [List.length_map] at hk
  have hkn : k.toNat < (A.map Prod.snd).length := by rw [List.length_map]; omega
  have hs := sumL_set (r := r) hkn
  have hz : sizeL (A.map Prod.snd) k = ((A.map Prod.snd).getD k.toNat []).length := by rw [← getL_len, getL_in h]
  unfold tryB
  rw [layA_map (by omega), layA_len (by omega), hz]
  congr 1
  refine decide_eq_decide.2 ?_
  unfold layL leftL
  rw [if_pos hkn, List.length_map]
  simp only at hs ⊢
  omega
theorem sset_not {A : List ByV} {k : Int} {v : Value} {r : By} (h : sizeL (A.map Prod.snd) k ≠ 0) (hb : badB r = false) (ht : tryB A k.toNat (v, r) = false) : setE (A.map Prod.snd) k r = 25 ∧ setA A k (v, r) = tryA A k.toNat (v, r) := by
  have hf : leftL (A.map Prod.snd) (A.map Prod.snd).length + (sizeL (A.map Prod.snd) k : Int) < (r.length : Int) := by
    rw [try_set h] at ht; simpa using ht
  have := set_full (r := r) h hb hf
  exact ⟨this.1, by unfold setA tryA; simp only; rw [this.1, ht]; rfl⟩
theorem sset_ok {A : List ByV} {k : Int} {v : Value} {r : By} (h : sizeL (A.map Prod.snd) k ≠ 0) (hb : badB r = false) (ht : tryB A k.toNat (v, r) = true) : setE (A.map Prod.snd) k r = 0 ∧ setA A k (v, r) = tryA A k.toNat (v, r) := by
  have hf : ¬ leftL (A.map Prod.snd) (A.map Prod.snd).length + (sizeL (A.map Prod.snd) k : Int) < (r.length : Int) := by
    rw [try_set h] at ht; simpa using ht
  have hk := sizeL_nat h
  rw [List.length_map] at hk
  have := set_ok (r := r) h hb hf
  exact ⟨this.1, by unfold setA tryA layA; simp only; rw [this.1, ht, if_pos rfl, if_pos rfl, if_pos (by omega)]⟩
theorem drop_val (L : List By) (k : Int) : dropE L k = 0 ∨ dropE L k = 22 := by unfold dropE; split <;> simp
theorem slotsN_pre {L : List By} {m : Nat} : ∀ {d : Nat}, ∃ t, slotsN L (m + d) = slotsN L m ++ t
  | 0 => ⟨[], by simp⟩
  | d + 1 => by
    obtain ⟨t, ht⟩ := slotsN_pre (L := L) (m := m) (d := d)
    by_cases h : (L.getD (m + d) []).length = 0
    · exact ⟨t, by rw [show m + (d + 1) = m + d + 1 by omega, slotsN_skip h, ht]⟩
    · exact ⟨t ++ [m + d], by rw [show m + (d + 1) = m + d + 1 by omega, slotsN_go h, ht, List.append_assoc]⟩
theorem slots_at {L : List By} {k : Nat} (hk : k < L.length) (h : (L.getD k []).length ≠ 0) : (slotsI L k).length < (slotsI L L.length).length ∧ (slotsI L L.length).getD (slotsI L k).length 0 = (k : Int) := by
  obtain ⟨t, ht⟩ := slotsN_pre (L := L) (m := k + 1) (d := L.length - (k + 1))
  rw [show k + 1 + (L.length - (k + 1)) = L.length by omega, slotsN_go h] at ht
  have e : slotsI L L.length = slotsI L k ++ (((k : Nat) : Int) :: t.map (fun s => ((s : Nat) : Int))) := by unfold slotsI; rw [ht]; simp
  rw [e]
  exact ⟨by simp, by simp [List.getD_eq_getElem?_getD]⟩
theorem slotsI_out {L : List By} {m : Nat} (h : L.length ≤ m) : slotsI L (m + 1) = slotsI L m := slotsI_skip (by simp [List.getD_eq_getElem?_getD, h])
theorem slots_step0 {L : List By} {j : Nat} (h : sizeL L ((j : Int) - 1) = 0) : (slotsI L j).length = (slotsI L (j - 1)).length := by
  cases j with
  | zero => rfl
  | succ m =>
    rw [show ((m + 1 : Nat) : Int) - 1 = ((m : Nat) : Int) by omega] at h
    by_cases hm : m < L.length
    · rw [sizeL_in hm] at h; rw [slotsI_skip h]; rfl
    · rw [slotsI_out (by omega)]; rfl
theorem slots_step1 {L : List By} {j : Nat} (h : sizeL L ((j : Int) - 1) ≠ 0) : 0 < j ∧ j - 1 < L.length ∧ (slotsI L j).length = (slotsI L (j - 1)).length + 1 ∧ (L.getD (j - 1) []).length ≠ 0 := by
  have hk := sizeL_nat h
  obtain ⟨m, rfl⟩ : ∃ m, j = m + 1 := ⟨j - 1, by omega⟩
  rw [show ((m + 1 : Nat) : Int) - 1 = ((m : Nat) : Int) by omega, sizeL_in (by omega)] at h
  exact ⟨by omega, by omega, by rw [slotsI_go h, List.length_append]; rfl, h⟩
theorem el_flat {α : Type} {f : α → List Value} {sz : Nat} (hf : ∀ u, (f u).length = sz) (hp : 0 < sz) {l : List α} {d : α} {e : Int} {i : Nat} (he : e = (i : Int)) (h : i < l.length) {j : Nat} {u : Value} (hu : (f (l.getD i d))[j]? = some u) :
    (l.flatMap f)[e.toNat * sz + j]? = some u := by
  have hj : j < sz := by rw [← hf (l.getD i d)]; exact (List.getElem?_eq_some_iff.1 hu).1
  subst he
  rw [flat_get hp l fun v _ => hf v]
  have e1 : ((i : Int).toNat * sz + j) / sz = i := by rw [Int.toNat_natCast, Nat.add_comm, Nat.add_mul_div_right _ _ hp, Nat.div_eq_of_lt hj, Nat.zero_add]
  have e2 : ((i : Int).toNat * sz + j) % sz = j := by rw [Int.toNat_natCast, Nat.add_comm, Nat.add_mul_mod_self_right, Nat.mod_eq_of_lt hj]
  rw [e1, e2, List.getElem?_eq_getElem h]
  simpa [List.getD_eq_getElem?_getD, h] using hu
/-- what is done with a page -/
structure OpV where
  k : Int
  s : Int
  z : Int
  x : UInt8
def O0 : OpV := ⟨0, 0, 0, 0⟩
def cellsOp (o : OpV) : List Value := [.int .i64 o.k, .int .i64 o.s, .int .i64 o.z, .int .u8 (o.x.toNat : Int)]
structure OkOp (o : OpV) : Prop where
  k : -9223372036854775808 ≤ o.k ∧ o.k ≤ 9223372036854775807
  s : -9223372036854775808 ≤ o.s ∧ o.s ≤ 9223372036854775807
  z : -9223372036854775808 ≤ o.z ∧ o.z ≤ 9223372036854775807
theorem el_op {l : List OpV} {e : Int} {i j : Nat} {u : Value} (he : e = (i : Int)) (h : i < l.length) (hu : (cellsOp (l.getD i O0))[j]? = some u) : (l.flatMap cellsOp)[e.toNat * 4 + j]? = some u :=
  el_flat (f := cellsOp) (sz := 4) (fun _ => rfl) (by decide) he h hu
theorem tmod7 (k : Int) : -7 < k.tmod 7 ∧ k.tmod 7 < 7 := by
  rw [Int.tmod_eq_emod]; split <;> omega
theorem add_u8 {x y : UInt8} : IntKind.u8.wrap ((x.toNat : Int) + (y.toNat : Int)) = ((x + y).toNat : Int) := by
  rw [UInt8.toNat_add]; show ((((x.toNat : Int) + (y.toNat : Int)) % 256 : Int)) = _; omega
theorem small_of {A : List ByV} {L : List By} (h : A.map Prod.snd = L) (hf : L.length ≤ 62 ∧ sumL L + 4 * L.length ≤ 248) : A.length ≤ 900 ∧ sumL (A.map Prod.snd) ≤ 900000 := by
  have := congrArg List.length h; rw [List.length_map] at this; rw [h]; omega
theorem set_small {A : List ByV} {k : Nat} {v : Value} (h : A.length ≤ 900 ∧ sumL (A.map Prod.snd) ≤ 900000) : (A.set k (v, [])).length ≤ 900 ∧ sumL ((A.set k (v, [])).map Prod.snd) ≤ 900000 := by
  refine ⟨by rw [List.length_set]; exact h.1, ?_⟩
  rw [List.map_set]; show sumL ((A.map Prod.snd).set k []) ≤ 900000
  by_cases hk : k < (A.map Prod.snd).length
  · have := sumL_set (r := []) hk; simp only [List.length_nil] at this; omega
  · rw [List.set_eq_of_length_le (by omega)]; exact h.2
theorem all_of {α : Type} {A B : List α} {T : α → Prop} (h : ∀ x ∈ A, T x) (hs : ∀ x ∈ B, x ∈ A) : ∀ x ∈ B, T x := fun x hx => h x (hs x hx)
theorem put_of {A : List ByV} {x : ByV} {T : ByV → Prop} (h : ∀ y ∈ A, T y) (hx : badB x.2 = false → T x) : ∀ y ∈ putA A x, T y := fun y hy => by
  rcases putA_mem hy with q | ⟨rfl, q⟩
  · exact h y q
  · exact hx q
theorem setA_of {A : List ByV} {k : Int} {x : ByV} {T : ByV → Prop} (h : ∀ y ∈ A, T y) (hx : badB x.2 = false → T x) : ∀ y ∈ setA A k x, T y := fun y hy => by
  rcases setA_mem hy with q | ⟨rfl, q⟩
  · exact h y q
  · exact hx q
theorem nil_of {A : List ByV} {k : Nat} {x : ByV} {T : ByV → Prop} (h : ∀ y ∈ A, T y) (hx : T x) : ∀ y ∈ A.set k x, T y := fun y hy => by
  rcases List.mem_or_eq_of_mem_set hy with q | q
  · exact h y q
  · rw [q]; exact hx
theorem no_of {w : World} {base e : Nat} {v : Value} {r : By} (O : Own w base e 1 v r.length (r.map u8v)) (h : badB r = false) : NO v r := by
  have hr : 0 < r.length := Nat.pos_of_ne_zero fun hh => by rw [badB_t (.inl hh)] at h; cases h
  exact O.no (fun hh => by rw [hh] at hr; simp at hr) hr
end Go.Proofs.Ytdhpalioifjfbaa

/- Walks, written by a program: what each function of the translation hands back. -/
namespace Go.Proofs.Ytdhpalioifjfbaa
open Go.Gx Go.RowKit
attribute [local irreducible] wpList wpStill Code.wp Calls

theorem sfree_ret (A : List ByV) (sv : Value) (sb ob s : Nat) (w : World) (hA : A.length ≤ 1000 ∧ sumL (A.map Prod.snd) ≤ 1000000) (hs : Bx w s 40 [sv]) (OS : Own w sb 22 1 sv A.length (A.flatMap (fun x9 => [x9.1]))) (hall : ∀ x9 ∈ A, Own w ob 5 1 x9.1 x9.2.length (x9.2.map u8v)) (hno : ∀ x9 ∈ A, NO x9.1 x9.2)  : Ret Try.prog 45 #[(ptr s 0)] w (fun v' w' => Below w.heap.size w w' ∧ v' = .int .i64 (leftL (A.map Prod.snd) A.length)) := by
 have hb := Below.refl w.heap.size w
 refine enter (N := 32) Try.func45 rfl rfl (by simp) fun a0 hN hd hA => ?_
 have s0 : a0.tmps.getD 0 undef = (ptr s 0) := hA 0 (by simp)
 clear hA
 refine seq_any fun K1 hK1 => ?_
 refine one_reg ?_
 refine op_assign rfl ?_
 refine reg_nil ?_
 refine hK1 _ _ ?_
 refine seq_any fun K2 hK2 => ?_
 refine one_reg ?_
 refine op_move (ev_base hN rfl s0) ?_
 refine op_nil (ev_hit hN rfl) ?_
 refine op_field fld40_0 (ev_hit hN rfl) ?_
 refine op_load1 (v := sv) one38 (ev_hit hN rfl) (hs.cell rfl) ?_
 refine op_len_rd Try.underlying38 (ev_hit hN rfl) OS.rdw ?_
 refine op_mul rfl (ev_hit hN rfl) (mul64 (by omega)) ?_
 refine op_sub rfl (ev_hit hN rfl) (sub64 (by omega)) ?_
 refine op_assign (ev_hit hN rfl) ?_
 refine reg_nil ?_
 refine hK2 _ _ ?_
 refine seq_any fun K3 hK3 => ?_
 refine seq_any fun K4 hK4 => ?_
 refine one_reg ?_
 refine op_assign rfl ?_
 refine reg_nil ?_
 refine hK4 _ _ ?_
 refine wp_block ?_
 refine loop_m (fun mz_ az_ w' => ∃ (i : Nat), mz_ = A.length - i ∧ (az_.tmps.getD 0 undef = (ptr s 0)) ∧ (az_.tmps.getD 2 undef = (Value.int .i64 0)) ∧ (az_.tmps.getD 4 undef = (Value.int .i64 ((i : Nat) : Int))) ∧ (az_.tmps.getD 3 undef = (Value.int .i64 (248 - 4 * ((A.length : Nat) : Int) - ((sumL ((A.map Prod.snd).take i) : Nat) : Int)))) ∧ (i ≤ A.length) ∧ (Below w.heap.size w w') ∧ (w.heap.size ≤ w'.heap.size) ∧ (Bx w' s 40 [sv]) ∧ (Own w' sb 22 1 sv A.length (A.flatMap (fun x9 => [x9.1]))) ∧ (∀ x9 ∈ A, Own w' ob 5 1 x9.1 x9.2.length (x9.2.map u8v))) _ hN hd ⟨0, rfl, (sl_base hN rfl s0), (sl_hit hN rfl), (sl_hit hN rfl), (sl_hit hN rfl).trans (congrArg (Value.int .i64) (by rw [List.take_zero, show sumL [] = 0 from rfl]; omega)), Nat.zero_le _, hb, (Nat.le_refl _), hs, OS, hall⟩ ?_
 rintro _ a5 w5 hN5 hd5 ⟨i, rfl, s5_0, s5_2, s5_4, s5_3, hi, hb, zl_w5, hs, OS, hall⟩
 have z_w5 := hb.size
 refine seq_any fun K6 hK6 => ?_
 refine seq_any fun K7 hK7 => ?_
 refine one_reg ?_
 refine op_move (ev_base hN5 rfl s5_4) ?_
 refine op_move (ev_base hN5 rfl s5_0) ?_
 refine op_nil (ev_hit hN5 rfl) ?_
 refine op_field fld40_0 (ev_hit hN5 rfl) ?_
 refine op_load1 (v := sv) one38 (ev_hit hN5 rfl) (hs.cell rfl) ?_
 refine op_len_rd Try.underlying38 (ev_hit hN5 rfl) OS.rdw ?_
 refine op_lss (ev_hit hN5 rfl) (ev_hit hN5 rfl) (fun c18 => ?_) (fun c18 => ?_)
 · -- 18T
  refine reg_nil ?_
  refine hK7 _ _ ?_
  refine wp_cond_true (ev_hit hN5 rfl) ?_
  refine wp_skip ?_
  refine hK6 _ _ ?_
  refine seq_any fun K8 hK8 => ?_
  refine wp_block ?_
  refine one_reg ?_
  have hts := sumL_take_le (A.map Prod.snd) i
  have hts2 := sumL_take_le (A.map Prod.snd) (i + 1)
  have hge := getD_le_sum (L := (A.map Prod.snd)) (i := i) (by simpa using (by omega : i < A.length))
  rw [map_get (by omega)] at hge
  refine op_move (ev_base hN5 rfl s5_3) ?_
  refine op_move (ev_base hN5 rfl s5_0) ?_
  refine op_nil (ev_hit hN5 rfl) ?_
  refine op_field fld40_0 (ev_hit hN5 rfl) ?_
  refine op_load1 (v := sv) one38 (ev_hit hN5 rfl) (hs.cell rfl) ?_
  refine op_move (ev_base hN5 rfl s5_4) ?_
  refine op_index_rd slt38 (ev_hit hN5 rfl) OS.rdw (ev_hit hN5 rfl) (by omega) (by omega) ?_
  intro b9 o10 h0b9 h1b9 hc11
  have hs12 : Own w5 ob 5 1 (A.getD i D0).1 (A.getD i D0).2.length ((A.getD i D0).2.map u8v) := hall _ (getD_mem (by omega))
  refine op_load1 (v := (A.getD i D0).1) one22 (ev_hit hN5 rfl) (by have := hc11 0 (A.getD i D0).1 (by decide) (el_ll (i := i) (d := D0) (by omega) (by omega)); simpa using this) ?_
  refine op_len_rd Try.underlying22 (ev_hit hN5 rfl) hs12.rdw ?_
  refine op_sub (ev_hit hN5 rfl) (ev_hit hN5 rfl) (sub64 (by omega)) ?_
  refine op_assign (ev_hit hN5 rfl) ?_
  refine reg_nil ?_
  refine hK8 _ _ ?_
  refine one_reg ?_
  refine op_move (ev_base hN5 rfl s5_4) ?_
  refine op_add (ev_hit hN5 rfl) rfl (add64 (by omega)) ?_
  refine op_assign (ev_hit hN5 rfl) ?_
  refine reg_nil ?_
  -- round 18T
  have hst := sumL_step (L := (A.map Prod.snd)) (i := i) (by simpa using (by omega : i < A.length))
  have hmg := map_get (A := A) (i := i) (by omega)
  rw [hmg] at hst
  exact loop_next _ hN5 hd5 ⟨i + 1, rfl, (sl_base hN5 rfl s5_0), (sl_base hN5 rfl s5_2), (sl_hit hN5 rfl).trans (congrArg (Value.int .i64) (by omega)), (sl_hit hN5 rfl).trans (congrArg (Value.int .i64) (by omega)), (by omega), hb, (by omega), hs, OS, hall⟩ (by omega)
 · -- 18F
  refine reg_nil ?_
  refine hK7 _ _ ?_
  refine wp_cond_false (ev_hit hN5 rfl) ?_
  refine wp_exit (then_exit (then_exit (blk_hit ?_)))
  refine hK3 _ _ ?_
  refine seq_any fun K13 hK13 => ?_
  refine one_reg ?_
  refine op_move (ev_base hN5 rfl s5_3) ?_
  refine op_assign (ev_hit hN5 rfl) ?_
  refine reg_nil ?_
  refine hK13 _ _ ?_
  refine wp_ret ?_
  refine ret1 rfl hd5 (ev_hit hN5 rfl) ⟨_, rfl, ?_⟩
  -- path 18F
  exact ⟨hb, congrArg (Value.int .i64) (by rw [List.take_of_length_le (by simp; omega)]; unfold leftL; omega)⟩

theorem shas_ret (A : List ByV) (sv : Value) (sb ob s : Nat) (w : World) (hA : A.length ≤ 1000 ∧ sumL (A.map Prod.snd) ≤ 1000000) (hs : Bx w s 40 [sv]) (OS : Own w sb 22 1 sv A.length (A.flatMap (fun x9 => [x9.1]))) (hall : ∀ x9 ∈ A, Own w ob 5 1 x9.1 x9.2.length (x9.2.map u8v)) (hno : ∀ x9 ∈ A, NO x9.1 x9.2) (k : Int) (hk : -9223372036854775808 ≤ k ∧ k ≤ 9223372036854775807) : Ret Try.prog 18 #[(ptr s 0), (Value.int .i64 k)] w (fun v' w' => Below w.heap.size w w' ∧ v' = .bool (decide (sizeL (A.map Prod.snd) k ≠ 0))) := by
 have hb := Below.refl w.heap.size w
 refine enter (N := 26) Try.func18 rfl rfl (by simp) fun a0 hN hd hA => ?_
 have s0 : a0.tmps.getD 0 undef = (ptr s 0) := hA 0 (by simp)
 have s1 : a0.tmps.getD 1 undef = (Value.int .i64 k) := hA 1 (by simp)
 clear hA
 refine seq_any fun K14 hK14 => ?_
 refine one_reg ?_
 refine op_assign rfl ?_
 refine reg_nil ?_
 refine hK14 _ _ ?_
 refine seq_any fun K15 hK15 => ?_
 refine one_reg ?_
 refine op_move (ev_base hN rfl s1) ?_
 refine op_geq (ev_hit hN rfl) rfl (fun c6 => ?_) (fun c6 => ?_)
 · -- 6T
  refine op_move (ev_hit hN rfl) ?_
  refine g_true (j := 2) (dj := 7) (b := true) rfl rfl rfl (ev_hit hN rfl) ?_
  refine op_move (ev_base hN rfl s1) ?_
  refine g_true (j := 2) (dj := 7) (b := true) rfl rfl rfl (ev_hit hN rfl) ?_
  refine op_move (ev_base hN rfl s0) ?_
  refine g_true (j := 2) (dj := 7) (b := true) rfl rfl rfl (ev_hit hN rfl) ?_
  refine op_nil (ev_hit hN rfl) ?_
  refine g_true (j := 2) (dj := 7) (b := true) rfl rfl rfl (ev_hit hN rfl) ?_
  refine op_field fld40_0 (ev_hit hN rfl) ?_
  refine g_true (j := 2) (dj := 7) (b := true) rfl rfl rfl (ev_hit hN rfl) ?_
  refine op_load1 (v := sv) one38 (ev_hit hN rfl) (hs.cell rfl) ?_
  refine g_true (j := 2) (dj := 7) (b := true) rfl rfl rfl (ev_hit hN rfl) ?_
  refine op_len_rd Try.underlying38 (ev_hit hN rfl) OS.rdw ?_
  refine g_true (j := 2) (dj := 7) (b := true) rfl rfl rfl (ev_hit hN rfl) ?_
  refine op_lss (ev_hit hN rfl) (ev_hit hN rfl) (fun c14 => ?_) (fun c14 => ?_)
  · -- 14T
   refine op_pick_t (ev_hit hN rfl) (ev_hit hN rfl) ?_
   refine op_move (ev_hit hN rfl) ?_
   refine g_true (j := 11) (dj := 16) (b := true) rfl rfl rfl (ev_hit hN rfl) ?_
   refine op_move (ev_base hN rfl s0) ?_
   refine g_true (j := 11) (dj := 16) (b := true) rfl rfl rfl (ev_hit hN rfl) ?_
   refine op_nil (ev_hit hN rfl) ?_
   refine g_true (j := 11) (dj := 16) (b := true) rfl rfl rfl (ev_hit hN rfl) ?_
   refine op_field fld40_0 (ev_hit hN rfl) ?_
   refine g_true (j := 11) (dj := 16) (b := true) rfl rfl rfl (ev_hit hN rfl) ?_
   refine op_load1 (v := sv) one38 (ev_hit hN rfl) (hs.cell rfl) ?_
   refine g_true (j := 11) (dj := 16) (b := true) rfl rfl rfl (ev_hit hN rfl) ?_
   refine op_move ((ev_base hN rfl s1).trans (congrArg (Value.int .i64) (show _ = ((k.toNat : Nat) : Int) by omega))) ?_
   refine g_true (j := 11) (dj := 16) (b := true) rfl rfl rfl (ev_hit hN rfl) ?_
   refine op_index_rd slt38 (ev_hit hN rfl) OS.rdw (ev_hit hN rfl) (by omega) (by omega) ?_
   intro b16 o17 h0b16 h1b16 hc18
   refine g_true (j := 11) (dj := 16) (b := true) rfl rfl rfl (ev_hit hN rfl) ?_
   have hs19 : Own w ob 5 1 (A.getD k.toNat D0).1 (A.getD k.toNat D0).2.length ((A.getD k.toNat D0).2.map u8v) := hall _ (getD_mem (by omega))
   refine op_load1 (v := (A.getD k.toNat D0).1) one22 (ev_hit hN rfl) (by have := hc18 0 (A.getD k.toNat D0).1 (by decide) (el_ll (i := k.toNat) (d := D0) (by omega) (by omega)); simpa using this) ?_
   refine g_true (j := 11) (dj := 16) (b := true) rfl rfl rfl (ev_hit hN rfl) ?_
   refine op_neq_no Try.underlying22 (ev_hit hN rfl) rfl (hno _ (getD_mem (by omega))) ?_
   refine op_pick_t (ev_hit hN rfl) (ev_hit hN rfl) ?_
   refine op_assign (ev_hit hN rfl) ?_
   refine reg_nil ?_
   refine hK15 _ _ ?_
   refine wp_ret ?_
   refine ret1 rfl hd (ev_hit hN rfl) ⟨_, rfl, ?_⟩
   -- path 6T 14T
   exact ⟨hb, congrArg Value.bool (has_eq (by omega) (by omega)).symm⟩
  · -- 14F
   refine op_pick_t (ev_hit hN rfl) (ev_hit hN rfl) ?_
   refine op_move (ev_hit hN rfl) ?_
   refine g_false (j := 11) (dj := 16) (b := true) rfl rfl rfl (ev_hit hN rfl) rfl rfl ?_
   refine g_false (j := 11) (dj := 16) (b := true) rfl rfl rfl (ev_hit hN rfl) rfl rfl ?_
   refine g_false (j := 11) (dj := 16) (b := true) rfl rfl rfl (ev_hit hN rfl) rfl rfl ?_
   refine g_false (j := 11) (dj := 16) (b := true) rfl rfl rfl (ev_hit hN rfl) rfl rfl ?_
   refine g_false (j := 11) (dj := 16) (b := true) rfl rfl rfl (ev_hit hN rfl) rfl rfl ?_
   refine g_false (j := 11) (dj := 16) (b := true) rfl rfl rfl (ev_hit hN rfl) rfl rfl ?_
   refine g_false (j := 11) (dj := 16) (b := true) rfl rfl rfl (ev_hit hN rfl) rfl rfl ?_
   refine g_false (j := 11) (dj := 16) (b := true) rfl rfl rfl (ev_hit hN rfl) rfl rfl ?_
   refine op_pick_f (ev_hit hN rfl) rfl ?_
   refine op_assign (ev_hit hN rfl) ?_
   refine reg_nil ?_
   refine hK15 _ _ ?_
   refine wp_ret ?_
   refine ret1 rfl hd (ev_hit hN rfl) ⟨_, rfl, ?_⟩
   -- path 6T 14F
   exact ⟨hb, congrArg Value.bool (decide_eq_false (by rw [sizeL_out (by simp only [List.length_map]; omega)]; simp)).symm⟩
 · -- 6F
  refine op_move (ev_hit hN rfl) ?_
  refine g_false (j := 2) (dj := 7) (b := true) rfl rfl rfl (ev_hit hN rfl) rfl rfl ?_
  refine g_false (j := 2) (dj := 7) (b := true) rfl rfl rfl (ev_hit hN rfl) rfl rfl ?_
  refine g_false (j := 2) (dj := 7) (b := true) rfl rfl rfl (ev_hit hN rfl) rfl rfl ?_
  refine g_false (j := 2) (dj := 7) (b := true) rfl rfl rfl (ev_hit hN rfl) rfl rfl ?_
  refine g_false (j := 2) (dj := 7) (b := true) rfl rfl rfl (ev_hit hN rfl) rfl rfl ?_
  refine g_false (j := 2) (dj := 7) (b := true) rfl rfl rfl (ev_hit hN rfl) rfl rfl ?_
  refine g_false (j := 2) (dj := 7) (b := true) rfl rfl rfl (ev_hit hN rfl) rfl rfl ?_
  refine op_pick_f (ev_hit hN rfl) rfl ?_
  refine op_move (ev_hit hN rfl) ?_
  refine g_false (j := 11) (dj := 16) (b := true) rfl rfl rfl (ev_hit hN rfl) rfl rfl ?_
  refine g_false (j := 11) (dj := 16) (b := true) rfl rfl rfl (ev_hit hN rfl) rfl rfl ?_
  refine g_false (j := 11) (dj := 16) (b := true) rfl rfl rfl (ev_hit hN rfl) rfl rfl ?_
  refine g_false (j := 11) (dj := 16) (b := true) rfl rfl rfl (ev_hit hN rfl) rfl rfl ?_
  refine g_false (j := 11) (dj := 16) (b := true) rfl rfl rfl (ev_hit hN rfl) rfl rfl ?_
  refine g_false (j := 11) (dj := 16) (b := true) rfl rfl rfl (ev_hit hN rfl) rfl rfl ?_
  refine g_false (j := 11) (dj := 16) (b := true) rfl rfl rfl (ev_hit hN rfl) rfl rfl ?_
  refine g_false (j := 11) (dj := 16) (b := true) rfl rfl rfl (ev_hit hN rfl) rfl rfl ?_
  refine op_pick_f (ev_hit hN rfl) rfl ?_
  refine op_assign (ev_hit hN rfl) ?_
  refine reg_nil ?_
  refine hK15 _ _ ?_
  refine wp_ret ?_
  refine ret1 rfl hd (ev_hit hN rfl) ⟨_, rfl, ?_⟩
  -- path 6F
  exact ⟨hb, congrArg Value.bool (decide_eq_false (by rw [sizeL_out (by simp only [List.length_map]; omega)]; simp)).symm⟩

end Go.Proofs.Ytdhpalioifjfbaa

/- Walks, written by a program: what each function of the translation hands back. -/
namespace Go.Proofs.Ytdhpalioifjfbaa
open Go.Gx Go.RowKit
attribute [local irreducible] wpList wpStill Code.wp Calls

theorem stry_ret (A : List ByV) (sv : Value) (sb ob s : Nat) (w : World) (hA : A.length ≤ 1000 ∧ sumL (A.map Prod.snd) ≤ 1000000) (hs : Bx w s 40 [sv]) (OS : Own w sb 22 1 sv A.length (A.flatMap (fun x9 => [x9.1]))) (hall : ∀ x9 ∈ A, Own w ob 5 1 x9.1 x9.2.length (x9.2.map u8v)) (hno : ∀ x9 ∈ A, NO x9.1 x9.2) (hA2 : A.length ≤ 900 ∧ sumL (A.map Prod.snd) ≤ 900000) (hsb : sb ≤ w.heap.size) (r : By) (bv : Value) (hbv : Own w ob 5 1 bv r.length (r.map u8v)) (hr : 0 < r.length) (hrl : r.length ≤ 1000) (k : Nat) (hk : k ≤ A.length) : Ret Try.prog 44 #[(ptr s 0), (Value.int .i64 ((k : Nat) : Int)), bv] w (fun v' w' => w.grownBy w' (some s) ∧ v' = .bool (tryB A k (bv, r)) ∧ ∃ (u : Value), Bx w' s 40 [u] ∧ Own w' sb 22 1 u (tryA A k (bv, r)).length ((tryA A k (bv, r)).flatMap (fun x9 => [x9.1]))) := by
 have hslt := hs.lt
 have hb := grown_refl w (some s)
 refine enter (N := 49) Try.func44 rfl rfl (by simp) fun a0 hN hd hA => ?_
 have s0 : a0.tmps.getD 0 undef = (ptr s 0) := hA 0 (by simp)
 have s1 : a0.tmps.getD 1 undef = (Value.int .i64 ((k : Nat) : Int)) := hA 1 (by simp)
 have s2 : a0.tmps.getD 2 undef = bv := hA 2 (by simp)
 clear hA
 refine seq_any fun K1 hK1 => ?_
 refine one_reg ?_
 refine op_assign rfl ?_
 refine reg_nil ?_
 refine hK1 _ _ ?_
 refine seq_any fun K2 hK2 => ?_
 refine one_reg ?_
 refine op_bslice (e := 22) (pv := []) (cs := []) trivial (by kernel_rfl) ?_
 intro w3 b4 lo_b4 hi_b4 hB6 E5
 have ne_b4_sv : sv.ownBlock ≠ some b4 := fun hh => by have := (OS.lt _ hh).2; omega
 have z_w3 := E5.size
 have hs := hs.keep0 E5
 have OS := OS.keep0 E5
 have hall : ∀ x9 ∈ A, Own w3 ob 5 1 x9.1 x9.2.length (x9.2.map u8v) := fun x9 hx9 => (hall x9 hx9).keep0 E5
 have hbv := hbv.keep0 E5
 have hb := grow_step0 hb E5
 refine op_move (ev_base hN rfl s0) ?_
 refine op_nil (ev_hit hN rfl) ?_
 refine op_field fld40_0 (ev_hit hN rfl) ?_
 refine op_load1 (v := sv) one38 (ev_hit hN rfl) (hs.cell rfl) ?_
 have hP12 := (Own.ofBx (base := w.heap.size) (sz := 1) (n := 0) hB6 rfl (by decide) (by omega))
 refine op_append slt38 (ev_hit hN rfl) hP12 (ev_hit hN rfl) (Src.ofRd Try.underlying38 (by decide) OS.rdw (all_one hall)) (by unfold maxLen; omega) (by omega) hb.size ?_
 intro v7 w8 hO10 E9 hm11
 have dj13 : DJ sv (Value.slice (some ⟨b4, 0, none⟩) 0 0) := fun k hk hg => by simp [Value.ownBlock] at hg; subst hg; exact ne_b4_sv hk
 have dj14 : DJ sv v7 := DJ.step hm11 (fun k hk => (OS.lt k hk).2) dj13
 have z_w8 := E9.size
 have hs := hs.keep E9 (by simp [Value.ownBlock]; try omega)
 have OS := OS.keepD E9 dj13
 have hall : ∀ x9 ∈ A, Own w8 ob 5 1 x9.1 x9.2.length (x9.2.map u8v) := fun x9 hx9 => (hall x9 hx9).keepT hP12 E9 (by decide)
 have hbv := hbv.keepT hP12 E9 (by decide)
 have hb := grow_stepO hb hP12 E9 (by omega)
 have hO10 : Own w8 w.heap.size 22 1 v7 A.length ((A).flatMap (fun x9 => [x9.1])) := by exact hO10.cast (by omega) (by simp)
 refine op_build (pv := [(0, v7)]) (v := (Value.agg #[v7])) ⟨rfl, (ev_hit hN rfl), trivial⟩ (by obtain ⟨_, _, _, rfl⟩ := hO10.sl; kernel_rfl) ?_
 refine op_box (cs := [v7]) (ev_hit hN rfl) rfl ?_
 intro w15 b16 lo_b16 hi_b16 hB18 E17
 have z_w15 := E17.size
 have hs := hs.keep0 E17
 have OS := OS.keep0 E17
 have hall : ∀ x9 ∈ A, Own w15 ob 5 1 x9.1 x9.2.length (x9.2.map u8v) := fun x9 hx9 => (hall x9 hx9).keep0 E17
 have hbv := hbv.keep0 E17
 have hO10 := hO10.keep0 E17
 have hb := grow_step0 hb E17
 refine op_assign (ev_hit hN rfl) ?_
 refine reg_nil ?_
 refine hK2 _ _ ?_
 refine seq_any fun K19 hK19 => ?_
 refine seq_any fun K20 hK20 => ?_
 refine one_reg ?_
 refine op_move (ev_base hN rfl s1) ?_
 refine op_move (ev_hit hN rfl) ?_
 refine op_nil (ev_hit hN rfl) ?_
 refine op_field fld40_0 (ev_hit hN rfl) ?_
 refine op_load1 (v := v7) one38 (ev_hit hN rfl) (hB18.cell rfl) ?_
 refine op_len_rd Try.underlying38 (ev_hit hN rfl) hO10.rdw ?_
 refine op_eql (ev_hit hN rfl) (ev_hit hN rfl) (fun c22 => ?_) (fun c22 => ?_)
 · -- 22T
  refine reg_nil ?_
  refine hK20 _ _ ?_
  refine wp_cond_true (ev_hit hN rfl) ?_
  refine one_reg ?_
  refine op_move (ev_hit hN rfl) ?_
  refine op_move (ev_hit hN rfl) ?_
  refine op_nil (ev_hit hN rfl) ?_
  refine op_field fld40_0 (ev_hit hN rfl) ?_
  refine op_load1 (v := v7) one38 (ev_hit hN rfl) (hB18.cell rfl) ?_
  refine op_bslice (e := 22) (pv := [(0, (Value.slice none 0 0))]) (cs := [(Value.slice none 0 0)]) ⟨rfl, rfl, trivial⟩ (by kernel_rfl) ?_
  intro w21 b22 lo_b22 hi_b22 hB24 E23
  have ne_b22_sv : sv.ownBlock ≠ some b22 := fun hh => by have := (OS.lt _ hh).2; omega
  have ne_b22_v7 : v7.ownBlock ≠ some b22 := fun hh => by have := (hO10.lt _ hh).2; omega
  have z_w21 := E23.size
  have hs := hs.keep0 E23
  have OS := OS.keep0 E23
  have hall : ∀ x9 ∈ A, Own w21 ob 5 1 x9.1 x9.2.length (x9.2.map u8v) := fun x9 hx9 => (hall x9 hx9).keep0 E23
  have hbv := hbv.keep0 E23
  have hO10 := hO10.keep0 E23
  have hB18 := hB18.keep0 E23
  have hb := grow_step0 hb E23
  have hP30 := hO10
  refine op_append slt38 (ev_hit hN rfl) hP30 (ev_hit hN rfl) (Src.ofRd Try.underlying38 (by decide) (RdC.ofBx (sz := 1) (n := 1) hB24 rfl (by decide)) (by simp [Value.oneCell', u8v])) (by unfold maxLen; omega) (by omega) hb.size ?_
  intro v25 w26 hO28 E27 hm29
  have dj31 : DJ sv v25 := DJ.step hm29 (fun k hk => (OS.lt k hk).2) dj14
  have z_w26 := E27.size
  have hs := hs.keepO hP30 E27 (by decide)
  have OS := OS.keepD E27 dj14
  have hall : ∀ x9 ∈ A, Own w26 ob 5 1 x9.1 x9.2.length (x9.2.map u8v) := fun x9 hx9 => (hall x9 hx9).keepT hP30 E27 (by decide)
  have hbv := hbv.keepT hP30 E27 (by decide)
  have hB18 := hB18.keepO hP30 E27 (by decide)
  have hB24 := hB24.keep E27 (fun hh => ne_b22_v7 hh.symm)
  have hb := grow_stepO hb hP30 E27 (by omega)
  have hO28 : Own w26 w.heap.size 22 1 v25 (A.length + 1) (((A ++ [(Value.slice none 0 0, ([] : By))])).flatMap (fun x9 => [x9.1])) := by exact hO28.cast rfl (by simp)
  have ne_b22_v25 : v25.ownBlock ≠ some b22 := ne_step (w1 := w21) ⟨E27, hm29⟩ (by omega) ne_b22_v7
  refine op_nil (ev_hit hN rfl) ?_
  refine op_field fld40_0 (ev_hit hN rfl) ?_
  have hB18_old := hB18
  refine op_store (vs := [v25]) (cs' := [v25]) size38 (ev_hit hN rfl) (ev_hit hN rfl) hO28.cl rfl (by simp only [List.all_cons, List.all_nil, Bool.true_and, Bool.and_true, hO28.one]; try rfl) hB18 (Nat.le_of_ble_eq_true rfl) rfl ?_
  intro w34 hB18 E35
  have z_w34 := E35.size
  have hs := hs.keep E35 (by simp; omega)
  have OS := OS.keepX hB18_old E35 (by decide)
  have hall : ∀ x9 ∈ A, Own w34 ob 5 1 x9.1 x9.2.length (x9.2.map u8v) := fun x9 hx9 => (hall x9 hx9).keepX hB18_old E35 (by decide)
  have hbv := hbv.keepX hB18_old E35 (by decide)
  have hB24 := hB24.keep E35 (by simp; omega)
  have hO28 := hO28.keepX hB18_old E35 (by decide)
  have hb := grow_step1 hb E35 (by omega)
  refine reg_nil ?_
  refine hK19 _ _ ?_
  refine seq_any fun K36 hK36 => ?_
  refine one_reg ?_
  refine op_move (ev_hit hN rfl) ?_
  refine op_nil (ev_hit hN rfl) ?_
  refine op_field fld40_0 (ev_hit hN rfl) ?_
  refine op_load1 (v := v25) one38 (ev_hit hN rfl) (hB18.cell rfl) ?_
  refine op_move (ev_base hN rfl s1) ?_
  refine op_move (ev_base hN rfl s2) ?_
  refine op_index_own (i := k) slt38 (ev_hit hN rfl) hO28 (ev_hit hN rfl) (by omega) (by omega) ?_
  intro b37 o38 lo_b37 hA39
  have hA39 : AtV v25 (k) b37 o38 := by simpa using hA39
  have hP42 := hO28
  refine op_store_own (vs := [bv]) size22 (ev_hit hN rfl) (ev_hit hN rfl) hbv.cl rfl (by simp only [List.all_cons, List.all_nil, Bool.true_and, Bool.and_true, hbv.one]; try rfl) hP42 hA39 (by have h9 := hP42.1; simp only [List.length_cons, List.length_nil]; omega) ?_
  intro w40 hO43 E41
  have z_w40 := E41.size
  have hs := hs.keepO hP42 E41 (by decide)
  have OS := OS.keepD E41 dj31
  have hall : ∀ x9 ∈ A, Own w40 ob 5 1 x9.1 x9.2.length (x9.2.map u8v) := fun x9 hx9 => (hall x9 hx9).keepT hP42 E41 (by decide)
  have hbv := hbv.keepT hP42 E41 (by decide)
  have hB24 := hB24.keep E41 (fun hh => ne_b22_v25 hh.symm)
  have hB18 := hB18.keepO hP42 E41 (by decide)
  have hb := grow_stepO hb hP42 E41 (by omega)
  have hO43 : Own w40 w.heap.size 22 1 v25 (layA A k (bv, r)).length (((layA A k (bv, r))).flatMap (fun x9 => [x9.1])) := by exact hO43.cast (by first | exact layA_len1 (by omega) | exact layA_len2 (by omega)) (by first | exact layA_set1 (by omega) | exact layA_set2 (by omega))
  refine reg_nil ?_
  refine hK36 _ _ ?_
  refine seq_any fun K44 hK44 => ?_
  refine seq_any fun K45 hK45 => ?_
  refine one_reg ?_
  have hall2 : ∀ x9 ∈ layA A k (bv, r), Own w40 ob 5 1 x9.1 x9.2.length (x9.2.map u8v) := lay_all hall hbv
  have hno2 : ∀ x9 ∈ layA A k (bv, r), NO x9.1 x9.2 := lay_no hno (hbv.no (fun h9 => by rw [h9] at hr; simp at hr) hr)
  have hml := layA_map (x := (bv, r)) hk
  refine op_move (ev_hit hN rfl) ?_
  refine op_fn (vs := [(ptr b16 0)]) ok45 ⟨(ev_hit hN rfl), trivial⟩ (sfree_ret (layA A k (bv, r)) _ _ ob _ _ (lay_small hA2 hrl hk) hB18 hO43 hall2 hno2) ?_
  rintro _ w46 ⟨E47, rfl⟩
  have E47 := grown_of_below E47
  have z_w46 := E47.size
  have hs := hs.keep0 E47
  have OS := OS.keep0 E47
  have hall : ∀ x9 ∈ A, Own w46 ob 5 1 x9.1 x9.2.length (x9.2.map u8v) := fun x9 hx9 => (hall x9 hx9).keep0 E47
  have hbv := hbv.keep0 E47
  have hB24 := hB24.keep0 E47
  have hB18 := hB18.keep0 E47
  have hO43 := hO43.keep0 E47
  have hb := grow_step0 hb E47
  refine op_lss (ev_hit hN rfl) rfl (fun c41 => ?_) (fun c41 => ?_)
  · -- 41T
   refine reg_nil ?_
   refine hK45 _ _ ?_
   refine wp_cond_true (ev_hit hN rfl) ?_
   refine seq_any fun K48 hK48 => ?_
   refine one_reg ?_
   refine op_assign rfl ?_
   refine reg_nil ?_
   refine hK48 _ _ ?_
   refine wp_ret (then_ret ( ?_))
   refine ret1 rfl hd (ev_hit hN rfl) ⟨_, rfl, ?_⟩
   -- path 22T 41T
   have h9 := tryA_f (A := A) (k := k) (x := (bv, r)) (by omega)
   rw [h9.1, h9.2]
   exact ⟨hb, rfl, _, hs, OS⟩
  · -- 41F
   refine reg_nil ?_
   refine hK45 _ _ ?_
   refine wp_cond_false (ev_hit hN rfl) ?_
   refine wp_skip ?_
   refine hK44 _ _ ?_
   refine seq_any fun K49 hK49 => ?_
   refine one_reg ?_
   refine op_move (ev_base hN rfl s0) ?_
   refine op_move (ev_hit hN rfl) ?_
   refine op_nil (ev_hit hN rfl) ?_
   refine op_field fld40_0 (ev_hit hN rfl) ?_
   refine op_load1 (v := v25) one38 (ev_hit hN rfl) (hB18.cell rfl) ?_
   refine op_nil (ev_hit hN rfl) ?_
   refine op_field fld40_0 (ev_hit hN rfl) ?_
   have hs_old := hs
   refine op_store (vs := [v25]) (cs' := [v25]) size38 (ev_hit hN rfl) (ev_hit hN rfl) hO43.cl rfl (by simp only [List.all_cons, List.all_nil, Bool.true_and, Bool.and_true, hO43.one]; try rfl) hs (Nat.le_of_ble_eq_true rfl) rfl ?_
   intro w52 hs E53
   have z_w52 := E53.size
   have OS := OS.keepX hs_old E53 (by decide)
   have hall : ∀ x9 ∈ A, Own w52 ob 5 1 x9.1 x9.2.length (x9.2.map u8v) := fun x9 hx9 => (hall x9 hx9).keepX hs_old E53 (by decide)
   have hbv := hbv.keepX hs_old E53 (by decide)
   have hB24 := hB24.keep E53 (by simp; omega)
   have hB18 := hB18.keep E53 (by simp; omega)
   have hO43 := hO43.keepX hs_old E53 (by decide)
   have hb := grown_trans hb E53
   refine reg_nil ?_
   refine hK49 _ _ ?_
   refine seq_any fun K54 hK54 => ?_
   refine one_reg ?_
   refine op_assign rfl ?_
   refine reg_nil ?_
   refine hK54 _ _ ?_
   refine wp_ret ?_
   refine ret1 rfl hd (ev_hit hN rfl) ⟨_, rfl, ?_⟩
   -- path 22T 41F
   have h9 := tryA_t (A := A) (k := k) (x := (bv, r)) (by omega)
   rw [h9.1, h9.2]
   exact ⟨hb, rfl, _, hs, hO43.mono (by omega)⟩
 · -- 22F
  refine reg_nil ?_
  refine hK20 _ _ ?_
  refine wp_cond_false (ev_hit hN rfl) ?_
  refine wp_skip ?_
  refine hK19 _ _ ?_
  refine seq_any fun K55 hK55 => ?_
  refine one_reg ?_
  refine op_move (ev_hit hN rfl) ?_
  refine op_nil (ev_hit hN rfl) ?_
  refine op_field fld40_0 (ev_hit hN rfl) ?_
  refine op_load1 (v := v7) one38 (ev_hit hN rfl) (hB18.cell rfl) ?_
  refine op_move (ev_base hN rfl s1) ?_
  refine op_move (ev_base hN rfl s2) ?_
  refine op_index_own (i := k) slt38 (ev_hit hN rfl) hO10 (ev_hit hN rfl) (by omega) (by omega) ?_
  intro b56 o57 lo_b56 hA58
  have hA58 : AtV v7 (k) b56 o57 := by simpa using hA58
  have hP61 := hO10
  refine op_store_own (vs := [bv]) size22 (ev_hit hN rfl) (ev_hit hN rfl) hbv.cl rfl (by simp only [List.all_cons, List.all_nil, Bool.true_and, Bool.and_true, hbv.one]; try rfl) hP61 hA58 (by have h9 := hP61.1; simp only [List.length_cons, List.length_nil]; omega) ?_
  intro w59 hO62 E60
  have z_w59 := E60.size
  have hs := hs.keepO hP61 E60 (by decide)
  have OS := OS.keepD E60 dj14
  have hall : ∀ x9 ∈ A, Own w59 ob 5 1 x9.1 x9.2.length (x9.2.map u8v) := fun x9 hx9 => (hall x9 hx9).keepT hP61 E60 (by decide)
  have hbv := hbv.keepT hP61 E60 (by decide)
  have hB18 := hB18.keepO hP61 E60 (by decide)
  have hb := grow_stepO hb hP61 E60 (by omega)
  have hO62 : Own w59 w.heap.size 22 1 v7 (layA A k (bv, r)).length (((layA A k (bv, r))).flatMap (fun x9 => [x9.1])) := by exact hO62.cast (by first | exact layA_len1 (by omega) | exact layA_len2 (by omega)) (by first | exact layA_set1 (by omega) | exact layA_set2 (by omega))
  refine reg_nil ?_
  refine hK55 _ _ ?_
  refine seq_any fun K63 hK63 => ?_
  refine seq_any fun K64 hK64 => ?_
  refine one_reg ?_
  have hall2 : ∀ x9 ∈ layA A k (bv, r), Own w59 ob 5 1 x9.1 x9.2.length (x9.2.map u8v) := lay_all hall hbv
  have hno2 : ∀ x9 ∈ layA A k (bv, r), NO x9.1 x9.2 := lay_no hno (hbv.no (fun h9 => by rw [h9] at hr; simp at hr) hr)
  have hml := layA_map (x := (bv, r)) hk
  refine op_move (ev_hit hN rfl) ?_
  refine op_fn (vs := [(ptr b16 0)]) ok45 ⟨(ev_hit hN rfl), trivial⟩ (sfree_ret (layA A k (bv, r)) _ _ ob _ _ (lay_small hA2 hrl hk) hB18 hO62 hall2 hno2) ?_
  rintro _ w65 ⟨E66, rfl⟩
  have E66 := grown_of_below E66
  have z_w65 := E66.size
  have hs := hs.keep0 E66
  have OS := OS.keep0 E66
  have hall : ∀ x9 ∈ A, Own w65 ob 5 1 x9.1 x9.2.length (x9.2.map u8v) := fun x9 hx9 => (hall x9 hx9).keep0 E66
  have hbv := hbv.keep0 E66
  have hB18 := hB18.keep0 E66
  have hO62 := hO62.keep0 E66
  have hb := grow_step0 hb E66
  refine op_lss (ev_hit hN rfl) rfl (fun c41 => ?_) (fun c41 => ?_)
  · -- 41T
   refine reg_nil ?_
   refine hK64 _ _ ?_
   refine wp_cond_true (ev_hit hN rfl) ?_
   refine seq_any fun K67 hK67 => ?_
   refine one_reg ?_
   refine op_assign rfl ?_
   refine reg_nil ?_
   refine hK67 _ _ ?_
   refine wp_ret (then_ret ( ?_))
   refine ret1 rfl hd (ev_hit hN rfl) ⟨_, rfl, ?_⟩
   -- path 22F 41T
   have h9 := tryA_f (A := A) (k := k) (x := (bv, r)) (by omega)
   rw [h9.1, h9.2]
   exact ⟨hb, rfl, _, hs, OS⟩
  · -- 41F
   refine reg_nil ?_
   refine hK64 _ _ ?_
   refine wp_cond_false (ev_hit hN rfl) ?_
   refine wp_skip ?_
   refine hK63 _ _ ?_
   refine seq_any fun K68 hK68 => ?_
   refine one_reg ?_
   refine op_move (ev_base hN rfl s0) ?_
   refine op_move (ev_hit hN rfl) ?_
   refine op_nil (ev_hit hN rfl) ?_
   refine op_field fld40_0 (ev_hit hN rfl) ?_
   refine op_load1 (v := v7) one38 (ev_hit hN rfl) (hB18.cell rfl) ?_
   refine op_nil (ev_hit hN rfl) ?_
   refine op_field fld40_0 (ev_hit hN rfl) ?_
   have hs_old := hs
   refine op_store (vs := [v7]) (cs' := [v7]) size38 (ev_hit hN rfl) (ev_hit hN rfl) hO62.cl rfl (by simp only [List.all_cons, List.all_nil, Bool.true_and, Bool.and_true, hO62.one]; try rfl) hs (Nat.le_of_ble_eq_true rfl) rfl ?_
   intro w71 hs E72
   have z_w71 := E72.size
   have OS := OS.keepX hs_old E72 (by decide)
   have hall : ∀ x9 ∈ A, Own w71 ob 5 1 x9.1 x9.2.length (x9.2.map u8v) := fun x9 hx9 => (hall x9 hx9).keepX hs_old E72 (by decide)
   have hbv := hbv.keepX hs_old E72 (by decide)
   have hB18 := hB18.keep E72 (by simp; omega)
   have hO62 := hO62.keepX hs_old E72 (by decide)
   have hb := grown_trans hb E72
   refine reg_nil ?_
   refine hK68 _ _ ?_
   refine seq_any fun K73 hK73 => ?_
   refine one_reg ?_
   refine op_assign rfl ?_
   refine reg_nil ?_
   refine hK73 _ _ ?_
   refine wp_ret ?_
   refine ret1 rfl hd (ev_hit hN rfl) ⟨_, rfl, ?_⟩
   -- path 22F 41F
   have h9 := tryA_t (A := A) (k := k) (x := (bv, r)) (by omega)
   rw [h9.1, h9.2]
   exact ⟨hb, rfl, _, hs, hO62.mono (by omega)⟩

end Go.Proofs.Ytdhpalioifjfbaa

/- Walks, written by a program: what each function of the translation hands back. -/
namespace Go.Proofs.Ytdhpalioifjfbaa
open Go.Gx Go.RowKit
attribute [local irreducible] wpList wpStill Code.wp Calls

theorem sput_ret (A : List ByV) (sv : Value) (sb ob s : Nat) (w : World) (hA : A.length ≤ 1000 ∧ sumL (A.map Prod.snd) ≤ 1000000) (hs : Bx w s 40 [sv]) (OS : Own w sb 22 1 sv A.length (A.flatMap (fun x9 => [x9.1]))) (hall : ∀ x9 ∈ A, Own w ob 5 1 x9.1 x9.2.length (x9.2.map u8v)) (hno : ∀ x9 ∈ A, NO x9.1 x9.2) (hA2 : A.length ≤ 900 ∧ sumL (A.map Prod.snd) ≤ 900000) (hsb : sb ≤ w.heap.size) (r : By) (bv : Value) (hbv : Own w ob 5 1 bv r.length (r.map u8v))  : Ret Try.prog 17 #[(ptr s 0), bv] w (fun v' w' => w.grownBy w' (some s) ∧ v' = .tuple #[.int .i64 (putK (A.map Prod.snd) r), .int .i64 (putE (A.map Prod.snd) r)] ∧ ∃ (u : Value), Bx w' s 40 [u] ∧ Own w' sb 22 1 u (putA A (bv, r)).length ((putA A (bv, r)).flatMap (fun x9 => [x9.1]))) := by
 have hb := grown_refl w (some s)
 refine enter (N := 40) Try.func17 rfl rfl (by simp) fun a0 hN hd hA => ?_
 have s0 : a0.tmps.getD 0 undef = (ptr s 0) := hA 0 (by simp)
 have s1 : a0.tmps.getD 1 undef = bv := hA 1 (by simp)
 clear hA
 refine seq_any fun K1 hK1 => ?_
 refine one_reg ?_
 refine op_assign rfl ?_
 refine op_assign rfl ?_
 refine reg_nil ?_
 refine hK1 _ _ ?_
 refine seq_any fun K2 hK2 => ?_
 refine seq_any fun K3 hK3 => ?_
 refine one_reg ?_
 refine op_move (ev_base hN rfl s1) ?_
 refine op_len_rd Try.underlying22 (ev_hit hN rfl) hbv.rdw ?_
 refine op_eql (ev_hit hN rfl) rfl (fun c9 => ?_) (fun c9 => ?_)
 · -- 9T
  refine op_move (ev_hit hN rfl) ?_
  refine g_false (j := 3) (dj := 10) (b := false) rfl rfl rfl (ev_hit hN rfl) rfl rfl ?_
  refine g_false (j := 3) (dj := 10) (b := false) rfl rfl rfl (ev_hit hN rfl) rfl rfl ?_
  refine g_false (j := 3) (dj := 10) (b := false) rfl rfl rfl (ev_hit hN rfl) rfl rfl ?_
  refine op_pick_t (ev_hit hN rfl) rfl ?_
  refine reg_nil ?_
  refine hK3 _ _ ?_
  refine wp_cond_true (ev_hit hN rfl) ?_
  refine seq_any fun K4 hK4 => ?_
  refine one_reg ?_
  refine op_assign rfl ?_
  refine op_assign rfl ?_
  refine reg_nil ?_
  refine hK4 _ _ ?_
  refine wp_ret (then_ret ( ?_))
  refine ret2 rfl hd (ev_hit hN rfl) (ev_hit hN rfl) ⟨_, rfl, ?_⟩
  -- path 9T
  obtain ⟨e1, e2, e3⟩ := sput_bad (A := A) (v := bv) (badB_t (r := r) (by omega))
  rw [e1, e2, e3]
  exact ⟨hb, rfl, _, hs, OS⟩
 · -- 9F
  refine op_move (ev_hit hN rfl) ?_
  refine g_true (j := 3) (dj := 10) (b := false) rfl rfl rfl (ev_hit hN rfl) ?_
  refine op_move (ev_base hN rfl s1) ?_
  refine g_true (j := 3) (dj := 10) (b := false) rfl rfl rfl (ev_hit hN rfl) ?_
  refine op_len_rd Try.underlying22 (ev_hit hN rfl) hbv.rdw ?_
  refine g_true (j := 3) (dj := 10) (b := false) rfl rfl rfl (ev_hit hN rfl) ?_
  refine op_gtr (ev_hit hN rfl) rfl (fun c13 => ?_) (fun c13 => ?_)
  · -- 13T
   refine op_pick_f (ev_hit hN rfl) (ev_hit hN rfl) ?_
   refine reg_nil ?_
   refine hK3 _ _ ?_
   refine wp_cond_true (ev_hit hN rfl) ?_
   refine seq_any fun K5 hK5 => ?_
   refine one_reg ?_
   refine op_assign rfl ?_
   refine op_assign rfl ?_
   refine reg_nil ?_
   refine hK5 _ _ ?_
   refine wp_ret (then_ret ( ?_))
   refine ret2 rfl hd (ev_hit hN rfl) (ev_hit hN rfl) ⟨_, rfl, ?_⟩
   -- path 9F 13T
   obtain ⟨e1, e2, e3⟩ := sput_bad (A := A) (v := bv) (badB_t (r := r) (by omega))
   rw [e1, e2, e3]
   exact ⟨hb, rfl, _, hs, OS⟩
  · -- 13F
   refine op_pick_f (ev_hit hN rfl) (ev_hit hN rfl) ?_
   refine reg_nil ?_
   refine hK3 _ _ ?_
   refine wp_cond_false (ev_hit hN rfl) ?_
   refine wp_skip ?_
   refine hK2 _ _ ?_
   refine seq_any fun K6 hK6 => ?_
   refine one_reg ?_
   refine op_assign rfl ?_
   refine reg_nil ?_
   refine hK6 _ _ ?_
   refine seq_join1 (N := 40) (fun az_ w' => ∃ (k : Nat), (az_.tmps.getD 0 undef = (ptr s 0)) ∧ (az_.tmps.getD 1 undef = bv) ∧ (az_.tmps.getD 4 undef = (Value.int .i64 0)) ∧ (az_.tmps.getD 5 undef = (Value.int .i64 0)) ∧ (az_.tmps.getD 6 undef = (Value.int .i64 ((k : Nat) : Int))) ∧ (k = freeL (A.map Prod.snd)) ∧ (w.grownBy w' (some s)) ∧ (w.heap.size ≤ w'.heap.size) ∧ (Bx w' s 40 [sv]) ∧ (Own w' sb 22 1 sv A.length (A.flatMap (fun x9 => [x9.1]))) ∧ (∀ x9 ∈ A, Own w' ob 5 1 x9.1 x9.2.length (x9.2.map u8v)) ∧ (Own w' ob 5 1 bv r.length (r.map u8v))) (fun hJ7 => ?_) ?_
   ·
    refine seq_any fun K8 hK8 => ?_
    refine wp_block ?_
    refine loop_m (fun mz_ az_ w' => ∃ (k : Nat), mz_ = (A.length + 1 - k) ∧ (az_.tmps.getD 0 undef = (ptr s 0)) ∧ (az_.tmps.getD 1 undef = bv) ∧ (az_.tmps.getD 4 undef = (Value.int .i64 0)) ∧ (az_.tmps.getD 5 undef = (Value.int .i64 0)) ∧ (az_.tmps.getD 6 undef = (Value.int .i64 ((k : Nat) : Int))) ∧ (k ≤ freeL (A.map Prod.snd)) ∧ (w.grownBy w' (some s)) ∧ (w.heap.size ≤ w'.heap.size) ∧ (Bx w' s 40 [sv]) ∧ (Own w' sb 22 1 sv A.length (A.flatMap (fun x9 => [x9.1]))) ∧ (∀ x9 ∈ A, Own w' ob 5 1 x9.1 x9.2.length (x9.2.map u8v)) ∧ (Own w' ob 5 1 bv r.length (r.map u8v))) _ hN hd ⟨0, rfl, (sl_base hN rfl s0), (sl_base hN rfl s1), (sl_hit hN rfl), (sl_hit hN rfl), (sl_hit hN rfl), Nat.zero_le _, hb, (Nat.le_refl _), hs, OS, hall, hbv⟩ ?_
    rintro _ a9 w9 hN9 hd9 ⟨k, rfl, s9_0, s9_1, s9_4, s9_5, s9_6, hkf, hb, zl_w9, hs, OS, hall, hbv⟩
    have z_w9 := hb.size
    refine seq_any fun K10 hK10 => ?_
    refine seq_any fun K11 hK11 => ?_
    refine one_reg ?_
    refine op_move (ev_base hN9 rfl s9_6) ?_
    refine op_move (ev_base hN9 rfl s9_0) ?_
    refine op_nil (ev_hit hN9 rfl) ?_
    refine op_field fld40_0 (ev_hit hN9 rfl) ?_
    refine op_load1 (v := sv) one38 (ev_hit hN9 rfl) (hs.cell rfl) ?_
    refine op_len_rd Try.underlying38 (ev_hit hN9 rfl) OS.rdw ?_
    refine op_lss (ev_hit hN9 rfl) (ev_hit hN9 rfl) (fun c21 => ?_) (fun c21 => ?_)
    · -- 21T
     refine op_move (ev_hit hN9 rfl) ?_
     refine g_true (j := 7) (dj := 22) (b := true) rfl rfl rfl (ev_hit hN9 rfl) ?_
     refine op_move (ev_base hN9 rfl s9_0) ?_
     refine g_true (j := 7) (dj := 22) (b := true) rfl rfl rfl (ev_hit hN9 rfl) ?_
     refine op_nil (ev_hit hN9 rfl) ?_
     refine g_true (j := 7) (dj := 22) (b := true) rfl rfl rfl (ev_hit hN9 rfl) ?_
     refine op_field fld40_0 (ev_hit hN9 rfl) ?_
     refine g_true (j := 7) (dj := 22) (b := true) rfl rfl rfl (ev_hit hN9 rfl) ?_
     refine op_load1 (v := sv) one38 (ev_hit hN9 rfl) (hs.cell rfl) ?_
     refine g_true (j := 7) (dj := 22) (b := true) rfl rfl rfl (ev_hit hN9 rfl) ?_
     refine op_move (ev_base hN9 rfl s9_6) ?_
     refine g_true (j := 7) (dj := 22) (b := true) rfl rfl rfl (ev_hit hN9 rfl) ?_
     refine op_index_rd slt38 (ev_hit hN9 rfl) OS.rdw (ev_hit hN9 rfl) (by omega) (by omega) ?_
     intro b12 o13 h0b12 h1b12 hc14
     refine g_true (j := 7) (dj := 22) (b := true) rfl rfl rfl (ev_hit hN9 rfl) ?_
     have hs15 : Own w9 ob 5 1 (A.getD k D0).1 (A.getD k D0).2.length ((A.getD k D0).2.map u8v) := hall _ (getD_mem (by omega))
     refine op_load1 (v := (A.getD k D0).1) one22 (ev_hit hN9 rfl) (by have := hc14 0 (A.getD k D0).1 (by decide) (el_ll (i := k) (d := D0) (by omega) (by omega)); simpa using this) ?_
     refine g_true (j := 7) (dj := 22) (b := true) rfl rfl rfl (ev_hit hN9 rfl) ?_
     refine op_neq_no Try.underlying22 (ev_hit hN9 rfl) rfl (hno _ (getD_mem (by omega))) ?_
     rcases Bool.eq_false_or_eq_true ((decide ((A.getD k D0).2 ≠ []))) with c30 | c30
     · -- 30T
      rw [c30]
      refine op_pick_t (ev_hit hN9 rfl) (ev_hit hN9 rfl) ?_
      refine reg_nil ?_
      refine hK11 _ _ ?_
      refine wp_cond_true (ev_hit hN9 rfl) ?_
      refine wp_skip ?_
      refine hK10 _ _ ?_
      refine wp_block ?_
      refine one_reg ?_
      refine op_move (ev_base hN9 rfl s9_6) ?_
      refine op_add (ev_hit hN9 rfl) rfl (add64 (by omega)) ?_
      refine op_assign (ev_hit hN9 rfl) ?_
      refine reg_nil ?_
      refine blk_normal ?_
      -- round 9F 13F 21T 30T
      exact loop_next _ hN9 hd9 ⟨k + 1, rfl, (sl_base hN9 rfl s9_0), (sl_base hN9 rfl s9_1), (sl_base hN9 rfl s9_4), (sl_base hN9 rfl s9_5), (sl_hit hN9 rfl).trans (congrArg (Value.int .i64) (by omega)), (freeL_go hkf (by simp; omega) (by rw [map_get (by omega)]; exact of_decide_eq_true c30)), hb, (by omega), hs, OS, hall, hbv⟩ (by omega)
     · -- 30F
      rw [c30]
      refine op_pick_t (ev_hit hN9 rfl) (ev_hit hN9 rfl) ?_
      refine reg_nil ?_
      refine hK11 _ _ ?_
      refine wp_cond_false (ev_hit hN9 rfl) ?_
      refine wp_exit (then_exit (then_exit (blk_hit ?_)))
      refine hK8 _ _ ?_
      exact hJ7 _ _ _ hN9 hd9 ⟨k, (sl_base hN9 rfl s9_0), (sl_base hN9 rfl s9_1), (sl_base hN9 rfl s9_4), (sl_base hN9 rfl s9_5), (sl_base hN9 rfl s9_6), (freeL_stop hkf (.inr (by rw [map_get (by omega)]; exact Classical.byContradiction (of_decide_eq_false c30)))).symm, hb, (by omega), hs, OS, hall, hbv⟩
    · -- 21F
     refine op_move (ev_hit hN9 rfl) ?_
     refine g_false (j := 7) (dj := 22) (b := true) rfl rfl rfl (ev_hit hN9 rfl) rfl rfl ?_
     refine g_false (j := 7) (dj := 22) (b := true) rfl rfl rfl (ev_hit hN9 rfl) rfl rfl ?_
     refine g_false (j := 7) (dj := 22) (b := true) rfl rfl rfl (ev_hit hN9 rfl) rfl rfl ?_
     refine g_false (j := 7) (dj := 22) (b := true) rfl rfl rfl (ev_hit hN9 rfl) rfl rfl ?_
     refine g_false (j := 7) (dj := 22) (b := true) rfl rfl rfl (ev_hit hN9 rfl) rfl rfl ?_
     refine g_false (j := 7) (dj := 22) (b := true) rfl rfl rfl (ev_hit hN9 rfl) rfl rfl ?_
     refine g_false (j := 7) (dj := 22) (b := true) rfl rfl rfl (ev_hit hN9 rfl) rfl rfl ?_
     refine g_false (j := 7) (dj := 22) (b := true) rfl rfl rfl (ev_hit hN9 rfl) rfl rfl ?_
     refine op_pick_f (ev_hit hN9 rfl) rfl ?_
     refine reg_nil ?_
     refine hK11 _ _ ?_
     refine wp_cond_false (ev_hit hN9 rfl) ?_
     refine wp_exit (then_exit (then_exit (blk_hit ?_)))
     refine hK8 _ _ ?_
     exact hJ7 _ _ _ hN9 hd9 ⟨k, (sl_base hN9 rfl s9_0), (sl_base hN9 rfl s9_1), (sl_base hN9 rfl s9_4), (sl_base hN9 rfl s9_5), (sl_base hN9 rfl s9_6), (freeL_stop hkf (.inl (by simp; omega))).symm, hb, (by omega), hs, OS, hall, hbv⟩
   ·
    rintro a7 w7 hN7 hd7 ⟨k, s7_0, s7_1, s7_4, s7_5, s7_6, hkf, hb, zl_w7, hs, OS, hall, hbv⟩
    have z_w7 := hb.size
    refine seq_any fun K16 hK16 => ?_
    refine seq_any fun K17 hK17 => ?_
    refine one_reg ?_
    have hfl := free_le A
    refine op_move (ev_base hN7 rfl s7_0) ?_
    refine op_move (ev_base hN7 rfl s7_6) ?_
    refine op_move (ev_base hN7 rfl s7_1) ?_
    refine op_fn (vs := [(ptr s 0), (Value.int .i64 ((k : Nat) : Int)), bv]) ok44 ⟨(ev_hit hN7 rfl), ⟨(ev_hit hN7 rfl), ⟨(ev_hit hN7 rfl), trivial⟩⟩⟩ (stry_ret A _ sb ob _ _ hA hs OS hall hno hA2 (by omega) r bv hbv (by omega) (by omega) k (by omega)) ?_
    rintro _ w19 ⟨E20, rfl, u18, hx18, hO18⟩
    have hs_old := hs
    have z_w19 := E20.size
    have hall : ∀ x9 ∈ A, Own w19 ob 5 1 x9.1 x9.2.length (x9.2.map u8v) := fun x9 hx9 => (hall x9 hx9).keepX hs_old E20 (by decide)
    have hbv := hbv.keepX hs_old E20 (by decide)
    have hb := grown_trans hb E20
    rcases Bool.eq_false_or_eq_true ((tryB A k (bv, r))) with c37 | c37
    · -- 37T
     rw [c37]
     refine op_not (ev_hit hN7 rfl) ?_
     refine reg_nil ?_
     refine hK17 _ _ ?_
     refine wp_cond_false (ev_hit hN7 rfl) ?_
     refine wp_skip ?_
     refine hK16 _ _ ?_
     refine seq_any fun K21 hK21 => ?_
     refine one_reg ?_
     refine op_move (ev_base hN7 rfl s7_6) ?_
     refine op_assign (ev_hit hN7 rfl) ?_
     refine op_assign rfl ?_
     refine reg_nil ?_
     refine hK21 _ _ ?_
     refine wp_ret ?_
     refine ret2 rfl hd7 (ev_hit hN7 rfl) (ev_hit hN7 rfl) ⟨_, rfl, ?_⟩
     -- path 9F 13F 37T
     subst hkf
     obtain ⟨e1, e2, e3⟩ := sput_ok (A := A) (v := bv) (badB_f (r := r) (by omega)) c37
     rw [e1, e2, e3]
     exact ⟨hb, rfl, _, hx18, hO18⟩
    · -- 37F
     rw [c37]
     refine op_not (ev_hit hN7 rfl) ?_
     refine reg_nil ?_
     refine hK17 _ _ ?_
     refine wp_cond_true (ev_hit hN7 rfl) ?_
     refine seq_any fun K22 hK22 => ?_
     refine one_reg ?_
     refine op_assign rfl ?_
     refine op_assign rfl ?_
     refine reg_nil ?_
     refine hK22 _ _ ?_
     refine wp_ret (then_ret ( ?_))
     refine ret2 rfl hd7 (ev_hit hN7 rfl) (ev_hit hN7 rfl) ⟨_, rfl, ?_⟩
     -- path 9F 13F 37F
     subst hkf
     obtain ⟨e1, e2, e3⟩ := sput_not (A := A) (v := bv) (badB_f (r := r) (by omega)) c37
     rw [e1, e2, e3]
     exact ⟨hb, rfl, _, hx18, hO18⟩

end Go.Proofs.Ytdhpalioifjfbaa

/- Walks, written by a program: what each function of the translation hands back. -/
namespace Go.Proofs.Ytdhpalioifjfbaa
open Go.Gx Go.RowKit
attribute [local irreducible] wpList wpStill Code.wp Calls

theorem sset_ret (A : List ByV) (sv : Value) (sb ob s : Nat) (w : World) (hA : A.length ≤ 1000 ∧ sumL (A.map Prod.snd) ≤ 1000000) (hs : Bx w s 40 [sv]) (OS : Own w sb 22 1 sv A.length (A.flatMap (fun x9 => [x9.1]))) (hall : ∀ x9 ∈ A, Own w ob 5 1 x9.1 x9.2.length (x9.2.map u8v)) (hno : ∀ x9 ∈ A, NO x9.1 x9.2) (hA2 : A.length ≤ 900 ∧ sumL (A.map Prod.snd) ≤ 900000) (hsb : sb ≤ w.heap.size) (r : By) (bv : Value) (hbv : Own w ob 5 1 bv r.length (r.map u8v)) (k : Int) (hk : -9223372036854775808 ≤ k ∧ k ≤ 9223372036854775807) : Ret Try.prog 21 #[(ptr s 0), (Value.int .i64 k), bv] w (fun v' w' => w.grownBy w' (some s) ∧ v' = .int .i64 (setE (A.map Prod.snd) k r) ∧ ∃ (u : Value), Bx w' s 40 [u] ∧ Own w' sb 22 1 u (setA A k (bv, r)).length ((setA A k (bv, r)).flatMap (fun x9 => [x9.1]))) := by
 have hb := grown_refl w (some s)
 refine enter (N := 24) Try.func21 rfl rfl (by simp) fun a0 hN hd hA => ?_
 have s0 : a0.tmps.getD 0 undef = (ptr s 0) := hA 0 (by simp)
 have s1 : a0.tmps.getD 1 undef = (Value.int .i64 k) := hA 1 (by simp)
 have s2 : a0.tmps.getD 2 undef = bv := hA 2 (by simp)
 clear hA
 refine seq_any fun K1 hK1 => ?_
 refine one_reg ?_
 refine op_assign rfl ?_
 refine reg_nil ?_
 refine hK1 _ _ ?_
 refine seq_any fun K2 hK2 => ?_
 refine seq_any fun K3 hK3 => ?_
 refine one_reg ?_
 refine op_move (ev_base hN rfl s0) ?_
 refine op_move (ev_base hN rfl s1) ?_
 refine op_fn (vs := [(ptr s 0), (Value.int .i64 k)]) ok18 ⟨(ev_hit hN rfl), ⟨(ev_hit hN rfl), trivial⟩⟩ (shas_ret A _ _ _ _ _ hA hs OS hall hno k (by omega)) ?_
 rintro _ w4 ⟨E5, rfl⟩
 have E5 := grown_of_below E5
 have z_w4 := E5.size
 have hs := hs.keep0 E5
 have OS := OS.keep0 E5
 have hall : ∀ x9 ∈ A, Own w4 ob 5 1 x9.1 x9.2.length (x9.2.map u8v) := fun x9 hx9 => (hall x9 hx9).keep0 E5
 have hbv := hbv.keep0 E5
 have hb := grow_step0 hb E5
 refine op_not (ev_hit hN rfl) ?_
 refine reg_nil ?_
 refine hK3 _ _ ?_
 refine wp_cond_split (ev_hit hN rfl) (fun c10 => ?_) (fun c10 => ?_)
 · -- 10T
  refine seq_any fun K6 hK6 => ?_
  refine one_reg ?_
  refine op_assign rfl ?_
  refine reg_nil ?_
  refine hK6 _ _ ?_
  refine wp_ret (then_ret ( ?_))
  refine ret1 rfl hd (ev_hit hN rfl) ⟨_, rfl, ?_⟩
  -- path 10T
  obtain ⟨e1, e2⟩ := sset_none (A := A) (v := bv) (r := r) (by simpa using c10)
  rw [e1, e2]
  exact ⟨hb, rfl, _, hs, OS⟩
 · -- 10F
  refine wp_skip ?_
  refine hK2 _ _ ?_
  refine seq_any fun K7 hK7 => ?_
  refine seq_any fun K8 hK8 => ?_
  refine one_reg ?_
  refine op_move (ev_base hN rfl s2) ?_
  refine op_len_rd Try.underlying22 (ev_hit hN rfl) hbv.rdw ?_
  refine op_eql (ev_hit hN rfl) rfl (fun c13 => ?_) (fun c13 => ?_)
  · -- 13T
   refine op_move (ev_hit hN rfl) ?_
   refine g_false (j := 3) (dj := 14) (b := false) rfl rfl rfl (ev_hit hN rfl) rfl rfl ?_
   refine g_false (j := 3) (dj := 14) (b := false) rfl rfl rfl (ev_hit hN rfl) rfl rfl ?_
   refine g_false (j := 3) (dj := 14) (b := false) rfl rfl rfl (ev_hit hN rfl) rfl rfl ?_
   refine op_pick_t (ev_hit hN rfl) rfl ?_
   refine reg_nil ?_
   refine hK8 _ _ ?_
   refine wp_cond_true (ev_hit hN rfl) ?_
   refine seq_any fun K9 hK9 => ?_
   refine one_reg ?_
   refine op_assign rfl ?_
   refine reg_nil ?_
   refine hK9 _ _ ?_
   refine wp_ret (then_ret ( ?_))
   refine ret1 rfl hd (ev_hit hN rfl) ⟨_, rfl, ?_⟩
   -- path 10F 13T
   obtain ⟨e1, e2⟩ := sset_bad (A := A) (v := bv) (by simpa using c10) (badB_t (r := r) (by omega))
   rw [e1, e2]
   exact ⟨hb, rfl, _, hs, OS⟩
  · -- 13F
   refine op_move (ev_hit hN rfl) ?_
   refine g_true (j := 3) (dj := 14) (b := false) rfl rfl rfl (ev_hit hN rfl) ?_
   refine op_move (ev_base hN rfl s2) ?_
   refine g_true (j := 3) (dj := 14) (b := false) rfl rfl rfl (ev_hit hN rfl) ?_
   refine op_len_rd Try.underlying22 (ev_hit hN rfl) hbv.rdw ?_
   refine g_true (j := 3) (dj := 14) (b := false) rfl rfl rfl (ev_hit hN rfl) ?_
   refine op_gtr (ev_hit hN rfl) rfl (fun c17 => ?_) (fun c17 => ?_)
   · -- 17T
    refine op_pick_f (ev_hit hN rfl) (ev_hit hN rfl) ?_
    refine reg_nil ?_
    refine hK8 _ _ ?_
    refine wp_cond_true (ev_hit hN rfl) ?_
    refine seq_any fun K10 hK10 => ?_
    refine one_reg ?_
    refine op_assign rfl ?_
    refine reg_nil ?_
    refine hK10 _ _ ?_
    refine wp_ret (then_ret ( ?_))
    refine ret1 rfl hd (ev_hit hN rfl) ⟨_, rfl, ?_⟩
    -- path 10F 13F 17T
    obtain ⟨e1, e2⟩ := sset_bad (A := A) (v := bv) (by simpa using c10) (badB_t (r := r) (by omega))
    rw [e1, e2]
    exact ⟨hb, rfl, _, hs, OS⟩
   · -- 17F
    refine op_pick_f (ev_hit hN rfl) (ev_hit hN rfl) ?_
    refine reg_nil ?_
    refine hK8 _ _ ?_
    refine wp_cond_false (ev_hit hN rfl) ?_
    refine wp_skip ?_
    refine hK7 _ _ ?_
    refine seq_any fun K11 hK11 => ?_
    refine seq_any fun K12 hK12 => ?_
    refine one_reg ?_
    refine op_move (ev_base hN rfl s0) ?_
    have hkn := sizeL_nat (L := (A.map Prod.snd)) (s := k) (by simpa using c10)
    rw [List.length_map] at hkn
    refine op_move ((ev_base hN rfl s1).trans (congrArg (Value.int .i64) (show _ = ((k.toNat : Nat) : Int) by omega))) ?_
    refine op_move (ev_base hN rfl s2) ?_
    refine op_fn (vs := [(ptr s 0), (Value.int .i64 ((k.toNat : Nat) : Int)), bv]) ok44 ⟨(ev_hit hN rfl), ⟨(ev_hit hN rfl), ⟨(ev_hit hN rfl), trivial⟩⟩⟩ (stry_ret A _ sb ob _ _ hA hs OS hall hno hA2 (by omega) r bv hbv (by omega) (by omega) k.toNat (by omega)) ?_
    rintro _ w14 ⟨E15, rfl, u13, hx13, hO13⟩
    have hs_old := hs
    have z_w14 := E15.size
    have hall : ∀ x9 ∈ A, Own w14 ob 5 1 x9.1 x9.2.length (x9.2.map u8v) := fun x9 hx9 => (hall x9 hx9).keepX hs_old E15 (by decide)
    have hbv := hbv.keepX hs_old E15 (by decide)
    have hb := grown_trans hb E15
    rcases Bool.eq_false_or_eq_true ((tryB A k.toNat (bv, r))) with c22 | c22
    · -- 22T
     rw [c22]
     refine op_not (ev_hit hN rfl) ?_
     refine reg_nil ?_
     refine hK12 _ _ ?_
     refine wp_cond_false (ev_hit hN rfl) ?_
     refine wp_skip ?_
     refine hK11 _ _ ?_
     refine seq_any fun K16 hK16 => ?_
     refine one_reg ?_
     refine op_assign rfl ?_
     refine reg_nil ?_
     refine hK16 _ _ ?_
     refine wp_ret ?_
     refine ret1 rfl hd (ev_hit hN rfl) ⟨_, rfl, ?_⟩
     -- path 10F 13F 17F 22T
     obtain ⟨e1, e2⟩ := sset_ok (A := A) (v := bv) (by simpa using c10) (badB_f (r := r) (by omega)) c22
     rw [e1, e2]
     exact ⟨hb, rfl, _, hx13, hO13⟩
    · -- 22F
     rw [c22]
     refine op_not (ev_hit hN rfl) ?_
     refine reg_nil ?_
     refine hK12 _ _ ?_
     refine wp_cond_true (ev_hit hN rfl) ?_
     refine seq_any fun K17 hK17 => ?_
     refine one_reg ?_
     refine op_assign rfl ?_
     refine reg_nil ?_
     refine hK17 _ _ ?_
     refine wp_ret (then_ret ( ?_))
     refine ret1 rfl hd (ev_hit hN rfl) ⟨_, rfl, ?_⟩
     -- path 10F 13F 17F 22F
     obtain ⟨e1, e2⟩ := sset_not (A := A) (v := bv) (by simpa using c10) (badB_f (r := r) (by omega)) c22
     rw [e1, e2]
     exact ⟨hb, rfl, _, hx13, hO13⟩

end Go.Proofs.Ytdhpalioifjfbaa

/- Walks, written by a program: what each function of the translation hands back. -/
namespace Go.Proofs.Ytdhpalioifjfbaa
open Go.Gx Go.RowKit
attribute [local irreducible] wpList wpStill Code.wp Calls

theorem scut_ret (A : List ByV) (sv : Value) (sb ob s : Nat) (w : World) (hA : A.length ≤ 1000 ∧ sumL (A.map Prod.snd) ≤ 1000000) (hs : Bx w s 40 [sv]) (OS : Own w sb 22 1 sv A.length (A.flatMap (fun x9 => [x9.1]))) (hall : ∀ x9 ∈ A, Own w ob 5 1 x9.1 x9.2.length (x9.2.map u8v)) (hno : ∀ x9 ∈ A, NO x9.1 x9.2)  : Ret Try.prog 19 #[(ptr s 0)] w (fun v' w' => w.grownBy w' (some s) ∧ v' = .tuple #[] ∧ ∃ (u : Value) (B : List ByV), Bx w' s 40 [u] ∧ Own w' sb 22 1 u B.length (B.flatMap (fun x9 => [x9.1])) ∧ (∀ x9 ∈ B, Own w' ob 5 1 x9.1 x9.2.length (x9.2.map u8v)) ∧ (∀ x9 ∈ B, NO x9.1 x9.2) ∧ B.map Prod.snd = cutL (A.map Prod.snd) ∧ B.length ≤ A.length ∧ ∀ x9 ∈ B, x9 ∈ A) := by
 have hb := grown_refl w (some s)
 refine enter (N := 37) Try.func19 rfl rfl (by simp) fun a0 hN hd hA => ?_
 have s0 : a0.tmps.getD 0 undef = (ptr s 0) := hA 0 (by simp)
 clear hA
 refine wp_block ?_
 refine loop_m (fun mz_ az_ w' => ∃ (u : Value) (B : List ByV), mz_ = B.length ∧ (az_.tmps.getD 0 undef = (ptr s 0)) ∧ (∀ x9 ∈ B, NO x9.1 x9.2) ∧ (cutL (A.map Prod.snd) = cutL (B.map Prod.snd)) ∧ (B.length ≤ A.length) ∧ (∀ x9 ∈ B, x9 ∈ A) ∧ (w.grownBy w' (some s)) ∧ (w.heap.size ≤ w'.heap.size) ∧ (Bx w' s 40 [u]) ∧ (∀ x9 ∈ B, Own w' ob 5 1 x9.1 x9.2.length (x9.2.map u8v)) ∧ (Own w' sb 22 1 u B.length (B.flatMap (fun x9 => [x9.1])))) _ hN hd ⟨_, A, rfl, (sl_base hN rfl s0), hno, rfl, (Nat.le_refl _), (fun x9 hx9 => hx9), hb, (Nat.le_refl _), hs, hall, OS⟩ ?_
 rintro _ a1 w1 hN1 hd1 ⟨u, B, rfl, s1_0, hBn, hBc, hBl, hBs, hb, zl_w1, hs, hall, hO2⟩
 have z_w1 := hb.size
 refine seq_any fun K3 hK3 => ?_
 refine seq_any fun K4 hK4 => ?_
 refine reg_still mixed (by kernel_rfl) ?_
 intro w6 E5
 have z_w6 := E5.size
 have hs := hs.keep0 E5
 have hall : ∀ x9 ∈ B, Own w6 ob 5 1 x9.1 x9.2.length (x9.2.map u8v) := fun x9 hx9 => (hall x9 hx9).keep0 E5
 have hO2 := hO2.keep0 E5
 have hb := grow_step0 hb E5
 refine st_step rfl (fun _ h9 => op_move (ev_base hN1 rfl s1_0) h9) ?_
 refine st_step rfl (fun _ h9 => op_nil (ev_hit hN1 rfl) h9) ?_
 refine st_step rfl (fun _ h9 => op_field fld40_0 (ev_hit hN1 rfl) h9) ?_
 refine st_step rfl (fun _ h9 => op_load1 (v := u) one38 (ev_hit hN1 rfl) (hs.cell rfl) h9) ?_
 refine st_step rfl (fun _ h9 => op_len_rd Try.underlying38 (ev_hit hN1 rfl) hO2.rdw h9) ?_
 by_cases g7 : 0 < ((B.length : Nat) : Int)
 · -- 7T
  refine st_step rfl (fun _ h9 => op_cmp (b := true) (ev_hit hN1 rfl) rfl (b_gtr (decide_eq_true g7)) h9) ?_
  refine st_step rfl (fun _ h9 => op_move (ev_hit hN1 rfl) h9) ?_
  refine st_g_true (j := 6) (dj := 8) (b := true) rfl rfl rfl (ev_hit hN1 rfl) ?_
  refine st_step rfl (fun _ h9 => op_move (ev_base hN1 rfl s1_0) h9) ?_
  refine st_g_true (j := 6) (dj := 8) (b := true) rfl rfl rfl (ev_hit hN1 rfl) ?_
  refine st_step rfl (fun _ h9 => op_nil (ev_hit hN1 rfl) h9) ?_
  refine st_g_true (j := 6) (dj := 8) (b := true) rfl rfl rfl (ev_hit hN1 rfl) ?_
  refine st_step rfl (fun _ h9 => op_field fld40_0 (ev_hit hN1 rfl) h9) ?_
  refine st_g_true (j := 6) (dj := 8) (b := true) rfl rfl rfl (ev_hit hN1 rfl) ?_
  refine st_step rfl (fun _ h9 => op_load1 (v := u) one38 (ev_hit hN1 rfl) (hs.cell rfl) h9) ?_
  refine st_g_true (j := 6) (dj := 8) (b := true) rfl rfl rfl (ev_hit hN1 rfl) ?_
  refine st_step rfl (fun _ h9 => op_move (ev_base hN1 rfl s1_0) h9) ?_
  refine st_g_true (j := 6) (dj := 8) (b := true) rfl rfl rfl (ev_hit hN1 rfl) ?_
  refine st_step rfl (fun _ h9 => op_nil (ev_hit hN1 rfl) h9) ?_
  refine st_g_true (j := 6) (dj := 8) (b := true) rfl rfl rfl (ev_hit hN1 rfl) ?_
  refine st_step rfl (fun _ h9 => op_field fld40_0 (ev_hit hN1 rfl) h9) ?_
  refine st_g_true (j := 6) (dj := 8) (b := true) rfl rfl rfl (ev_hit hN1 rfl) ?_
  refine st_step rfl (fun _ h9 => op_load1 (v := u) one38 (ev_hit hN1 rfl) (hs.cell rfl) h9) ?_
  refine st_g_true (j := 6) (dj := 8) (b := true) rfl rfl rfl (ev_hit hN1 rfl) ?_
  refine st_step rfl (fun _ h9 => op_len_rd Try.underlying38 (ev_hit hN1 rfl) hO2.rdw h9) ?_
  refine st_g_true (j := 6) (dj := 8) (b := true) rfl rfl rfl (ev_hit hN1 rfl) ?_
  refine st_step rfl (fun _ h9 => op_sub (r := (((B.length - 1) : Nat) : Int)) (ev_hit hN1 rfl) rfl (by rw [IntKind.wrap_i64]; omega) h9) ?_
  refine st_g_true (j := 6) (dj := 8) (b := true) rfl rfl rfl (ev_hit hN1 rfl) ?_
  refine st_index_rd slt38 (ev_hit hN1 rfl) hO2.rdw (ev_hit hN1 rfl) (by omega) (by omega) ?_
  intro b7 o8 h0b7 h1b7 hc9
  refine st_g_true (j := 6) (dj := 8) (b := true) rfl rfl rfl (ev_hit hN1 rfl) ?_
  have hs10 : Own w6 ob 5 1 (B.getD (B.length - 1) D0).1 (B.getD (B.length - 1) D0).2.length ((B.getD (B.length - 1) D0).2.map u8v) := hall _ (getD_mem (by omega))
  refine st_step rfl (fun _ h9 => op_load1 (v := (B.getD (B.length - 1) D0).1) one22 (ev_hit hN1 rfl) (by have := hc9 0 (B.getD (B.length - 1) D0).1 (by decide) (el_ll (i := (B.length - 1)) (d := D0) (by omega) (by omega)); simpa using this) h9) ?_
  refine st_g_true (j := 6) (dj := 8) (b := true) rfl rfl rfl (ev_hit hN1 rfl) ?_
  refine st_step rfl (fun _ h9 => op_eql_no Try.underlying22 (ev_hit hN1 rfl) rfl (hBn _ (getD_mem (by omega))) h9) ?_
  refine st_step rfl (fun _ h9 => op_pick_t (ev_hit hN1 rfl) (ev_hit hN1 rfl) h9) ?_
  refine st_nil ?_
  refine hK4 _ _ ?_
  refine wp_cond_split (ev_hit hN1 rfl) (fun c22 => ?_) (fun c22 => ?_)
  · -- 22T
   have c22 := of_decide_eq_true c22
   refine wp_skip ?_
   refine hK3 _ _ ?_
   refine wp_block ?_
   refine reg_from mixed ?_
   intro w12 E11
   have z_w12 := E11.size
   have hs := hs.keep0 E11
   have hall : ∀ x9 ∈ B, Own w12 ob 5 1 x9.1 x9.2.length (x9.2.map u8v) := fun x9 hx9 => (hall x9 hx9).keep0 E11
   have hO2 := hO2.keep0 E11
   have hs10 := hs10.keep0 E11
   have hb := grow_step0 hb E11
   refine from_still (m := 14) 14 (hd := [_, _, _, _, _, _, _, _, _, _, _, _, _, _]) (by kernel_rfl) rfl rfl ?_
   refine st_step rfl (fun _ h9 => op_move (ev_base hN1 rfl s1_0) h9) ?_
   refine st_step rfl (fun _ h9 => op_move (ev_base hN1 rfl s1_0) h9) ?_
   refine st_step rfl (fun _ h9 => op_nil (ev_hit hN1 rfl) h9) ?_
   refine st_step rfl (fun _ h9 => op_field fld40_0 (ev_hit hN1 rfl) h9) ?_
   refine st_step rfl (fun _ h9 => op_load1 (v := u) one38 (ev_hit hN1 rfl) (hs.cell rfl) h9) ?_
   refine st_step rfl (fun _ h9 => op_move (ev_base hN1 rfl s1_0) h9) ?_
   refine st_step rfl (fun _ h9 => op_nil (ev_hit hN1 rfl) h9) ?_
   refine st_step rfl (fun _ h9 => op_field fld40_0 (ev_hit hN1 rfl) h9) ?_
   refine st_step rfl (fun _ h9 => op_load1 (v := u) one38 (ev_hit hN1 rfl) (hs.cell rfl) h9) ?_
   refine st_step rfl (fun _ h9 => op_len_rd Try.underlying38 (ev_hit hN1 rfl) hO2.rdw h9) ?_
   refine st_step rfl (fun _ h9 => op_sub (r := (((B.length - 1) : Nat) : Int)) (ev_hit hN1 rfl) rfl (by rw [IntKind.wrap_i64]; omega) h9) ?_
   have hO13 : Own w12 sb 22 1 (hiV u (B.length - 1)) (B.length - 1) (((B.take (B.length - 1))).flatMap (fun x9 => [x9.1])) := (hO2.hi (m := (B.length - 1)) (by omega)).cast rfl (take_flat1 _ _ _)
   refine st_step rfl (fun _ h9 => op_slice_hiv (m := (B.length - 1)) slt38 (ev_hit hN1 rfl) hO2 (ev_hit hN1 rfl) (by omega) (by omega) h9) ?_
   refine st_step rfl (fun _ h9 => op_nil (ev_hit hN1 rfl) h9) ?_
   refine st_step rfl (fun _ h9 => op_field fld40_0 (ev_hit hN1 rfl) h9) ?_
   refine st_nil ?_
   refine from_seq (tl := [_]) (by decide) (by kernel_rfl) rfl ?_
   have hs_old := hs
   refine op_store (vs := [(hiV u (B.length - 1))]) (cs' := [(hiV u (B.length - 1))]) size38 (ev_hit hN1 rfl) (ev_hit hN1 rfl) hO13.cl rfl (by simp only [List.all_cons, List.all_nil, Bool.true_and, Bool.and_true, hO13.one]; try rfl) hs (Nat.le_of_ble_eq_true rfl) rfl ?_
   intro w16 hs E17
   have z_w16 := E17.size
   have hall : ∀ x9 ∈ B, Own w16 ob 5 1 x9.1 x9.2.length (x9.2.map u8v) := fun x9 hx9 => (hall x9 hx9).keepX hs_old E17 (by decide)
   have hs10 := hs10.keepX hs_old E17 (by decide)
   have hO13 := hO13.keepX hs_old E17 (by decide)
   have hb := grown_trans hb E17
   refine reg_nil ?_
   refine blk_normal ?_
   -- round 7T 22T
   exact loop_next _ hN1 hd1 ⟨_, (B.take (B.length - 1)), rfl, (sl_base hN1 rfl s1_0), (fun x9 hx9 => hBn x9 (List.mem_of_mem_take hx9)), (hBc.trans (cut_go (by omega) c22)), (by rw [List.length_take]; omega), (fun x9 hx9 => hBs x9 (List.mem_of_mem_take hx9)), hb, (by omega), hs, (fun x9 hx9 => hall x9 (List.mem_of_mem_take hx9)), (hO13.cast (by rw [List.length_take]; omega) rfl)⟩ (by rw [List.length_take]; omega)
  · -- 22F
   have c22 := of_decide_eq_false c22
   refine wp_exit (then_exit (then_exit (blk_hit ?_)))
   refine end_ret ?_
   refine ret0 rfl hd1  ⟨_, rfl, ?_⟩
   -- path 7T 22F
   have hce : cutL (A.map Prod.snd) = (B.map Prod.snd) := hBc.trans (cut_stop (.inr c22))
   exact ⟨hb, rfl, u, B, hs, hO2, hall, hBn, hce.symm, hBl, hBs⟩
 · -- 7F
  refine st_step rfl (fun _ h9 => op_cmp (b := false) (ev_hit hN1 rfl) rfl (b_gtr (decide_eq_false g7)) h9) ?_
  refine st_step rfl (fun _ h9 => op_move (ev_hit hN1 rfl) h9) ?_
  refine st_g_false (j := 6) (dj := 8) (b := true) rfl rfl rfl (ev_hit hN1 rfl) rfl rfl ?_
  refine st_g_false (j := 6) (dj := 8) (b := true) rfl rfl rfl (ev_hit hN1 rfl) rfl rfl ?_
  refine st_g_false (j := 6) (dj := 8) (b := true) rfl rfl rfl (ev_hit hN1 rfl) rfl rfl ?_
  refine st_g_false (j := 6) (dj := 8) (b := true) rfl rfl rfl (ev_hit hN1 rfl) rfl rfl ?_
  refine st_g_false (j := 6) (dj := 8) (b := true) rfl rfl rfl (ev_hit hN1 rfl) rfl rfl ?_
  refine st_g_false (j := 6) (dj := 8) (b := true) rfl rfl rfl (ev_hit hN1 rfl) rfl rfl ?_
  refine st_g_false (j := 6) (dj := 8) (b := true) rfl rfl rfl (ev_hit hN1 rfl) rfl rfl ?_
  refine st_g_false (j := 6) (dj := 8) (b := true) rfl rfl rfl (ev_hit hN1 rfl) rfl rfl ?_
  refine st_g_false (j := 6) (dj := 8) (b := true) rfl rfl rfl (ev_hit hN1 rfl) rfl rfl ?_
  refine st_g_false (j := 6) (dj := 8) (b := true) rfl rfl rfl (ev_hit hN1 rfl) rfl rfl ?_
  refine st_g_false (j := 6) (dj := 8) (b := true) rfl rfl rfl (ev_hit hN1 rfl) rfl rfl ?_
  refine st_g_false (j := 6) (dj := 8) (b := true) rfl rfl rfl (ev_hit hN1 rfl) rfl rfl ?_
  refine st_g_false (j := 6) (dj := 8) (b := true) rfl rfl rfl (ev_hit hN1 rfl) rfl rfl ?_
  refine st_step rfl (fun _ h9 => op_pick_f (ev_hit hN1 rfl) rfl h9) ?_
  refine st_nil ?_
  refine hK4 _ _ ?_
  refine wp_cond_false (ev_hit hN1 rfl) ?_
  refine wp_exit (then_exit (then_exit (blk_hit ?_)))
  refine end_ret ?_
  refine ret0 rfl hd1  ⟨_, rfl, ?_⟩
  -- path 7F
  have hce : cutL (A.map Prod.snd) = (B.map Prod.snd) := hBc.trans (cut_stop (.inl (by omega)))
  exact ⟨hb, rfl, u, B, hs, hO2, hall, hBn, hce.symm, hBl, hBs⟩

end Go.Proofs.Ytdhpalioifjfbaa

/- Walks, written by a program: what each function of the translation hands back. -/
namespace Go.Proofs.Ytdhpalioifjfbaa
open Go.Gx Go.RowKit
attribute [local irreducible] wpList wpStill Code.wp Calls

theorem Twin_ret (bl : List UInt8) (v : Value) (w : World) (hl : bl.length ≤ 140000000000000) (hv : RdC w 0 w.heap.size 1 v bl.length (bl.map u8v)) : Ret Try.prog 16 #[v] w (fun v' w' => Below w.heap.size w w' ∧ ∃ g, v' = .slice (some ⟨g, 0, none⟩) bl.length (bl.length + 3) ∧ w.heap.size ≤ g ∧ g < w'.heap.size ∧ Bx w' g 5 ((bl ++ [229, 229, 229]).map u8v)) := by
 have hb := Below.refl w.heap.size w
 refine enter (N := 27) Try.func16 rfl rfl (by simp) fun a0 hN hd hA => ?_
 have s0 : a0.tmps.getD 0 undef = v := hA 0 (by simp)
 clear hA
 refine seq_any fun K1 hK1 => ?_
 refine one_reg ?_
 refine op_assign rfl ?_
 refine reg_nil ?_
 refine hK1 _ _ ?_
 refine seq_any fun K2 hK2 => ?_
 refine one_reg ?_
 refine op_move (ev_base hN rfl s0) ?_
 refine op_len_rd Try.underlying22 (ev_hit hN rfl) hv ?_
 refine op_add (ev_hit hN rfl) rfl (add64 (by omega)) ?_
 refine op_make_row (n := (bl.length + 3)) slt22 ((ev_hit hN rfl).trans (congrArg (Value.int _) (by omega))) ((ev_hit hN rfl).trans (congrArg (Value.int _) (by omega))) rfl (by omega) (by omega) ?_
 intro w3 b8 lo_b8 hi_b8 hB9 E4
 have z_w3 := E4.size
 have hv := hv.keep0 E4
 have hb := below_step0 hb E4 hb.size
 have hB9 : Bx w3 b8 5 (((List.replicate (bl.length + 3) (0 : UInt8)).map u8v)) := by simpa [u8v] using hB9
 refine op_assign (ev_hit hN rfl) ?_
 refine reg_nil ?_
 refine hK2 _ _ ?_
 refine seq_any fun K10 hK10 => ?_
 refine one_reg ?_
 refine op_move (ev_hit hN rfl) ?_
 refine op_move (ev_base hN rfl s0) ?_
 have hB9_old := hB9
 refine op_copy_row slt22 (ev_hit hN rfl) hB9 (by simp) (ev_hit hN rfl) (m := ((bl.length : Nat) : Int)) hv (by simp) (by simp [Value.oneCell', u8v]) ?_
 intro w11 hB9 E12
 have z_w11 := E12.size
 have hv := hv.keep E12 (fun k hk => .inr (by simp at hk; omega))
 have hb := below_step1 hb E12 hb.size (by omega)
 have hB9 : Bx w11 b8 5 (((bl ++ [0, 0, 0]).map u8v)) := by rw [twin_copy] at hB9; exact hB9
 refine reg_nil ?_
 refine hK10 _ _ ?_
 refine seq_any fun K13 hK13 => ?_
 refine seq_any fun K14 hK14 => ?_
 refine one_reg ?_
 refine op_move (ev_base hN rfl s0) ?_
 refine op_len_rd Try.underlying22 (ev_hit hN rfl) hv ?_
 refine op_assign (ev_hit hN rfl) ?_
 refine reg_nil ?_
 refine hK14 _ _ ?_
 refine wp_block ?_
 refine wp_loop_rounds 4 ?_
 refine rounds_any fun K15 hK15 => ?_
 refine seq_any fun K16 hK16 => ?_
 refine seq_any fun K17 hK17 => ?_
 refine one_reg ?_
 refine op_move (ev_hit hN rfl) ?_
 refine op_move (ev_hit hN rfl) ?_
 refine op_len_rd Try.underlying22 (ev_hit hN rfl) (show RdC w11 b8 (b8 + 1) 1 (Value.slice (some ⟨b8, 0, none⟩) (bl.length + 3) (bl.length + 3)) (bl.length + 3) (((bl ++ [0, 0, 0]).map u8v)) from RdC.ofRowAll (c := (bl.length + 3)) hB9 (by simp) (by omega) (by unfold maxLen; omega)) ?_
 refine op_lss (ev_hit hN rfl) (ev_hit hN rfl) (fun c17 => ?_) (fun c17 => ?_)
 · -- 17T
  refine reg_nil ?_
  refine hK17 _ _ ?_
  refine wp_cond_true (ev_hit hN rfl) ?_
  refine wp_skip ?_
  refine hK16 _ _ ?_
  refine seq_any fun K18 hK18 => ?_
  refine wp_block ?_
  refine one_reg ?_
  refine op_move (ev_hit hN rfl) ?_
  refine op_move (ev_hit hN rfl) ?_
  refine op_index_row (i := (bl.length)) slt22 (ev_hit hN rfl) (ev_hit hN rfl) (by omega) (by omega) ?_
  have hB9_old := hB9
  refine op_store_row (v := (Value.int .u8 229)) size5 (ev_hit hN rfl) rfl rfl rfl hB9 (by first | (simp; done) | (simp; omega)) ?_
  intro w19 hB9 E20
  have z_w19 := E20.size
  have hv := hv.keep E20 (fun k hk => .inr (by simp at hk; omega))
  have hb := below_step1 hb E20 hb.size (by omega)
  have hB9 : Bx w19 b8 5 (((bl ++ [229, 0, 0]).map u8v)) := by exact (congrArg (Bx _ _ _) (set_tail bl [0, 0, 0] 0 229)).mp hB9
  refine reg_nil ?_
  refine hK18 _ _ ?_
  refine one_reg ?_
  refine op_move (ev_hit hN rfl) ?_
  refine op_add (ev_hit hN rfl) rfl (add64 (by omega)) ?_
  refine op_assign (ev_hit hN rfl) ?_
  refine reg_nil ?_
  refine hK15 _ _ ?_
  refine rounds_any fun K21 hK21 => ?_
  refine seq_any fun K22 hK22 => ?_
  refine seq_any fun K23 hK23 => ?_
  refine one_reg ?_
  refine op_move (ev_hit hN rfl) ?_
  refine op_move (ev_hit hN rfl) ?_
  refine op_len_rd Try.underlying22 (ev_hit hN rfl) (show RdC w19 b8 (b8 + 1) 1 (Value.slice (some ⟨b8, 0, none⟩) (bl.length + 3) (bl.length + 3)) (bl.length + 3) (((bl ++ [229, 0, 0]).map u8v)) from RdC.ofRowAll (c := (bl.length + 3)) hB9 (by simp) (by omega) (by unfold maxLen; omega)) ?_
  refine op_lss (ev_hit hN rfl) (ev_hit hN rfl) (fun c17 => ?_) (fun c17 => ?_)
  · -- 17T
   refine reg_nil ?_
   refine hK23 _ _ ?_
   refine wp_cond_true (ev_hit hN rfl) ?_
   refine wp_skip ?_
   refine hK22 _ _ ?_
   refine seq_any fun K24 hK24 => ?_
   refine wp_block ?_
   refine one_reg ?_
   refine op_move (ev_hit hN rfl) ?_
   refine op_move (ev_hit hN rfl) ?_
   refine op_index_row (i := ((bl.length) + 1)) slt22 (ev_hit hN rfl) (ev_hit hN rfl) (by omega) (by omega) ?_
   have hB9_old := hB9
   refine op_store_row (v := (Value.int .u8 229)) size5 (ev_hit hN rfl) rfl rfl rfl hB9 (by first | (simp; done) | (simp; omega)) ?_
   intro w25 hB9 E26
   have z_w25 := E26.size
   have hv := hv.keep E26 (fun k hk => .inr (by simp at hk; omega))
   have hb := below_step1 hb E26 hb.size (by omega)
   have hB9 : Bx w25 b8 5 (((bl ++ [229, 229, 0]).map u8v)) := by exact (congrArg (Bx _ _ _) (set_tail bl [229, 0, 0] 1 229)).mp hB9
   refine reg_nil ?_
   refine hK24 _ _ ?_
   refine one_reg ?_
   refine op_move (ev_hit hN rfl) ?_
   refine op_add (ev_hit hN rfl) rfl (add64 (by omega)) ?_
   refine op_assign (ev_hit hN rfl) ?_
   refine reg_nil ?_
   refine hK21 _ _ ?_
   refine rounds_any fun K27 hK27 => ?_
   refine seq_any fun K28 hK28 => ?_
   refine seq_any fun K29 hK29 => ?_
   refine one_reg ?_
   refine op_move (ev_hit hN rfl) ?_
   refine op_move (ev_hit hN rfl) ?_
   refine op_len_rd Try.underlying22 (ev_hit hN rfl) (show RdC w25 b8 (b8 + 1) 1 (Value.slice (some ⟨b8, 0, none⟩) (bl.length + 3) (bl.length + 3)) (bl.length + 3) (((bl ++ [229, 229, 0]).map u8v)) from RdC.ofRowAll (c := (bl.length + 3)) hB9 (by simp) (by omega) (by unfold maxLen; omega)) ?_
   refine op_lss (ev_hit hN rfl) (ev_hit hN rfl) (fun c17 => ?_) (fun c17 => ?_)
   · -- 17T
    refine reg_nil ?_
    refine hK29 _ _ ?_
    refine wp_cond_true (ev_hit hN rfl) ?_
    refine wp_skip ?_
    refine hK28 _ _ ?_
    refine seq_any fun K30 hK30 => ?_
    refine wp_block ?_
    refine one_reg ?_
    refine op_move (ev_hit hN rfl) ?_
    refine op_move (ev_hit hN rfl) ?_
    refine op_index_row (i := (((bl.length) + 1) + 1)) slt22 (ev_hit hN rfl) (ev_hit hN rfl) (by omega) (by omega) ?_
    have hB9_old := hB9
    refine op_store_row (v := (Value.int .u8 229)) size5 (ev_hit hN rfl) rfl rfl rfl hB9 (by first | (simp; done) | (simp; omega)) ?_
    intro w31 hB9 E32
    have z_w31 := E32.size
    have hv := hv.keep E32 (fun k hk => .inr (by simp at hk; omega))
    have hb := below_step1 hb E32 hb.size (by omega)
    have hB9 : Bx w31 b8 5 (((bl ++ [229, 229, 229]).map u8v)) := by exact (congrArg (Bx _ _ _) (set_tail bl [229, 229, 0] 2 229)).mp hB9
    refine reg_nil ?_
    refine hK30 _ _ ?_
    refine one_reg ?_
    refine op_move (ev_hit hN rfl) ?_
    refine op_add (ev_hit hN rfl) rfl (add64 (by omega)) ?_
    refine op_assign (ev_hit hN rfl) ?_
    refine reg_nil ?_
    refine hK27 _ _ ?_
    refine rounds_any fun K33 hK33 => ?_
    refine seq_any fun K34 hK34 => ?_
    refine seq_any fun K35 hK35 => ?_
    refine one_reg ?_
    refine op_move (ev_hit hN rfl) ?_
    refine op_move (ev_hit hN rfl) ?_
    refine op_len_rd Try.underlying22 (ev_hit hN rfl) (show RdC w31 b8 (b8 + 1) 1 (Value.slice (some ⟨b8, 0, none⟩) (bl.length + 3) (bl.length + 3)) (bl.length + 3) (((bl ++ [229, 229, 229]).map u8v)) from RdC.ofRowAll (c := (bl.length + 3)) hB9 (by simp) (by omega) (by unfold maxLen; omega)) ?_
    refine op_lss (ev_hit hN rfl) (ev_hit hN rfl) (fun c17 => ?_) (fun c17 => ?_)
    · -- 17T
     exfalso; omega
    · -- 17F
     refine reg_nil ?_
     refine hK35 _ _ ?_
     refine wp_cond_false (ev_hit hN rfl) ?_
     refine wp_exit (then_exit (then_exit (blk_hit ?_)))
     refine hK13 _ _ ?_
     refine seq_any fun K36 hK36 => ?_
     refine one_reg ?_
     refine op_move (ev_hit hN rfl) ?_
     refine op_move (ev_base hN rfl s0) ?_
     refine op_len_rd Try.underlying22 (ev_hit hN rfl) hv ?_
     refine op_slice_row (m := bl.length) slt22 (ev_hit hN rfl) (ev_hit hN rfl) (by omega) (by omega) ?_
     refine op_assign (ev_hit hN rfl) ?_
     refine reg_nil ?_
     refine hK36 _ _ ?_
     refine wp_ret ?_
     refine ret1 rfl hd (ev_hit hN rfl) ⟨_, rfl, ?_⟩
     -- path 17T 17T 17T 17F
     exact ⟨hb, _, rfl, by omega, by have := hB9.lt; omega, hB9⟩
   · -- 17F
    exfalso; omega
  · -- 17F
   exfalso; omega
 · -- 17F
  exfalso; omega

theorem Kept_ret (tl bl : List UInt8) (g : Nat) (v : Value) (w : World) (htl : tl.length ≤ 140000000000000) (hl : bl.length ≤ 140000000000000) (hg : Bx w g 5 ((tl ++ [229, 229, 229]).map u8v)) (hv : RdC w 0 w.heap.size 1 v bl.length (bl.map u8v)) : Ret Try.prog 22 #[(Value.slice (some ⟨g, 0, none⟩) tl.length (tl.length + 3)), v] w (fun v' w' => Below w.heap.size w w' ∧ v' = .bool (decide (tl = bl))) := by
 have hg_lt := hg.lt
 have hlen : (tl ++ [229, 229, 229]).length = tl.length + 3 := by simp
 have hb := Below.refl w.heap.size w
 refine enter (N := 38) Try.func22 rfl rfl (by simp) fun a0 hN hd hA => ?_
 have s0 : a0.tmps.getD 0 undef = (Value.slice (some ⟨g, 0, none⟩) tl.length (tl.length + 3)) := hA 0 (by simp)
 have s1 : a0.tmps.getD 1 undef = v := hA 1 (by simp)
 clear hA
 refine seq_any fun K37 hK37 => ?_
 refine one_reg ?_
 refine op_assign rfl ?_
 refine reg_nil ?_
 refine hK37 _ _ ?_
 refine seq_any fun K38 hK38 => ?_
 refine one_reg ?_
 refine op_move (ev_base hN rfl s0) ?_
 refine op_move (ev_base hN rfl s0) ?_
 refine op_cap (c := (tl.length + 3)) Try.underlying22 (.inr ⟨_, _, (ev_hit hN rfl)⟩) ?_
 refine op_slice_row (m := (tl.length + 3)) slt22 (ev_hit hN rfl) (ev_hit hN rfl) (by omega) (by omega) ?_
 refine op_assign (ev_hit hN rfl) ?_
 refine reg_nil ?_
 refine hK38 _ _ ?_
 refine seq_any fun K39 hK39 => ?_
 refine seq_any fun K40 hK40 => ?_
 refine one_reg ?_
 refine op_move (ev_base hN rfl s0) ?_
 refine op_str_of (bl := tl) Try.underlying22 Try.underlying5 Try.underlying9 (ev_hit hN rfl) (show RdC w g (g + 1) 1 (Value.slice (some ⟨g, 0, none⟩) tl.length (tl.length + 3)) tl.length ((tl.map u8v)) from by simpa using (RdC.ofRow (sz := 1) (m := tl.length) (c := (tl.length + 3)) hg (by simp) (by omega) (by unfold maxLen; omega))) ?_
 refine op_move (ev_base hN rfl s1) ?_
 refine op_str_of (bl := bl) Try.underlying22 Try.underlying5 Try.underlying9 (ev_hit hN rfl) hv ?_
 refine op_sneq (ev_hit hN rfl) (ev_hit hN rfl) (fun c15 => ?_) (fun c15 => ?_)
 · -- 15T
  refine op_move (ev_hit hN rfl) ?_
  refine g_false (j := 5) (dj := 16) (b := false) rfl rfl rfl (ev_hit hN rfl) rfl rfl ?_
  refine g_false (j := 5) (dj := 16) (b := false) rfl rfl rfl (ev_hit hN rfl) rfl rfl ?_
  refine g_false (j := 5) (dj := 16) (b := false) rfl rfl rfl (ev_hit hN rfl) rfl rfl ?_
  refine g_false (j := 5) (dj := 16) (b := false) rfl rfl rfl (ev_hit hN rfl) rfl rfl ?_
  refine g_false (j := 5) (dj := 16) (b := false) rfl rfl rfl (ev_hit hN rfl) rfl rfl ?_
  refine g_false (j := 5) (dj := 16) (b := false) rfl rfl rfl (ev_hit hN rfl) rfl rfl ?_
  refine op_pick_t (ev_hit hN rfl) rfl ?_
  refine reg_nil ?_
  refine hK40 _ _ ?_
  refine wp_cond_true (ev_hit hN rfl) ?_
  refine seq_any fun K41 hK41 => ?_
  refine one_reg ?_
  refine op_assign rfl ?_
  refine reg_nil ?_
  refine hK41 _ _ ?_
  refine wp_ret (then_ret ( ?_))
  refine ret1 rfl hd (ev_hit hN rfl) ⟨_, rfl, ?_⟩
  -- path 15T
  exact ⟨hb, congrArg Value.bool (by simp [*])⟩
 · -- 15F
  refine op_move (ev_hit hN rfl) ?_
  refine g_true (j := 5) (dj := 16) (b := false) rfl rfl rfl (ev_hit hN rfl) ?_
  refine op_move (ev_hit hN rfl) ?_
  refine g_true (j := 5) (dj := 16) (b := false) rfl rfl rfl (ev_hit hN rfl) ?_
  refine op_len_rd Try.underlying22 (ev_hit hN rfl) (show RdC w g (g + 1) 1 (Value.slice (some ⟨g, 0, none⟩) (tl.length + 3) (tl.length + 3)) (tl.length + 3) (((tl ++ [229, 229, 229]).map u8v)) from RdC.ofRowAll (c := (tl.length + 3)) hg (by simp) (by omega) (by unfold maxLen; omega)) ?_
  refine g_true (j := 5) (dj := 16) (b := false) rfl rfl rfl (ev_hit hN rfl) ?_
  refine op_move (ev_base hN rfl s1) ?_
  refine g_true (j := 5) (dj := 16) (b := false) rfl rfl rfl (ev_hit hN rfl) ?_
  refine op_len_rd Try.underlying22 (ev_hit hN rfl) hv ?_
  refine g_true (j := 5) (dj := 16) (b := false) rfl rfl rfl (ev_hit hN rfl) ?_
  refine op_add (ev_hit hN rfl) rfl (add64 (by omega)) ?_
  refine g_true (j := 5) (dj := 16) (b := false) rfl rfl rfl (ev_hit hN rfl) ?_
  refine op_lss (ev_hit hN rfl) (ev_hit hN rfl) (fun c22 => ?_) (fun c22 => ?_)
  · -- 22T
   exfalso; have := congrArg List.length c15; omega
  · -- 22F
   refine op_pick_f (ev_hit hN rfl) (ev_hit hN rfl) ?_
   refine reg_nil ?_
   refine hK40 _ _ ?_
   refine wp_cond_false (ev_hit hN rfl) ?_
   refine wp_skip ?_
   refine hK39 _ _ ?_
   refine seq_any fun K42 hK42 => ?_
   refine seq_any fun K43 hK43 => ?_
   refine one_reg ?_
   refine op_move (ev_base hN rfl s1) ?_
   refine op_len_rd Try.underlying22 (ev_hit hN rfl) hv ?_
   refine op_assign (ev_hit hN rfl) ?_
   refine reg_nil ?_
   refine hK43 _ _ ?_
   refine wp_block ?_
   refine wp_loop_rounds 4 ?_
   refine rounds_any fun K44 hK44 => ?_
   refine seq_any fun K45 hK45 => ?_
   refine seq_any fun K46 hK46 => ?_
   refine one_reg ?_
   refine op_move (ev_hit hN rfl) ?_
   refine op_move (ev_base hN rfl s1) ?_
   refine op_len_rd Try.underlying22 (ev_hit hN rfl) hv ?_
   refine op_add (ev_hit hN rfl) rfl (add64 (by omega)) ?_
   refine op_lss (ev_hit hN rfl) (ev_hit hN rfl) (fun c30 => ?_) (fun c30 => ?_)
   · -- 30T
    refine reg_nil ?_
    refine hK46 _ _ ?_
    refine wp_cond_true (ev_hit hN rfl) ?_
    refine wp_skip ?_
    refine hK45 _ _ ?_
    refine seq_any fun K47 hK47 => ?_
    refine wp_block ?_
    refine seq_any fun K48 hK48 => ?_
    refine one_reg ?_
    have hlen2 := congrArg List.length c15
    refine op_move (ev_hit hN rfl) ?_
    refine op_move (ev_hit hN rfl) ?_
    refine op_index_rd slt22 (ev_hit hN rfl) (show RdC w g (g + 1) 1 (Value.slice (some ⟨g, 0, none⟩) (tl.length + 3) (tl.length + 3)) (tl.length + 3) (((tl ++ [229, 229, 229]).map u8v)) from RdC.ofRowAll (c := (tl.length + 3)) hg (by simp) (by omega) (by unfold maxLen; omega)) (ev_hit hN rfl) (by omega) (by omega) ?_
    intro b49 o50 h0b49 h1b49 hc51
    refine op_load1 (v := (Value.int .u8 (((tl ++ [229, 229, 229]).getD (bl.length) 0).toNat : Int))) one5 (ev_hit hN rfl) (by have := hc51 0 (Value.int .u8 (((tl ++ [229, 229, 229]).getD (bl.length) 0).toNat : Int)) (by decide) (el_u8 (i := (bl.length)) (by omega) (by omega)); simpa using this) ?_
    refine op_neq (ev_hit hN rfl) rfl (fun c37 => ?_) (fun c37 => ?_)
    · -- 37T
     exfalso; subst c15; exact c37 (congrArg (fun q : UInt8 => ((q.toNat : Nat) : Int)) (getD_tail tl [229, 229, 229] 0))
    · -- 37F
     refine reg_nil ?_
     refine hK48 _ _ ?_
     refine wp_cond_false (ev_hit hN rfl) ?_
     refine wp_skip ?_
     refine hK47 _ _ ?_
     refine one_reg ?_
     have hlen2 := congrArg List.length c15
     refine op_move (ev_hit hN rfl) ?_
     refine op_add (ev_hit hN rfl) rfl (add64 (by omega)) ?_
     refine op_assign (ev_hit hN rfl) ?_
     refine reg_nil ?_
     refine hK44 _ _ ?_
     refine rounds_any fun K52 hK52 => ?_
     refine seq_any fun K53 hK53 => ?_
     refine seq_any fun K54 hK54 => ?_
     refine one_reg ?_
     refine op_move (ev_hit hN rfl) ?_
     refine op_move (ev_base hN rfl s1) ?_
     refine op_len_rd Try.underlying22 (ev_hit hN rfl) hv ?_
     refine op_add (ev_hit hN rfl) rfl (add64 (by omega)) ?_
     refine op_lss (ev_hit hN rfl) (ev_hit hN rfl) (fun c30 => ?_) (fun c30 => ?_)
     · -- 30T
      refine reg_nil ?_
      refine hK54 _ _ ?_
      refine wp_cond_true (ev_hit hN rfl) ?_
      refine wp_skip ?_
      refine hK53 _ _ ?_
      refine seq_any fun K55 hK55 => ?_
      refine wp_block ?_
      refine seq_any fun K56 hK56 => ?_
      refine one_reg ?_
      have hlen2 := congrArg List.length c15
      refine op_move (ev_hit hN rfl) ?_
      refine op_move (ev_hit hN rfl) ?_
      refine op_index_rd slt22 (ev_hit hN rfl) (show RdC w g (g + 1) 1 (Value.slice (some ⟨g, 0, none⟩) (tl.length + 3) (tl.length + 3)) (tl.length + 3) (((tl ++ [229, 229, 229]).map u8v)) from RdC.ofRowAll (c := (tl.length + 3)) hg (by simp) (by omega) (by unfold maxLen; omega)) (ev_hit hN rfl) (by omega) (by omega) ?_
      intro b57 o58 h0b57 h1b57 hc59
      refine op_load1 (v := (Value.int .u8 (((tl ++ [229, 229, 229]).getD ((bl.length) + 1) 0).toNat : Int))) one5 (ev_hit hN rfl) (by have := hc59 0 (Value.int .u8 (((tl ++ [229, 229, 229]).getD ((bl.length) + 1) 0).toNat : Int)) (by decide) (el_u8 (i := ((bl.length) + 1)) (by omega) (by omega)); simpa using this) ?_
      refine op_neq (ev_hit hN rfl) rfl (fun c37 => ?_) (fun c37 => ?_)
      · -- 37T
       exfalso; subst c15; exact c37 (congrArg (fun q : UInt8 => ((q.toNat : Nat) : Int)) (getD_tail tl [229, 229, 229] 1))
      · -- 37F
       refine reg_nil ?_
       refine hK56 _ _ ?_
       refine wp_cond_false (ev_hit hN rfl) ?_
       refine wp_skip ?_
       refine hK55 _ _ ?_
       refine one_reg ?_
       have hlen2 := congrArg List.length c15
       refine op_move (ev_hit hN rfl) ?_
       refine op_add (ev_hit hN rfl) rfl (add64 (by omega)) ?_
       refine op_assign (ev_hit hN rfl) ?_
       refine reg_nil ?_
       refine hK52 _ _ ?_
       refine rounds_any fun K60 hK60 => ?_
       refine seq_any fun K61 hK61 => ?_
       refine seq_any fun K62 hK62 => ?_
       refine one_reg ?_
       refine op_move (ev_hit hN rfl) ?_
       refine op_move (ev_base hN rfl s1) ?_
       refine op_len_rd Try.underlying22 (ev_hit hN rfl) hv ?_
       refine op_add (ev_hit hN rfl) rfl (add64 (by omega)) ?_
       refine op_lss (ev_hit hN rfl) (ev_hit hN rfl) (fun c30 => ?_) (fun c30 => ?_)
       · -- 30T
        refine reg_nil ?_
        refine hK62 _ _ ?_
        refine wp_cond_true (ev_hit hN rfl) ?_
        refine wp_skip ?_
        refine hK61 _ _ ?_
        refine seq_any fun K63 hK63 => ?_
        refine wp_block ?_
        refine seq_any fun K64 hK64 => ?_
        refine one_reg ?_
        have hlen2 := congrArg List.length c15
        refine op_move (ev_hit hN rfl) ?_
        refine op_move (ev_hit hN rfl) ?_
        refine op_index_rd slt22 (ev_hit hN rfl) (show RdC w g (g + 1) 1 (Value.slice (some ⟨g, 0, none⟩) (tl.length + 3) (tl.length + 3)) (tl.length + 3) (((tl ++ [229, 229, 229]).map u8v)) from RdC.ofRowAll (c := (tl.length + 3)) hg (by simp) (by omega) (by unfold maxLen; omega)) (ev_hit hN rfl) (by omega) (by omega) ?_
        intro b65 o66 h0b65 h1b65 hc67
        refine op_load1 (v := (Value.int .u8 (((tl ++ [229, 229, 229]).getD (((bl.length) + 1) + 1) 0).toNat : Int))) one5 (ev_hit hN rfl) (by have := hc67 0 (Value.int .u8 (((tl ++ [229, 229, 229]).getD (((bl.length) + 1) + 1) 0).toNat : Int)) (by decide) (el_u8 (i := (((bl.length) + 1) + 1)) (by omega) (by omega)); simpa using this) ?_
        refine op_neq (ev_hit hN rfl) rfl (fun c37 => ?_) (fun c37 => ?_)
        · -- 37T
         exfalso; subst c15; exact c37 (congrArg (fun q : UInt8 => ((q.toNat : Nat) : Int)) (getD_tail tl [229, 229, 229] 2))
        · -- 37F
         refine reg_nil ?_
         refine hK64 _ _ ?_
         refine wp_cond_false (ev_hit hN rfl) ?_
         refine wp_skip ?_
         refine hK63 _ _ ?_
         refine one_reg ?_
         have hlen2 := congrArg List.length c15
         refine op_move (ev_hit hN rfl) ?_
         refine op_add (ev_hit hN rfl) rfl (add64 (by omega)) ?_
         refine op_assign (ev_hit hN rfl) ?_
         refine reg_nil ?_
         refine hK60 _ _ ?_
         refine rounds_any fun K68 hK68 => ?_
         refine seq_any fun K69 hK69 => ?_
         refine seq_any fun K70 hK70 => ?_
         refine one_reg ?_
         refine op_move (ev_hit hN rfl) ?_
         refine op_move (ev_base hN rfl s1) ?_
         refine op_len_rd Try.underlying22 (ev_hit hN rfl) hv ?_
         refine op_add (ev_hit hN rfl) rfl (add64 (by omega)) ?_
         refine op_lss (ev_hit hN rfl) (ev_hit hN rfl) (fun c30 => ?_) (fun c30 => ?_)
         · -- 30T
          exfalso; omega
         · -- 30F
          refine reg_nil ?_
          refine hK70 _ _ ?_
          refine wp_cond_false (ev_hit hN rfl) ?_
          refine wp_exit (then_exit (then_exit (blk_hit ?_)))
          refine hK42 _ _ ?_
          refine seq_any fun K71 hK71 => ?_
          refine one_reg ?_
          refine op_assign rfl ?_
          refine reg_nil ?_
          refine hK71 _ _ ?_
          refine wp_ret ?_
          refine ret1 rfl hd (ev_hit hN rfl) ⟨_, rfl, ?_⟩
          -- path 15F 22F 30T 37F 30T 37F 30T 37F 30F
          exact ⟨hb, congrArg Value.bool (by simp [*])⟩
       · -- 30F
        exfalso; omega
     · -- 30F
      exfalso; omega
   · -- 30F
    exfalso; omega

theorem Spoil_ret (v : Value) (n base : Nat) (cs : List Value) (w : World) (O : Own w base 5 1 v n cs) : Ret Try.prog 23 #[v] w (fun v' w' => w.grownBy w' v.ownBlock ∧ v' = .tuple #[]) := by
 have hb := grown_refl w v.ownBlock
 refine enter (N := 17) Try.func23 rfl rfl (by simp) fun a0 hN hd hA => ?_
 have s0 : a0.tmps.getD 0 undef = v := hA 0 (by simp)
 clear hA
 refine seq_any fun K72 hK72 => ?_
 refine one_reg ?_
 refine op_move (ev_base hN rfl s0) ?_
 refine op_move (ev_base hN rfl s0) ?_
 obtain ⟨cap73, hcap74_1, hcap74_2, hcap74⟩ := O.capOf
 have hcap74_3 : cap73 ≤ 9223372036854775807 := hcap74_2
 refine op_cap (c := cap73) Try.underlying22 (by rw [(ev_hit hN rfl)]; exact hcap74) ?_
 refine op_slice_cap slt22 (ev_hit hN rfl) O hcap74 (ev_hit hN rfl) ?_
 intro v75 cs76 hO77 ho78
 refine op_assign (ev_hit hN rfl) ?_
 refine reg_nil ?_
 refine hK72 _ _ ?_
 refine seq_any fun K79 hK79 => ?_
 refine one_reg ?_
 refine op_assign rfl ?_
 refine reg_nil ?_
 refine hK79 _ _ ?_
 refine wp_block ?_
 refine loop_m (fun mz_ az_ w' => ∃ (i : Nat) (cs1 : List Value), mz_ = cap73 - i ∧ (az_.tmps.getD 2 undef = v75) ∧ (az_.tmps.getD 3 undef = (Value.int .i64 ((i : Nat) : Int))) ∧ (i ≤ cap73) ∧ (w.grownBy w' v.ownBlock) ∧ (w.heap.size ≤ w'.heap.size) ∧ (Own w' base 5 1 v75 cap73 (cs1))) _ hN hd ⟨0, _, rfl, (sl_hit hN rfl), (sl_hit hN rfl), Nat.zero_le _, hb, (Nat.le_refl _), hO77⟩ ?_
 rintro _ a80 w80 hN80 hd80 ⟨i, cs1, rfl, s80_2, s80_3, hi, hb, zl_w80, hO81⟩
 have z_w80 := hb.size
 refine seq_any fun K82 hK82 => ?_
 refine seq_any fun K83 hK83 => ?_
 refine one_reg ?_
 refine op_move (ev_base hN80 rfl s80_3) ?_
 refine op_move (ev_base hN80 rfl s80_2) ?_
 refine op_len_rd Try.underlying22 (ev_hit hN80 rfl) hO81.rdw ?_
 refine op_lss (ev_hit hN80 rfl) (ev_hit hN80 rfl) (fun c11 => ?_) (fun c11 => ?_)
 · -- 11T
  refine reg_nil ?_
  refine hK83 _ _ ?_
  refine wp_cond_true (ev_hit hN80 rfl) ?_
  refine wp_skip ?_
  refine hK82 _ _ ?_
  refine seq_any fun K84 hK84 => ?_
  refine wp_block ?_
  refine one_reg ?_
  refine op_move (ev_base hN80 rfl s80_2) ?_
  refine op_move (ev_base hN80 rfl s80_3) ?_
  refine op_index_own (i := i) slt22 (ev_hit hN80 rfl) hO81 (ev_hit hN80 rfl) (by omega) (by omega) ?_
  intro b85 o86 lo_b85 hA87
  have hA87 : AtV v75 (i) b85 o86 := by simpa using hA87
  have hP90 := hO81
  refine op_store_own (vs := [(Value.int .u8 90)]) size5 (ev_hit hN80 rfl) rfl rfl rfl rfl hP90 hA87 (by have := hP90.1; simp; omega) ?_
  intro w88 hO91 E89
  have z_w88 := E89.size
  have hb := grow_stepX hb E89 (ho78.trans rfl)
  have hO91 : Own w88 base 5 1 v75 cap73 ((cs1.take (i) ++ [(Value.int .u8 90)] ++ cs1.drop (i + 1))) := by simpa using hO91
  refine reg_nil ?_
  refine hK84 _ _ ?_
  refine one_reg ?_
  refine op_move (ev_base hN80 rfl s80_3) ?_
  refine op_add (ev_hit hN80 rfl) rfl (add64 (by omega)) ?_
  refine op_assign (ev_hit hN80 rfl) ?_
  refine reg_nil ?_
  -- round 11T
  exact loop_next _ hN80 hd80 ⟨i + 1, _, rfl, (sl_base hN80 rfl s80_2), (sl_hit hN80 rfl).trans (congrArg (Value.int .i64) (by omega)), (by omega), hb, (by omega), hO91⟩ (by omega)
 · -- 11F
  refine reg_nil ?_
  refine hK83 _ _ ?_
  refine wp_cond_false (ev_hit hN80 rfl) ?_
  refine wp_exit (then_exit (then_exit (blk_hit ?_)))
  refine end_ret ?_
  refine ret0 rfl hd80  ⟨_, rfl, ?_⟩
  -- path 11F
  exact ⟨hb, rfl⟩

end Go.Proofs.Ytdhpalioifjfbaa
