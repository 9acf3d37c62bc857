/- Walks, written by a program: what each function of the translation hands back. -/
import Derived.Test.YtdhpalioifjfbaaProg
import Derived.KernelRfl
import Derived.Test.YtdhpalioifjfbaaB2
namespace Go.Proofs.Ytdhpalioifjfbaa
open Go.Gx Go.RowKit
attribute [local irreducible] wpList wpStill Code.wp Calls

theorem packs_ret (bs : By) (vb : Value) (base p : Nat) (w : World) (hl : bs.length = 256) (hx : Bx w p 50 [vb]) (O : Own w base 5 1 vb 256 (bs.map u8v)) (L : List By) (R : Rep bs L) : Ret Try.prog 53 #[(ptr p 0)] w (fun v' w' => w.grownBy w' vb.ownBlock ∧ v' = .tuple #[] ∧ ∃ bs', Own w' base 5 1 vb 256 (bs'.map u8v) ∧ Rep bs' L ∧ numB bs' 2 + sumL L = 256) := by
 have hvk : ∀ k, vb.ownBlock = some k → k < w.heap.size := fun k hk => (O.lt k hk).2
 have hfit : 8 + L.length * 4 + sumL L ≤ 256 := by have := R.fit; have := R.sum; omega
 have hb := grown_refl w vb.ownBlock
 refine enter (N := 62) Try.func53 rfl rfl (by simp) fun a0 hN hd hA => ?_
 have s0 : a0.tmps.getD 0 undef = (ptr p 0) := hA 0 (by simp)
 clear hA
 refine seq_any fun K70 hK70 => ?_
 refine one_reg ?_
 refine op_assign rfl ?_
 refine reg_nil ?_
 refine hK70 _ _ ?_
 refine seq_any fun K71 hK71 => ?_
 refine seq_any fun K72 hK72 => ?_
 refine one_reg ?_
 refine op_move (ev_base hN rfl s0) ?_
 refine op_fn (vs := [(ptr p 0)]) ok37 ⟨(ev_hit hN rfl), trivial⟩ (many_ret bs _ _ _ _ (by first | assumption | exact Rep.len (by assumption)) hx O L R) ?_
 rintro _ w74 ⟨E75, rfl⟩
 have E75 := grown_of_below E75
 have z_w74 := E75.size
 have hx := hx.keep0 E75
 have O := O.keep0 E75
 have hb := grow_step0 hb E75
 have hm_73 := Rep.fits R
 refine op_move rfl ?_
 refine reg_nil ?_
 refine hK72 _ _ ?_
 refine wp_block ?_
 refine loop_m (fun mz_ az_ w' => ∃ (s : Nat) (u : Value) (acc : List ByV), mz_ = L.length - s ∧ (az_.tmps.getD 0 undef = (ptr p 0)) ∧ (az_.tmps.getD 8 undef = (Value.int .i64 ((L.length : Nat) : Int))) ∧ (az_.tmps.getD 9 undef = (Value.int .i64 ((s : Nat) : Int))) ∧ (az_.tmps.getD 2 undef = u) ∧ (s ≤ L.length) ∧ (acc.map Prod.snd = L.take s) ∧ (w.grownBy w' vb.ownBlock) ∧ (w74.heap.size ≤ w'.heap.size) ∧ (Bx w' p 50 [vb]) ∧ (Own w' base 5 1 vb 256 (bs.map u8v)) ∧ (∀ x9 ∈ acc, Own w' w.heap.size 5 1 x9.1 x9.2.length (x9.2.map u8v)) ∧ (Own w' w.heap.size 22 1 u s (acc.flatMap (fun x9 => [x9.1])))) _ hN hd ⟨0, _, [], rfl, (sl_base hN rfl s0), (sl_hit hN rfl), (sl_hit hN rfl), (sl_hit hN rfl), Nat.zero_le _, rfl, hb, (Nat.le_refl _), hx, O, (fun x9 hx9 => absurd hx9 List.not_mem_nil), (Own.nil _ _ _ _)⟩ ?_
 rintro _ a76 w76 hN76 hd76 ⟨s, u, acc, rfl, s76_0, s76_8, s76_9, s76_2, hs, hacc, hb, zl_w76, hx, O, hall, hO77⟩
 have z_w76 := hb.size
 refine seq_any fun K78 hK78 => ?_
 refine one_reg ?_
 refine op_lss (ev_base hN76 rfl s76_9) (ev_base hN76 rfl s76_8) (fun c10 => ?_) (fun c10 => ?_)
 · -- 10T
  refine reg_nil ?_
  refine hK78 _ _ ?_
  refine seq_any fun K79 hK79 => ?_
  refine wp_cond_true (ev_hit hN76 rfl) ?_
  refine wp_skip ?_
  refine hK79 _ _ ?_
  refine seq_any fun K80 hK80 => ?_
  refine wp_block ?_
  refine seq_any fun K81 hK81 => ?_
  refine one_reg ?_
  refine op_move (ev_base hN76 rfl s76_9) ?_
  refine op_assign (ev_hit hN76 rfl) ?_
  refine reg_nil ?_
  refine hK81 _ _ ?_
  have hsi := sizeL_in (L := L) (s := s) (by omega)
  have hrc := (R.recs s (by omega)).2.1
  have hgt := R.get (s := s) (by omega)
  have O_s := O
  have hO77_s := hO77
  refine reg_split (hd := [_, _, _, _, _, _, _, _, _, _, _, _, _, _, _, _, _, _, _]) (tl := _) 19 mixed (by kernel_rfl) rfl rfl ?_
  refine any_chain (Φ := phiC [(fun _ _ uz _ => uz = u), chP 0, (fun _ _ uz _ => uz = (ptr p 0)), (fun _ _ uz _ => uz = (ptr p 0)), (fun _ _ uz _ => uz = (ptr p 0)), (fun _ _ uz _ => uz = vb), (fun _ _ uz _ => uz = (ptr p 0)), (fun _ _ uz _ => uz = (Value.int .i64 ((s : Nat) : Int))), (fun _ _ uz _ => uz = (Value.int .i64 (((numB bs (8 + s * 4)) : Nat) : Int))), (fun _ _ uz _ => uz = (ptr p 0)), (fun _ _ uz _ => uz = (Value.int .i64 ((s : Nat) : Int))), (fun _ _ uz _ => uz = (Value.int .i64 (((numB bs (8 + s * 4)) : Nat) : Int))), (fun _ _ uz _ => uz = (ptr p 0)), (fun _ _ uz _ => uz = (Value.int .i64 ((s : Nat) : Int))), (fun _ _ uz _ => uz = (Value.int .i64 (((sizeL L ((s : Nat) : Int)) : Nat) : Int))), (fun _ _ uz _ => uz = (Value.int .i64 ((((numB bs (8 + s * 4)) : Nat) : Int) + (((sizeL L ((s : Nat) : Int)) : Nat) : Int)))), (fun _ vz uz w' => ∃ (v93 : Value), uz = v93 ∧ RdC w' base w76.heap.size 1 v93 ((L.getD s []).length) (((L.getD s [])).map u8v) ∧ (w76.heap.size ≤ w'.heap.size ∧ ∀ k, vz.ownBlock = some k → w76.heap.size ≤ k)), chQ 1, (fun cz vz uz w' => cz = 2 ∧  ∃ (b103 : Nat), uz = (Value.slice (some ⟨b103, 0, none⟩) 1 1) ∧ w76.heap.size ≤ b103 ∧ Bx w' b103 22 [vz] ∧ vz.ownBlock ≠ some b103)]) (C := CL [(fun vz w' => Own w' w.heap.size 5 1 vz 0 ([])), (fun vz w' => Own w' w.heap.size 5 1 vz 0 ([])), (fun vz w' => Own w' w.heap.size 5 1 vz (0 + ((L.getD s []).length)) (((L.getD s [])).map u8v))]) ⟨[1, 17], fun c => [62, 13, 29].getD c 62⟩ (Value.slice none 0 0) (by kernel_rfl) (by kernel_rfl) (by kernel_rfl) (by kernel_rfl) hN76 (StK.get0 (n := 2) (StK.eq (StK.ch (StK.eq (StK.eq (StK.eq (StK.eq (StK.eq (StK.eq (StK.eq (StK.eq (StK.eq (StK.eq (StK.eq (StK.eq (StK.eq (StK.eq (StK.cons (fun c v u w1 w2 E h => by obtain ⟨x0, hv, f0, q0⟩ := h; exact ⟨x0, hv, f0.keep0 E, ⟨Nat.le_trans q0.1 E.size, q0.2⟩⟩) (fun c v v' u w1 w2 _ E h => by obtain ⟨x0, hv, f0, q0⟩ := h; exact ⟨x0, hv, f0.keep E.1 (fun k hk => .inr (q0.2 k hk)), ⟨Nat.le_trans q0.1 E.1.size, ge_step E q0.1 q0.2⟩⟩) (StK.chq (StK.cons (fun c v u w1 w2 E h => by obtain ⟨hc9, x0, hv, l0, f0, q0⟩ := h; exact ⟨hc9, x0, hv, l0, f0.keep0 E, q0⟩) (fun c v v' u w1 w2 hc9 E h => absurd h.1 (Nat.ne_of_lt hc9)) (StK.nil))))))))))))))))))))) (StK.get1 (n := 2) (StK.eq (StK.ch (StK.eq (StK.eq (StK.eq (StK.eq (StK.eq (StK.eq (StK.eq (StK.eq (StK.eq (StK.eq (StK.eq (StK.eq (StK.eq (StK.eq (StK.cons (fun c v u w1 w2 E h => by obtain ⟨x0, hv, f0, q0⟩ := h; exact ⟨x0, hv, f0.keep0 E, ⟨Nat.le_trans q0.1 E.size, q0.2⟩⟩) (fun c v v' u w1 w2 _ E h => by obtain ⟨x0, hv, f0, q0⟩ := h; exact ⟨x0, hv, f0.keep E.1 (fun k hk => .inr (q0.2 k hk)), ⟨Nat.le_trans q0.1 E.1.size, ge_step E q0.1 q0.2⟩⟩) (StK.chq (StK.cons (fun c v u w1 w2 E h => by obtain ⟨hc9, x0, hv, l0, f0, q0⟩ := h; exact ⟨hc9, x0, hv, l0, f0.keep0 E, q0⟩) (fun c v v' u w1 w2 hc9 E h => absurd h.1 (Nat.ne_of_lt hc9)) (StK.nil))))))))))))))))))))) (StL2.get0 (StL2.own (StL2.own (StL2.own (StL2.nil))))) (StL2.get1 (StL2.own (StL2.own (StL2.own (StL2.nil))))) (Own.nil w76 w.heap.size 5 1) (ObLn.get (ObLn.cons ?_ (ObLn.pass rfl (ObLn.cons ?_ (ObLn.cons ?_ (ObLn.cons ?_ (ObLn.cons ?_ (ObLn.cons ?_ (ObLn.cons ?_ (ObLn.cons ?_ (ObLn.cons ?_ (ObLn.cons ?_ (ObLn.cons ?_ (ObLn.cons ?_ (ObLn.cons ?_ (ObLn.cons ?_ (ObLn.cons ?_ (ObLn.cons ?_ (ObLn.pass rfl (ObLn.cons ?_ (ObLn.nil))))))))))))))))))))) (ObLc.get (ObLc.cons ?_ (ObLc.cons ?_ (ObLc.nil)))) ?_
  ·
   intro aA wA ccA cvA hNA hclA hRA hltA hvoA hbsA hdpA
   have qA_2 := (hbsA 2 rfl).trans (sl_base hN76 rfl s76_2)
   refine op_move (ev_base hNA rfl qA_2) ?_
   exact obNc_end rfl rfl (grown_refl _ _)
  ·
   intro aA wA ccA cvA hNA hclA hRA hltA hvoA hbsA hdpA
   have qA_0 := (hbsA 0 rfl).trans (sl_base hN76 rfl s76_0)
   refine op_move (ev_base hNA rfl qA_0) ?_
   exact obNc_end rfl rfl (grown_refl _ _)
  ·
   intro aA wA ccA cvA hNA hclA hRA hltA hvoA hbsA hdpA
   have qA_14 : Sl aA 14 (ptr p 0) := hdpA 2 _ 14 (by kernel_rfl) rfl rfl
   refine op_nil (ev_base hNA rfl qA_14) ?_
   exact obNc_end rfl rfl (grown_refl _ _)
  ·
   intro aA wA ccA cvA hNA hclA hRA hltA hvoA hbsA hdpA
   have qA_15 : Sl aA 15 (ptr p 0) := hdpA 3 _ 15 (by kernel_rfl) rfl rfl
   refine op_field fld50_0 (ev_base hNA rfl qA_15) ?_
   exact obNc_end rfl rfl (grown_refl _ _)
  ·
   intro aA wA ccA cvA hNA hclA hRA hltA hvoA hbsA hdpA
   have hRA : w76.grownBy wA (Value.slice none 0 0).ownBlock := hRA
   have hnil_o := (Own.nil w76 w.heap.size 5 1)
   have z_wA := hRA.size
   have hb := grow_step0 hb hRA
   have hx := hx.keep0 hRA
   have O := O.keep0 hRA
   have hall := fun x9 hx9 => (hall x9 hx9).keep0 hRA
   have hO77 := hO77.keep0 hRA
   have qA_16 : Sl aA 16 (ptr p 0) := hdpA 4 _ 16 (by kernel_rfl) rfl rfl
   clear hbsA hdpA
   refine op_load1 (v := vb) one22 (ev_base hNA rfl qA_16) (hx.cell rfl) ?_
   exact obNc_end rfl rfl (grown_refl _ _)
  ·
   intro aA wA ccA cvA hNA hclA hRA hltA hvoA hbsA hdpA
   have qA_0 := (hbsA 0 rfl).trans (sl_base hN76 rfl s76_0)
   refine op_move (ev_base hNA rfl qA_0) ?_
   exact obNc_end rfl rfl (grown_refl _ _)
  ·
   intro aA wA ccA cvA hNA hclA hRA hltA hvoA hbsA hdpA
   have qA_3 := (hbsA 3 rfl).trans (sl_hit hN76 rfl)
   refine op_move (ev_base hNA rfl qA_3) ?_
   exact obNc_end rfl rfl (grown_refl _ _)
  ·
   intro aA wA ccA cvA hNA hclA hRA hltA hvoA hbsA hdpA
   have hRA : w76.grownBy wA (Value.slice none 0 0).ownBlock := hRA
   have hnil_o := (Own.nil w76 w.heap.size 5 1)
   have z_wA := hRA.size
   have hb := grow_step0 hb hRA
   have hx := hx.keep0 hRA
   have O := O.keep0 hRA
   have hall := fun x9 hx9 => (hall x9 hx9).keep0 hRA
   have hO77 := hO77.keep0 hRA
   have qA_18 : Sl aA 18 (ptr p 0) := hdpA 6 _ 18 (by kernel_rfl) rfl rfl
   have qA_19 : Sl aA 19 (Value.int .i64 ((s : Nat) : Int)) := hdpA 7 _ 19 (by kernel_rfl) rfl rfl
   clear hbsA hdpA
   refine op_fn (vs := [(ptr p 0), (Value.int .i64 ((s : Nat) : Int))]) ok43 ⟨(ev_base hNA rfl qA_18), ⟨(ev_base hNA rfl qA_19), trivial⟩⟩ (at_ret bs _ _ _ _ (by first | assumption | exact Rep.len (by assumption)) hx O s (by omega)) ?_
   rintro _ w82 ⟨E83, rfl⟩
   have E83 := grown_of_below E83
   have z_w82 := E83.size
   have hx := hx.keep0 E83
   have O := O.keep0 E83
   have hall : ∀ x9 ∈ acc, Own w82 w.heap.size 5 1 x9.1 x9.2.length (x9.2.map u8v) := fun x9 hx9 => (hall x9 hx9).keep0 E83
   have hO77 := hO77.keep0 E83
   have hb := grow_step0 hb E83
   exact obNc_end rfl rfl (E83)
  ·
   intro aA wA ccA cvA hNA hclA hRA hltA hvoA hbsA hdpA
   have qA_0 := (hbsA 0 rfl).trans (sl_base hN76 rfl s76_0)
   refine op_move (ev_base hNA rfl qA_0) ?_
   exact obNc_end rfl rfl (grown_refl _ _)
  ·
   intro aA wA ccA cvA hNA hclA hRA hltA hvoA hbsA hdpA
   have qA_3 := (hbsA 3 rfl).trans (sl_hit hN76 rfl)
   refine op_move (ev_base hNA rfl qA_3) ?_
   exact obNc_end rfl rfl (grown_refl _ _)
  ·
   intro aA wA ccA cvA hNA hclA hRA hltA hvoA hbsA hdpA
   have hRA : w76.grownBy wA (Value.slice none 0 0).ownBlock := hRA
   have hnil_o := (Own.nil w76 w.heap.size 5 1)
   have z_wA := hRA.size
   have hb := grow_step0 hb hRA
   have hx := hx.keep0 hRA
   have O := O.keep0 hRA
   have hall := fun x9 hx9 => (hall x9 hx9).keep0 hRA
   have hO77 := hO77.keep0 hRA
   have qA_21 : Sl aA 21 (ptr p 0) := hdpA 9 _ 21 (by kernel_rfl) rfl rfl
   have qA_22 : Sl aA 22 (Value.int .i64 ((s : Nat) : Int)) := hdpA 10 _ 22 (by kernel_rfl) rfl rfl
   clear hbsA hdpA
   refine op_fn (vs := [(ptr p 0), (Value.int .i64 ((s : Nat) : Int))]) ok43 ⟨(ev_base hNA rfl qA_21), ⟨(ev_base hNA rfl qA_22), trivial⟩⟩ (at_ret bs _ _ _ _ (by first | assumption | exact Rep.len (by assumption)) hx O s (by omega)) ?_
   rintro _ w84 ⟨E85, rfl⟩
   have E85 := grown_of_below E85
   have z_w84 := E85.size
   have hx := hx.keep0 E85
   have O := O.keep0 E85
   have hall : ∀ x9 ∈ acc, Own w84 w.heap.size 5 1 x9.1 x9.2.length (x9.2.map u8v) := fun x9 hx9 => (hall x9 hx9).keep0 E85
   have hO77 := hO77.keep0 E85
   have hb := grow_step0 hb E85
   exact obNc_end rfl rfl (E85)
  ·
   intro aA wA ccA cvA hNA hclA hRA hltA hvoA hbsA hdpA
   have qA_0 := (hbsA 0 rfl).trans (sl_base hN76 rfl s76_0)
   refine op_move (ev_base hNA rfl qA_0) ?_
   exact obNc_end rfl rfl (grown_refl _ _)
  ·
   intro aA wA ccA cvA hNA hclA hRA hltA hvoA hbsA hdpA
   have qA_3 := (hbsA 3 rfl).trans (sl_hit hN76 rfl)
   refine op_move (ev_base hNA rfl qA_3) ?_
   exact obNc_end rfl rfl (grown_refl _ _)
  ·
   intro aA wA ccA cvA hNA hclA hRA hltA hvoA hbsA hdpA
   have hRA : w76.grownBy wA (Value.slice none 0 0).ownBlock := hRA
   have hnil_o := (Own.nil w76 w.heap.size 5 1)
   have z_wA := hRA.size
   have hb := grow_step0 hb hRA
   have hx := hx.keep0 hRA
   have O := O.keep0 hRA
   have hall := fun x9 hx9 => (hall x9 hx9).keep0 hRA
   have hO77 := hO77.keep0 hRA
   have qA_24 : Sl aA 24 (ptr p 0) := hdpA 12 _ 24 (by kernel_rfl) rfl rfl
   have qA_25 : Sl aA 25 (Value.int .i64 ((s : Nat) : Int)) := hdpA 13 _ 25 (by kernel_rfl) rfl rfl
   clear hbsA hdpA
   refine op_fn (vs := [(ptr p 0), (Value.int .i64 ((s : Nat) : Int))]) ok38 ⟨(ev_base hNA rfl qA_24), ⟨(ev_base hNA rfl qA_25), trivial⟩⟩ (size_ret bs _ _ _ _ (by first | assumption | exact Rep.len (by assumption)) hx O L R ((s : Nat) : Int) (by omega)) ?_
   rintro _ w87 ⟨E88, rfl⟩
   have E88 := grown_of_below E88
   have z_w87 := E88.size
   have hx := hx.keep0 E88
   have O := O.keep0 E88
   have hall : ∀ x9 ∈ acc, Own w87 w.heap.size 5 1 x9.1 x9.2.length (x9.2.map u8v) := fun x9 hx9 => (hall x9 hx9).keep0 E88
   have hO77 := hO77.keep0 E88
   have hb := grow_step0 hb E88
   have hz_86 := sizeL_le R ((s : Nat) : Int)
   exact obNc_end rfl rfl (E88)
  ·
   intro aA wA ccA cvA hNA hclA hRA hltA hvoA hbsA hdpA
   have qA_23 : Sl aA 23 (Value.int .i64 (((numB bs (8 + s * 4)) : Nat) : Int)) := hdpA 11 _ 23 (by kernel_rfl) rfl rfl
   have qA_26 : Sl aA 26 (Value.int .i64 (((sizeL L ((s : Nat) : Int)) : Nat) : Int)) := hdpA 14 _ 26 (by kernel_rfl) rfl rfl
   refine op_add (ev_base hNA rfl qA_23) (ev_base hNA rfl qA_26) (add64 (by omega)) ?_
   exact obNc_end rfl rfl (grown_refl _ _)
  ·
   intro aA wA ccA cvA hNA hclA hRA hltA hvoA hbsA hdpA
   have hRA : w76.grownBy wA (Value.slice none 0 0).ownBlock := hRA
   have hnil_o := (Own.nil w76 w.heap.size 5 1)
   have z_wA := hRA.size
   have hb := grow_step0 hb hRA
   have hx := hx.keep0 hRA
   have O := O.keep0 hRA
   have hall := fun x9 hx9 => (hall x9 hx9).keep0 hRA
   have hO77 := hO77.keep0 hRA
   have qA_17 : Sl aA 17 vb := hdpA 5 _ 17 (by kernel_rfl) rfl rfl
   have qA_20 : Sl aA 20 (Value.int .i64 (((numB bs (8 + s * 4)) : Nat) : Int)) := hdpA 8 _ 20 (by kernel_rfl) rfl rfl
   have qA_27 : Sl aA 27 (Value.int .i64 ((((numB bs (8 + s * 4)) : Nat) : Int) + (((sizeL L ((s : Nat) : Int)) : Nat) : Int))) := hdpA 15 _ 27 (by kernel_rfl) rfl rfl
   clear hbsA hdpA
   refine op_slice_rd (lo := ((numB bs (8 + s * 4)))) (hi := (((numB bs (8 + s * 4))) + ((sizeL L ((s : Nat) : Int))))) slt22 (ev_base hNA rfl qA_17) (Own.rdB O O_s) (.inr ⟨_, _, rfl, (ev_base hNA rfl qA_20)⟩) (.inr ⟨_, _, rfl, (ev_base hNA rfl qA_27)⟩) (by omega) (by omega) ?_
   intro v89 hR90
   have hR90 : RdC wA base w76.heap.size 1 v89 ((L.getD s []).length) (((L.getD s [])).map u8v) := by have h9 := hR90; rw [hsi, Nat.add_sub_cancel_left, Nat.mul_one, Nat.mul_one, ← List.map_drop, ← List.map_take, hgt] at h9; exact h9
   exact obNc_end rfl ⟨v89, rfl, hR90, ⟨by omega, ge_of hvoA (fun k hk => by simp [Value.ownBlock] at hk) (by omega)⟩⟩ (grown_refl _ _)
  ·
   intro aA wA ccA cvA hNA hclA hRA hltA hvoA hbsA hdpA
   have hRA : w76.grownBy wA (Value.slice none 0 0).ownBlock := hRA
   have hnil_o := (Own.nil w76 w.heap.size 5 1)
   have z_wA := hRA.size
   have hb := grow_step0 hb hRA
   have hx := hx.keep0 hRA
   have O := O.keep0 hRA
   have hall := fun x9 hx9 => (hall x9 hx9).keep0 hRA
   have hO77 := hO77.keep0 hRA
   have hchA : chQ 1 ccA cvA (aA.tmps.getD 29 undef) wA := hdpA 17 _ 29 (by kernel_rfl) rfl rfl
   have hccA : ccA = 2 := Nat.le_antisymm hclA hchA.1
   have qA_29 := hchA.2.1 hccA
   have hslA : IsSl cvA := qA_29 ▸ hchA.2.2
   clear hbsA hdpA
   refine op_bslice (e := 22) (pv := [(0, cvA)]) (cs := [cvA]) ⟨rfl, (ev_base hNA rfl qA_29), trivial⟩ (by obtain ⟨_, _, _, rfl⟩ := hslA.sl; kernel_rfl) ?_
   intro w91 b92 lo_b92 hi_b92 hB94 E93
   have ne_b92_u : u.ownBlock ≠ some b92 := fun hh => by have := (hO77.lt _ hh).2; omega
   have z_w91 := E93.size
   have hx := hx.keep0 E93
   have O := O.keep0 E93
   have hall : ∀ x9 ∈ acc, Own w91 w.heap.size 5 1 x9.1 x9.2.length (x9.2.map u8v) := fun x9 hx9 => (hall x9 hx9).keep0 E93
   have hO77 := hO77.keep0 E93
   have hb := grow_step0 hb E93
   exact obNc_end rfl ⟨hccA, b92, rfl, (by omega), hB94, (fun hh => by have := hltA _ hh; omega)⟩ (E93)
  ·
   intro o_ ho_; obtain rfl := Option.some.inj ho_; intro aA wA cvA hNA hRA hcv0A hbsA hdpA hCA
   have hRA : w76.grownBy wA (Value.slice none 0 0).ownBlock := hRA
   have hnil_o := (Own.nil w76 w.heap.size 5 1)
   have z_wA := hRA.size
   have hb := grow_step0 hb hRA
   have hx := hx.keep0 hRA
   have O := O.keep0 hRA
   have hO77 := hO77.keep0 hRA
   have hcvA : (Value.slice none 0 0) = cvA := (hcv0A rfl).symm
   subst hcvA
   have hCA : Own wA w.heap.size 5 1 (Value.slice none 0 0) 0 ([]) := hCA
   clear hbsA hdpA
   refine op_bslice (e := 5) (pv := []) (cs := []) trivial (by kernel_rfl) ?_
   intro w95 b96 lo_b96 hi_b96 hB98 E97
   have ne_b96_vb : vb.ownBlock ≠ some b96 := fun hh => by have := (O.lt _ hh).2; omega
   have z_w95 := E97.size
   have hx := hx.keep0 E97
   have O := O.keep0 E97
   have hO77 := hO77.keep0 E97
   have hCA := hCA.keep0 E97
   have hb := grow_step0 hb E97
   exact obCc_end rfl rfl (chP_now (w := w95)) (Own.ofBx (base := w.heap.size) (sz := 1) (n := 0) hB98 rfl (by decide) (by omega)) ⟨E97, .inr (fun k hk => by simp [Value.ownBlock] at hk; omega)⟩
  ·
   intro o_ ho_; obtain rfl := Option.some.inj ho_; intro aA wA cvA hNA hRA hcv0A hbsA hdpA hCA
   have hRA : w76.grownBy wA (Value.slice none 0 0).ownBlock := hRA
   have hnil_o := (Own.nil w76 w.heap.size 5 1)
   have z_wA := hRA.size
   have hb := grow_step0 hb hRA
   have hx := hx.keep0 hRA
   have O := O.keep0 hRA
   have hO77 := hO77.keep0 hRA
   have hCA : Own wA w.heap.size 5 1 cvA 0 ([]) := hCA
   have qA_13 : aA.tmps.getD 13 undef = cvA := (show chP 0 1 cvA (aA.tmps.getD 13 undef) wA from hdpA 1 _ 13 (by kernel_rfl) rfl rfl).2 rfl
   obtain ⟨v93, qA_28, hR94, xqA_28_0⟩ := hdpA 16 _ 28 (by kernel_rfl) rfl rfl
   have hR94 : RdC wA base w76.heap.size 1 v93 ((L.getD s []).length) (((L.getD s [])).map u8v) := hR94
   clear hbsA hdpA
   have hP104 := hCA
   refine op_append slt22 (ev_base hNA rfl qA_13) hP104 (ev_base hNA rfl qA_28) (Src.ofRd Try.underlying22 (by decide) hR94 (by simp [Value.oneCell', u8v])) (by unfold maxLen; omega) (by omega) hb.size ?_
   intro v99 w100 hO102 E101 hm103
   have z_w100 := E101.size
   have hx := hx.keepO hP104 E101 (by decide)
   have hO77 := hO77.keepT hP104 E101 (by decide)
   have hR94 := hR94.keep E101 (fun k hk => .inr (xqA_28_0.2 k hk))
   have hb := grow_stepO hb hP104 E101 (by omega)
   have hO102 : Own w100 w.heap.size 5 1 v99 (0 + ((L.getD s []).length)) (((L.getD s [])).map u8v) := by simpa [u8v] using hO102
   exact obCc_end rfl rfl (chQ_now (w := w100) ⟨hO102.sl⟩) hO102 ⟨E101, hm103⟩
  ·
   intro a105 w105 v95 hN105 hd105 hbs105 hph105 hC105 E105 hm105
   have hd105 := hd105.trans hd76
   have s105_0 := (hbs105 0 rfl).trans (sl_base hN76 rfl s76_0)
   have s105_2 := (hbs105 2 rfl).trans (sl_base hN76 rfl s76_2)
   have s105_8 := (hbs105 8 rfl).trans (sl_base hN76 rfl s76_8)
   have s105_9 := (hbs105 9 rfl).trans (sl_base hN76 rfl s76_9)
   have s105_12 : Sl a105 12 u := hph105 0 _ 12 rfl rfl
   obtain ⟨_, b103, s105_30, l105_0, hB105, xq105_30_0⟩ := hph105 18 _ 30 rfl rfl
   have hB105 : Bx w105 b103 22 [v95] := hB105
   have hi_b103 := hB105.lt
   have ne_b103_u : u.ownBlock ≠ some b103 := fun hh => by have := (hO77.lt _ hh).2; omega
   clear hbs105 hph105
   have E105 : w76.grownBy w105 (Value.slice none 0 0).ownBlock := E105
   have hC105 : Own w105 w.heap.size 5 1 v95 (0 + ((L.getD s []).length)) (((L.getD s [])).map u8v) := hC105
   have dj106 : DJ vb v95 := fun k hk hg => by have q1 := (O.lt k hk).2; rcases hm105 with h7 | h7; (rw [h7] at hg; simp [Value.ownBlock] at hg); (have := h7 k hg; omega)
   have E105 : w76.grownBy w105 none := E105
   have z_w105 := E105.size
   have hx := hx.keep0 E105
   have O := O.keep0 E105
   have hall : ∀ x9 ∈ acc, Own w105 w.heap.size 5 1 x9.1 x9.2.length (x9.2.map u8v) := fun x9 hx9 => (hall x9 hx9).keep0 E105
   have hO77 := hO77.keep0 E105
   have hb := grow_step0 hb E105
   refine split_end ?_
   refine from_seq (tl := [_, _]) (by decide) (by kernel_rfl) rfl ?_
   have hP112 := hO77
   refine op_append slt38 (ev_base hN105 rfl s105_12) hP112 (ev_base hN105 rfl s105_30) (Src.ofRd Try.underlying38 (by decide) (RdC.ofBx (sz := 1) (n := 1) hB105 rfl (by decide)) (by simp only [List.all_cons, List.all_nil, Bool.true_and, Bool.and_true, hC105.one]; try rfl)) (by unfold maxLen; omega) (by omega) hb.size ?_
   intro v107 w108 hO110 E109 hm111
   have z_w108 := E109.size
   have hx := hx.keepO hP112 E109 (by decide)
   have O := O.keepT hP112 E109 (by decide)
   have hall : ∀ x9 ∈ acc, Own w108 w.heap.size 5 1 x9.1 x9.2.length (x9.2.map u8v) := fun x9 hx9 => (hall x9 hx9).keepT hP112 E109 (by decide)
   have hC105 := hC105.keepT hP112 E109 (by decide)
   have hB105 := hB105.keep E109 (fun hh => ne_b103_u hh.symm)
   have hb := grow_stepO hb hP112 E109 (by omega)
   have hO110 : Own w108 w.heap.size 22 1 v107 (s + 1) (((acc ++ [(v95, (L.getD s []))])).flatMap (fun x9 => [x9.1])) := by exact hO110.cast rfl (by simp)
   have ne_b103_v107 : v107.ownBlock ≠ some b103 := ne_step (w1 := w105) ⟨E109, hm111⟩ (by omega) ne_b103_u
   refine op_assign (ev_hit hN105 rfl) ?_
   refine reg_nil ?_
   refine hK80 _ _ ?_
   refine one_reg ?_
   refine op_add (ev_base hN105 rfl s105_9) rfl (add64 (by omega)) ?_
   refine op_move (ev_hit hN105 rfl) ?_
   refine reg_nil ?_
   -- round 10T
   exact loop_next _ hN105 hd105 ⟨s + 1, _, (acc ++ [(v95, (L.getD s []))]), rfl, (sl_base hN105 rfl s105_0), (sl_base hN105 rfl s105_8), (sl_hit hN105 rfl).trans (congrArg (Value.int .i64) (by omega)), (sl_hit hN105 rfl), (by omega), (acc_snoc hacc (by omega)), hb, (by omega), hx, O, (oall_snoc hall (hC105.cast (by first | rfl | omega | (simp; done)) (by first | rfl | (simp; done)))), (hO110.cast rfl (by simp))⟩ (by omega)
 · -- 10F
  refine reg_nil ?_
  refine hK78 _ _ ?_
  refine seq_any fun K113 hK113 => ?_
  refine wp_cond_false (ev_hit hN76 rfl) ?_
  refine wp_exit (then_exit (then_exit (blk_hit ?_)))
  refine hK71 _ _ ?_
  refine seq_any fun K114 hK114 => ?_
  refine one_reg ?_
  refine op_assign rfl ?_
  refine reg_nil ?_
  refine hK114 _ _ ?_
  refine seq_any fun K115 hK115 => ?_
  refine seq_any fun K116 hK116 => ?_
  refine one_reg ?_
  have hal := acc_len hacc (by omega)
  refine op_move (ev_base hN76 rfl s76_2) ?_
  refine op_len_rd Try.underlying38 (ev_hit hN76 rfl) hO77.rdw ?_
  refine op_move rfl ?_
  refine reg_nil ?_
  refine hK116 _ _ ?_
  refine wp_block ?_
  refine loop_m (fun mz_ az_ w' => ∃ (i low : Nat) (bq : By), mz_ = L.length - i ∧ (az_.tmps.getD 0 undef = (ptr p 0)) ∧ (az_.tmps.getD 33 undef = u) ∧ (az_.tmps.getD 34 undef = (Value.int .i64 ((s : Nat) : Int))) ∧ (az_.tmps.getD 35 undef = (Value.int .i64 ((i : Nat) : Int))) ∧ (az_.tmps.getD 4 undef = (Value.int .i64 ((low : Nat) : Int))) ∧ (i ≤ L.length) ∧ (Pk bq L i low) ∧ (w.grownBy w' vb.ownBlock) ∧ (w76.heap.size ≤ w'.heap.size) ∧ (Bx w' p 50 [vb]) ∧ (∀ x9 ∈ acc, Own w' w.heap.size 5 1 x9.1 x9.2.length (x9.2.map u8v)) ∧ (Own w' w.heap.size 22 1 u s (acc.flatMap (fun x9 => [x9.1]))) ∧ (Own w' base 5 1 vb 256 (bq.map u8v))) _ hN76 hd76 ⟨0, 256, _, rfl, (sl_base hN76 rfl s76_0), (sl_hit hN76 rfl), (sl_hit hN76 rfl), (sl_hit hN76 rfl), (sl_hit hN76 rfl), Nat.zero_le _, (Pk.start R), hb, (Nat.le_refl _), hx, hall, hO77, O⟩ ?_
  rintro _ a117 w117 hN117 hd117 ⟨i, low, bq, rfl, s117_0, s117_33, s117_34, s117_35, s117_4, hi, hk, hb, zl_w117, hx, hall, hO77, hO118⟩
  have z_w117 := hb.size
  refine seq_any fun K119 hK119 => ?_
  refine one_reg ?_
  refine op_lss (ev_base hN117 rfl s117_35) (ev_base hN117 rfl s117_34) (fun c36 => ?_) (fun c36 => ?_)
  · -- 36T
   refine reg_nil ?_
   refine hK119 _ _ ?_
   refine seq_any fun K120 hK120 => ?_
   refine wp_cond_true (ev_hit hN117 rfl) ?_
   refine wp_skip ?_
   refine hK120 _ _ ?_
   refine seq_any fun K121 hK121 => ?_
   refine wp_block ?_
   refine seq_any fun K122 hK122 => ?_
   refine one_reg ?_
   refine op_move (ev_base hN117 rfl s117_35) ?_
   refine op_index_rd slt38 (ev_base hN117 rfl s117_33) hO77.rdw (ev_base hN117 rfl s117_35) (by omega) (by omega) ?_
   intro b123 o124 h0b123 h1b123 hc125
   have hs126 : Own w117 w.heap.size 5 1 (acc.getD i D0).1 (acc.getD i D0).2.length ((acc.getD i D0).2.map u8v) := hall _ (getD_mem (by omega))
   refine op_load1 (v := (acc.getD i D0).1) one22 (ev_hit hN117 rfl) (by have := hc125 0 (acc.getD i D0).1 (by decide) (el_ll (i := i) (d := D0) (by omega) (by omega)); simpa using this) ?_
   refine op_assign (ev_hit hN117 rfl) ?_
   refine op_assign (ev_hit hN117 rfl) ?_
   refine reg_nil ?_
   refine hK122 _ _ ?_
   refine seq_any fun K127 hK127 => ?_
   refine one_reg ?_
   refine op_move (ev_base hN117 rfl s117_4) ?_
   have hri := acc_get (i := i) hacc (by omega) (by omega)
   have hro := hk.room hfit (i := i) (by omega)
   have hrl := congrArg List.length hri
   refine op_move (ev_hit hN117 rfl) ?_
   refine op_len_rd Try.underlying22 (ev_hit hN117 rfl) hs126.rdw ?_
   refine op_sub (r := (((low - (acc.getD i D0).2.length) : Nat) : Int)) (ev_hit hN117 rfl) (ev_hit hN117 rfl) (by rw [IntKind.wrap_i64]; omega) ?_
   refine op_assign (ev_hit hN117 rfl) ?_
   refine reg_nil ?_
   refine hK127 _ _ ?_
   refine seq_any fun K128 hK128 => ?_
   refine one_reg ?_
   refine op_move (ev_base hN117 rfl s117_0) ?_
   refine op_nil (ev_hit hN117 rfl) ?_
   refine op_field fld50_0 (ev_hit hN117 rfl) ?_
   refine op_load1 (v := vb) one22 (ev_hit hN117 rfl) (hx.cell rfl) ?_
   refine op_move (ev_hit hN117 rfl) ?_
   refine op_slice_cut (k := (low - (acc.getD i D0).2.length)) slt22 (ev_hit hN117 rfl) hO118 (ev_hit hN117 rfl) (by omega) (by omega) ?_
   refine op_move (ev_hit hN117 rfl) ?_
   have hP132 := hO118
   refine op_copy_cut slt22 (ev_hit hN117 rfl) hP132 (ev_hit hN117 rfl) hs126.rdw (by simp [Value.oneCell', u8v]) (by omega) ?_
   intro w129 hO131 E130
   have z_w129 := E130.size
   have hx := hx.keepO hP132 E130 (by decide)
   have hall : ∀ x9 ∈ acc, Own w129 w.heap.size 5 1 x9.1 x9.2.length (x9.2.map u8v) := fun x9 hx9 => (hall x9 hx9).keep E130 (own_apart (hall x9 hx9) hvk)
   have hO77 := hO77.keepT hP132 E130 (by decide)
   have hs126 := hs126.keep E130 (own_apart hs126 hvk)
   have hb := grow_stepX hb E130 rfl
   have hO131 : Own w129 base 5 1 vb 256 (((cpB bq (low - (acc.getD i D0).2.length) (acc.getD i D0).2)).map u8v) := by exact hO131.cast rfl (by simp [cpB])
   refine reg_nil ?_
   refine hK128 _ _ ?_
   refine one_reg ?_
   have hl_c : (cpB bq (low - (acc.getD i D0).2.length) (acc.getD i D0).2).length = 256 := (cp_len (by have := hk.len; omega)).trans hk.len
   refine op_move (ev_base hN117 rfl s117_0) ?_
   refine op_move (ev_hit hN117 rfl) ?_
   refine op_move (ev_hit hN117 rfl) ?_
   refine op_move (ev_hit hN117 rfl) ?_
   refine op_len_rd Try.underlying22 (ev_hit hN117 rfl) hs126.rdw ?_
   refine op_fn (vs := [(ptr p 0), (Value.int .i64 ((i : Nat) : Int)), (Value.int .i64 (((low - (acc.getD i D0).2.length) : Nat) : Int)), (Value.int .i64 (((acc.getD i D0).2.length : Nat) : Int))]) ok41 ⟨(ev_hit hN117 rfl), ⟨(ev_hit hN117 rfl), ⟨(ev_hit hN117 rfl), ⟨(ev_hit hN117 rfl), trivial⟩⟩⟩⟩ (pts_ret (cpB bq (low - (acc.getD i D0).2.length) (acc.getD i D0).2) _ _ _ _ (by first | assumption | exact Rep.len (by assumption)) hx hO131 i (low - (acc.getD i D0).2.length) ((acc.getD i D0).2.length) (by omega) (by omega) (by omega)) ?_
   rintro _ w134 ⟨E135, rfl, hO133⟩
   have z_w134 := E135.size
   have hx := hx.keepO hO131 E135 (by decide)
   have hall : ∀ x9 ∈ acc, Own w134 w.heap.size 5 1 x9.1 x9.2.length (x9.2.map u8v) := fun x9 hx9 => (hall x9 hx9).keep E135 (own_apart (hall x9 hx9) hvk)
   have hO77 := hO77.keepT hO131 E135 (by decide)
   have hs126 := hs126.keep E135 (own_apart hs126 hvk)
   have hb := grow_stepX hb E135 rfl
   have hl_hO133 : (ptsB (cpB bq (low - (acc.getD i D0).2.length) (acc.getD i D0).2) i (low - (acc.getD i D0).2.length) ((acc.getD i D0).2.length)).length = 256 := (pts_len _ _ _ _).trans (by first | assumption | exact Rep.len (by assumption))
   refine reg_nil ?_
   refine hK121 _ _ ?_
   refine one_reg ?_
   refine op_add (ev_base hN117 rfl s117_35) rfl (add64 (by omega)) ?_
   refine op_move (ev_hit hN117 rfl) ?_
   refine reg_nil ?_
   -- round 10F 36T
   exact loop_next _ hN117 hd117 ⟨i + 1, _, _, rfl, (sl_base hN117 rfl s117_0), (sl_base hN117 rfl s117_33), (sl_base hN117 rfl s117_34), (sl_hit hN117 rfl).trans (congrArg (Value.int .i64) (by omega)), (sl_hit hN117 rfl), (by omega), (by have h9 := hk.step hfit (i := i) (by omega); rw [← hri] at h9; exact h9), hb, (by omega), hx, hall, hO77, hO133⟩ (by omega)
  · -- 36F
   refine reg_nil ?_
   refine hK119 _ _ ?_
   refine seq_any fun K136 hK136 => ?_
   refine wp_cond_false (ev_hit hN117 rfl) ?_
   refine wp_exit (then_exit (then_exit (blk_hit ?_)))
   refine hK115 _ _ ?_
   refine one_reg ?_
   have hl_e := hk.len
   have he : i = L.length := by omega
   have hse := hk.sum
   refine op_move (ev_base hN117 rfl s117_0) ?_
   refine op_move (ev_base hN117 rfl s117_4) ?_
   refine op_fn (vs := [(ptr p 0), (Value.int .i64 2), (Value.int .i64 ((low : Nat) : Int))]) ok42 ⟨(ev_hit hN117 rfl), ⟨rfl, ⟨(ev_hit hN117 rfl), trivial⟩⟩⟩ (set_ret bq _ _ _ _ (by first | assumption | exact Rep.len (by assumption)) hx hO118 2 low (by omega) (by omega)) ?_
   rintro _ w138 ⟨E139, rfl, hO137⟩
   have z_w138 := E139.size
   have hx := hx.keepO hO118 E139 (by decide)
   have hall : ∀ x9 ∈ acc, Own w138 w.heap.size 5 1 x9.1 x9.2.length (x9.2.map u8v) := fun x9 hx9 => (hall x9 hx9).keep E139 (own_apart (hall x9 hx9) hvk)
   have hO77 := hO77.keepT hO118 E139 (by decide)
   have hb := grow_stepX hb E139 rfl
   have hl_hO137 : (setB bq 2 low).length = 256 := (setB_len _ _ _).trans (by first | assumption | exact Rep.len (by assumption))
   refine reg_nil ?_
   refine end_ret ?_
   refine ret0 rfl hd117  ⟨_, rfl, ?_⟩
   -- path 10F 36F
   exact ⟨hb, rfl, _, hO137, (he ▸ hk : Pk bq L L.length low).last hfit⟩

end Go.Proofs.Ytdhpalioifjfbaa

/- Walks, written by a program: what each function of the translation hands back. -/
namespace Go.Proofs.Ytdhpalioifjfbaa
open Go.Gx Go.RowKit
attribute [local irreducible] wpList wpStill Code.wp Calls

theorem lays_ret (bs : By) (vb : Value) (base p : Nat) (w : World) (hl : bs.length = 256) (hx : Bx w p 50 [vb]) (O : Own w base 5 1 vb 256 (bs.map u8v)) (r : By) (bv : Value) (Lo Bo : Nat) (hbr : RdC w Lo Bo 1 bv r.length (r.map u8v)) (hap : ∀ q, vb.ownBlock = some q → q < Lo ∨ Bo ≤ q) (L : List By) (R : Rep bs L) (k : Nat) (hk : k ≤ L.length) (he : L.getD k [] = []) (hroom : 8 + max L.length (k + 1) * 4 + sumL L + r.length ≤ 256) : Ret Try.prog 40 #[(ptr p 0), (Value.int .i64 ((k : Nat) : Int)), bv] w (fun v' w' => w.grownBy w' vb.ownBlock ∧ v' = .tuple #[] ∧ ∃ bs', Own w' base 5 1 vb 256 (bs'.map u8v) ∧ Rep bs' (layL L k r)) := by
 have hb := grown_refl w vb.ownBlock
 refine enter (N := 54) Try.func40 rfl rfl (by simp) fun a0 hN hd hA => ?_
 have s0 : a0.tmps.getD 0 undef = (ptr p 0) := hA 0 (by simp)
 have s1 : a0.tmps.getD 1 undef = (Value.int .i64 ((k : Nat) : Int)) := hA 1 (by simp)
 have s2 : a0.tmps.getD 2 undef = bv := hA 2 (by simp)
 clear hA
 refine seq_any fun K140 hK140 => ?_
 refine one_reg ?_
 refine op_move (ev_base hN rfl s0) ?_
 refine op_fn (vs := [(ptr p 0)]) ok37 ⟨(ev_hit hN rfl), trivial⟩ (many_ret bs _ _ _ _ (by first | assumption | exact Rep.len (by assumption)) hx O L R) ?_
 rintro _ w142 ⟨E143, rfl⟩
 have E143 := grown_of_below E143
 have z_w142 := E143.size
 have hx := hx.keep0 E143
 have O := O.keep0 E143
 have hbr := hbr.keep0 E143
 have hb := grow_step0 hb E143
 have hm_141 := Rep.fits R
 refine op_move (ev_base hN rfl s1) ?_
 refine op_add (ev_hit hN rfl) rfl (add64 (by omega)) ?_
 refine op_max (r := ((max L.length (k + 1) : Nat) : Int)) (ev_hit hN rfl) (ev_hit hN rfl) (by omega) ?_
 refine op_assign (ev_hit hN rfl) ?_
 refine reg_nil ?_
 refine hK140 _ _ ?_
 refine seq_join1 (N := 54) (fun az_ w' => ∃ (bq : By), (az_.tmps.getD 0 undef = (ptr p 0)) ∧ (az_.tmps.getD 1 undef = (Value.int .i64 ((k : Nat) : Int))) ∧ (az_.tmps.getD 2 undef = bv) ∧ (Rep bq L) ∧ (8 + max L.length (k + 1) * 4 + r.length ≤ numB bq 2) ∧ (w.grownBy w' vb.ownBlock) ∧ (w142.heap.size ≤ w'.heap.size) ∧ (Bx w' p 50 [vb]) ∧ (RdC w' Lo Bo 1 bv r.length (r.map u8v)) ∧ (Own w' base 5 1 vb 256 (bq.map u8v))) (fun hJ144 => ?_) ?_
 ·
  refine seq_any fun K146 hK146 => ?_
  refine seq_any fun K147 hK147 => ?_
  refine one_reg ?_
  refine op_move (ev_base hN rfl s0) ?_
  refine op_fn (vs := [(ptr p 0), (Value.int .i64 2)]) ok52 ⟨(ev_hit hN rfl), ⟨rfl, trivial⟩⟩ (num_ret bs _ _ _ _ (by first | assumption | exact Rep.len (by assumption)) hx O 2 (by omega)) ?_
  rintro _ w148 ⟨E149, rfl⟩
  have E149 := grown_of_below E149
  have z_w148 := E149.size
  have hx := hx.keep0 E149
  have O := O.keep0 E149
  have hbr := hbr.keep0 E149
  have hb := grow_step0 hb E149
  have hn2 := numB_lt bs 2
  refine op_move (ev_base hN rfl s2) ?_
  refine op_len_rd Try.underlying22 (ev_hit hN rfl) hbr ?_
  refine op_sub (ev_hit hN rfl) (ev_hit hN rfl) (sub64 (by omega)) ?_
  refine op_move (ev_hit hN rfl) ?_
  refine op_mul (ev_hit hN rfl) rfl (mul64 (by omega)) ?_
  refine op_add rfl (ev_hit hN rfl) (add64 (by omega)) ?_
  refine op_lss (ev_hit hN rfl) (ev_hit hN rfl) (fun c21 => ?_) (fun c21 => ?_)
  · -- 21T
   refine reg_nil ?_
   refine hK147 _ _ ?_
   refine wp_cond_true (ev_hit hN rfl) ?_
   refine one_reg ?_
   refine op_move (ev_base hN rfl s0) ?_
   refine op_fn (vs := [(ptr p 0)]) ok53 ⟨(ev_hit hN rfl), trivial⟩ (packs_ret bs _ _ _ _ (by first | assumption | exact Rep.len (by assumption)) hx O L R) ?_
   rintro _ w152 ⟨E153, rfl, bs150, hO151, R150, hs150⟩
   have z_w152 := E153.size
   have hx := hx.keepO O E153 (by decide)
   have hbr := hbr.keep E153 hap
   have hb := grow_stepX hb E153 rfl
   have hl_hO151 : bs150.length = 256 := R150.len
   refine reg_nil ?_
   refine hK146 _ _ ?_
   exact hJ144 _ _ _ hN hd ⟨_, (sl_base hN rfl s0), (sl_base hN rfl s1), (sl_base hN rfl s2), R150, (by omega), hb, (by omega), hx, hbr, hO151⟩
  · -- 21F
   refine reg_nil ?_
   refine hK147 _ _ ?_
   refine wp_cond_false (ev_hit hN rfl) ?_
   refine wp_skip ?_
   refine hK146 _ _ ?_
   exact hJ144 _ _ _ hN hd ⟨_, (sl_base hN rfl s0), (sl_base hN rfl s1), (sl_base hN rfl s2), R, (by omega), hb, (by omega), hx, hbr, O⟩
 ·
  rintro a144 w144 hN144 hd144 ⟨bq, s144_0, s144_1, s144_2, R2, hr2, hb, zl_w144, hx, hbr, hO145⟩
  have z_w144 := hb.size
  refine seq_join1 (N := 54) (fun az_ w' => ∃ (b1 : By), (az_.tmps.getD 0 undef = (ptr p 0)) ∧ (az_.tmps.getD 1 undef = (Value.int .i64 ((k : Nat) : Int))) ∧ (az_.tmps.getD 2 undef = bv) ∧ (b1 = lay1 bq k) ∧ (b1.length = 256) ∧ (numB b1 2 = numB bq 2) ∧ (w.grownBy w' vb.ownBlock) ∧ (w144.heap.size ≤ w'.heap.size) ∧ (Bx w' p 50 [vb]) ∧ (RdC w' Lo Bo 1 bv r.length (r.map u8v)) ∧ (Own w' base 5 1 vb 256 (b1.map u8v))) (fun hJ154 => ?_) ?_
  ·
   refine seq_any fun K156 hK156 => ?_
   refine seq_any fun K157 hK157 => ?_
   refine one_reg ?_
   refine op_move (ev_base hN144 rfl s144_1) ?_
   refine op_move (ev_base hN144 rfl s144_0) ?_
   refine op_fn (vs := [(ptr p 0)]) ok37 ⟨(ev_hit hN144 rfl), trivial⟩ (many_ret bq _ _ _ _ (by first | assumption | exact Rep.len (by assumption)) hx hO145 L R2) ?_
   rintro _ w159 ⟨E160, rfl⟩
   have E160 := grown_of_below E160
   have z_w159 := E160.size
   have hx := hx.keep0 E160
   have hbr := hbr.keep0 E160
   have hO145 := hO145.keep0 E160
   have hb := grow_step0 hb E160
   have hm_158 := Rep.fits R2
   refine op_geq (ev_hit hN144 rfl) (ev_hit hN144 rfl) (fun c27 => ?_) (fun c27 => ?_)
   · -- 27T
    refine reg_nil ?_
    refine hK157 _ _ ?_
    refine wp_cond_true (ev_hit hN144 rfl) ?_
    refine one_reg ?_
    refine op_move (ev_base hN144 rfl s144_0) ?_
    refine op_move (ev_base hN144 rfl s144_1) ?_
    refine op_add (ev_hit hN144 rfl) rfl (add64 (by omega)) ?_
    refine op_fn (vs := [(ptr p 0), (Value.int .i64 0), (Value.int .i64 (((k : Nat) : Int) + 1))]) ok42 ⟨(ev_hit hN144 rfl), ⟨rfl, ⟨(ev_hit hN144 rfl), trivial⟩⟩⟩ (set_ret bq _ _ _ _ (by first | assumption | exact Rep.len (by assumption)) hx hO145 0 (k + 1) (by omega) (by omega)) ?_
    rintro _ w162 ⟨E163, rfl, hO161⟩
    have z_w162 := E163.size
    have hx := hx.keepO hO145 E163 (by decide)
    have hbr := hbr.keep E163 hap
    have hb := grow_stepX hb E163 rfl
    have hl_hO161 : (setB bq 0 (k + 1)).length = 256 := (setB_len _ _ _).trans (by first | assumption | exact Rep.len (by assumption))
    refine reg_nil ?_
    refine hK156 _ _ ?_
    exact hJ154 _ _ _ hN144 hd144 ⟨_, (sl_base hN144 rfl s144_0), (sl_base hN144 rfl s144_1), (sl_base hN144 rfl s144_2), (by have := R2.many; unfold lay1; rw [if_pos (by omega)]), (by first | assumption | exact R2.len), (numB_other (by omega)), hb, (by omega), hx, hbr, hO161⟩
   · -- 27F
    refine reg_nil ?_
    refine hK157 _ _ ?_
    refine wp_cond_false (ev_hit hN144 rfl) ?_
    refine wp_skip ?_
    refine hK156 _ _ ?_
    exact hJ154 _ _ _ hN144 hd144 ⟨_, (sl_base hN144 rfl s144_0), (sl_base hN144 rfl s144_1), (sl_base hN144 rfl s144_2), (by have := R2.many; unfold lay1; rw [if_neg (by omega)]), (by first | assumption | exact R2.len), rfl, hb, (by omega), hx, hbr, hO145⟩
  ·
   rintro a154 w154 hN154 hd154 ⟨b1, s154_0, s154_1, s154_2, hb1, hl1, hn1, hb, zl_w154, hx, hbr, hO155⟩
   have z_w154 := hb.size
   refine seq_any fun K164 hK164 => ?_
   refine one_reg ?_
   refine op_move (ev_base hN154 rfl s154_0) ?_
   refine op_fn (vs := [(ptr p 0), (Value.int .i64 2)]) ok52 ⟨(ev_hit hN154 rfl), ⟨rfl, trivial⟩⟩ (num_ret b1 _ _ _ _ (by first | assumption | exact Rep.len (by assumption)) hx hO155 2 (by omega)) ?_
   rintro _ w165 ⟨E166, rfl⟩
   have E166 := grown_of_below E166
   have z_w165 := E166.size
   have hx := hx.keep0 E166
   have hbr := hbr.keep0 E166
   have hO155 := hO155.keep0 E166
   have hb := grow_step0 hb E166
   have hn3 := numB_lt bq 2
   refine op_move (ev_base hN154 rfl s154_2) ?_
   refine op_len_rd Try.underlying22 (ev_hit hN154 rfl) hbr ?_
   refine op_sub (r := (((numB b1 2 - r.length) : Nat) : Int)) (ev_hit hN154 rfl) (ev_hit hN154 rfl) (by rw [IntKind.wrap_i64]; omega) ?_
   refine op_assign (ev_hit hN154 rfl) ?_
   refine reg_nil ?_
   refine hK164 _ _ ?_
   refine seq_any fun K167 hK167 => ?_
   refine one_reg ?_
   refine op_move (ev_base hN154 rfl s154_0) ?_
   refine op_nil (ev_hit hN154 rfl) ?_
   refine op_field fld50_0 (ev_hit hN154 rfl) ?_
   refine op_load1 (v := vb) one22 (ev_hit hN154 rfl) (hx.cell rfl) ?_
   refine op_move (ev_hit hN154 rfl) ?_
   refine op_slice_cut (k := (numB b1 2 - r.length)) slt22 (ev_hit hN154 rfl) hO155 (ev_hit hN154 rfl) (by omega) (by have := R2.low; omega) ?_
   refine op_move (ev_base hN154 rfl s154_2) ?_
   have hP171 := hO155
   refine op_copy_cut slt22 (ev_hit hN154 rfl) hP171 (ev_hit hN154 rfl) hbr (by simp [Value.oneCell', u8v]) (by have := R2.low; omega) ?_
   intro w168 hO170 E169
   have z_w168 := E169.size
   have hx := hx.keepO hP171 E169 (by decide)
   have hbr := hbr.keep E169 hap
   have hb := grow_stepX hb E169 rfl
   have hO170 : Own w168 base 5 1 vb 256 (((cpB b1 (numB b1 2 - r.length) r)).map u8v) := by exact hO170.cast rfl (by simp [cpB])
   refine reg_nil ?_
   refine hK167 _ _ ?_
   refine seq_any fun K172 hK172 => ?_
   refine one_reg ?_
   have hr2l := R2.low
   have hl_c : (cpB b1 (numB b1 2 - r.length) r).length = 256 := (cp_len (by omega)).trans hl1
   have hkf := R2.fits
   refine op_move (ev_base hN154 rfl s154_0) ?_
   refine op_move (ev_base hN154 rfl s154_1) ?_
   refine op_move (ev_hit hN154 rfl) ?_
   refine op_move (ev_base hN154 rfl s154_2) ?_
   refine op_len_rd Try.underlying22 (ev_hit hN154 rfl) hbr ?_
   refine op_fn (vs := [(ptr p 0), (Value.int .i64 ((k : Nat) : Int)), (Value.int .i64 (((numB b1 2 - r.length) : Nat) : Int)), (Value.int .i64 ((r.length : Nat) : Int))]) ok41 ⟨(ev_hit hN154 rfl), ⟨(ev_hit hN154 rfl), ⟨(ev_hit hN154 rfl), ⟨(ev_hit hN154 rfl), trivial⟩⟩⟩⟩ (pts_ret (cpB b1 (numB b1 2 - r.length) r) _ _ _ _ (by first | assumption | exact Rep.len (by assumption)) hx hO170 k (numB b1 2 - r.length) (r.length) (by omega) (by omega) (by omega)) ?_
   rintro _ w174 ⟨E175, rfl, hO173⟩
   have z_w174 := E175.size
   have hx := hx.keepO hO170 E175 (by decide)
   have hbr := hbr.keep E175 hap
   have hb := grow_stepX hb E175 rfl
   have hl_hO173 : (ptsB (cpB b1 (numB b1 2 - r.length) r) k (numB b1 2 - r.length) (r.length)).length = 256 := (pts_len _ _ _ _).trans (by first | assumption | exact Rep.len (by assumption))
   refine reg_nil ?_
   refine hK172 _ _ ?_
   refine one_reg ?_
   refine op_move (ev_base hN154 rfl s154_0) ?_
   refine op_move (ev_hit hN154 rfl) ?_
   refine op_fn (vs := [(ptr p 0), (Value.int .i64 2), (Value.int .i64 (((numB b1 2 - r.length) : Nat) : Int))]) ok42 ⟨(ev_hit hN154 rfl), ⟨rfl, ⟨(ev_hit hN154 rfl), trivial⟩⟩⟩ (set_ret (ptsB (cpB b1 (numB b1 2 - r.length) r) k (numB b1 2 - r.length) (r.length)) _ _ _ _ (by first | assumption | exact Rep.len (by assumption)) hx hO173 2 (numB b1 2 - r.length) (by omega) (by omega)) ?_
   rintro _ w177 ⟨E178, rfl, hO176⟩
   have z_w177 := E178.size
   have hx := hx.keepO hO173 E178 (by decide)
   have hbr := hbr.keep E178 hap
   have hb := grow_stepX hb E178 rfl
   have hl_hO176 : (setB (ptsB (cpB b1 (numB b1 2 - r.length) r) k (numB b1 2 - r.length) (r.length)) 2 (numB b1 2 - r.length)).length = 256 := (setB_len _ _ _).trans (by first | assumption | exact Rep.len (by assumption))
   refine reg_nil ?_
   refine end_ret ?_
   refine ret0 rfl hd154  ⟨_, rfl, ?_⟩
   -- path
   subst hb1
   exact ⟨hb, rfl, _, hO176, R2.lay hk he hr2⟩

end Go.Proofs.Ytdhpalioifjfbaa

/- Walks, written by a program: what each function of the translation hands back. -/
namespace Go.Proofs.Ytdhpalioifjfbaa
open Go.Gx Go.RowKit
attribute [local irreducible] wpList wpStill Code.wp Calls

theorem put_ret (L : List By) (bs : By) (n : Nat) (vb : Value) (base p : Nat) (w : World) (hbase : base ≤ w.heap.size) (hx : Bx w p 50 [vb]) (O : Own w base 5 1 vb n (bs.map u8v)) (hP : Pg n bs L vb) (r : By) (bv : Value) (Lo Bo : Nat) (hbr : RdC w Lo Bo 1 bv r.length (r.map u8v)) (hpa : ∀ q, pgRow p n vb = some q → q < Lo ∨ Bo ≤ q) (hBw : Bo ≤ w.heap.size)  : Ret Try.prog 11 #[(ptr p 0), bv] w (fun v' w' => w.grownBy w' (pgRow p n vb) ∧ v' = .tuple #[.int .i64 (putK L r), .int .i64 (putE L r)] ∧ ∃ u n' bs', Bx w' p 50 [u] ∧ Own w' base 5 1 u n' (bs'.map u8v) ∧ Pg n' bs' (putN L r) u ∧ RowOr u (pgRow p n vb) w.heap.size) := by
 have hb := grown_refl w (pgRow p n vb)
 refine enter (N := 45) Try.func11 rfl rfl (by simp) fun a0 hN hd hA => ?_
 have s0 : a0.tmps.getD 0 undef = (ptr p 0) := hA 0 (by simp)
 have s1 : a0.tmps.getD 1 undef = bv := hA 1 (by simp)
 clear hA
 refine seq_any fun K16 hK16 => ?_
 refine one_reg ?_
 refine op_assign rfl ?_
 refine op_assign rfl ?_
 refine reg_nil ?_
 refine hK16 _ _ ?_
 refine seq_any fun K17 hK17 => ?_
 refine seq_any fun K18 hK18 => ?_
 refine one_reg ?_
 refine op_move (ev_base hN rfl s0) ?_
 refine op_peq_some ptrt24 (ev_hit hN rfl) rfl ?_
 refine reg_nil ?_
 refine hK18 _ _ ?_
 refine wp_cond_false (ev_hit hN rfl) ?_
 refine wp_skip ?_
 refine hK17 _ _ ?_
 refine seq_any fun K19 hK19 => ?_
 refine seq_any fun K20 hK20 => ?_
 refine one_reg ?_
 refine op_move (ev_base hN rfl s1) ?_
 refine op_len_rd Try.underlying22 (ev_hit hN rfl) hbr ?_
 refine op_eql (ev_hit hN rfl) rfl (fun c10 => ?_) (fun c10 => ?_)
 · -- 10T
  refine op_move (ev_hit hN rfl) ?_
  refine g_false (j := 3) (dj := 11) (b := false) rfl rfl rfl (ev_hit hN rfl) rfl rfl ?_
  refine g_false (j := 3) (dj := 11) (b := false) rfl rfl rfl (ev_hit hN rfl) rfl rfl ?_
  refine g_false (j := 3) (dj := 11) (b := false) rfl rfl rfl (ev_hit hN rfl) rfl rfl ?_
  refine op_pick_t (ev_hit hN rfl) rfl ?_
  refine reg_nil ?_
  refine hK20 _ _ ?_
  refine wp_cond_true (ev_hit hN rfl) ?_
  refine seq_any fun K21 hK21 => ?_
  refine one_reg ?_
  refine op_assign rfl ?_
  refine op_assign rfl ?_
  refine reg_nil ?_
  refine hK21 _ _ ?_
  refine wp_ret (then_ret ( ?_))
  refine ret2 rfl hd (ev_hit hN rfl) (ev_hit hN rfl) ⟨_, rfl, ?_⟩
  -- path 10T
  obtain ⟨e1, e2, e3⟩ := put_bad (L := L) (badB_t (r := r) (by omega))
  rw [e1, e2, e3]
  exact ⟨hb, rfl, ⟨_, _, _, hx, O, hP, hP.rowOr⟩⟩
 · -- 10F
  refine op_move (ev_hit hN rfl) ?_
  refine g_true (j := 3) (dj := 11) (b := false) rfl rfl rfl (ev_hit hN rfl) ?_
  refine op_move (ev_base hN rfl s1) ?_
  refine g_true (j := 3) (dj := 11) (b := false) rfl rfl rfl (ev_hit hN rfl) ?_
  refine op_len_rd Try.underlying22 (ev_hit hN rfl) hbr ?_
  refine g_true (j := 3) (dj := 11) (b := false) rfl rfl rfl (ev_hit hN rfl) ?_
  refine op_gtr (ev_hit hN rfl) rfl (fun c14 => ?_) (fun c14 => ?_)
  · -- 14T
   refine op_pick_f (ev_hit hN rfl) (ev_hit hN rfl) ?_
   refine reg_nil ?_
   refine hK20 _ _ ?_
   refine wp_cond_true (ev_hit hN rfl) ?_
   refine seq_any fun K22 hK22 => ?_
   refine one_reg ?_
   refine op_assign rfl ?_
   refine op_assign rfl ?_
   refine reg_nil ?_
   refine hK22 _ _ ?_
   refine wp_ret (then_ret ( ?_))
   refine ret2 rfl hd (ev_hit hN rfl) (ev_hit hN rfl) ⟨_, rfl, ?_⟩
   -- path 10F 14T
   obtain ⟨e1, e2, e3⟩ := put_bad (L := L) (badB_t (r := r) (by omega))
   rw [e1, e2, e3]
   exact ⟨hb, rfl, ⟨_, _, _, hx, O, hP, hP.rowOr⟩⟩
  · -- 14F
   refine op_pick_f (ev_hit hN rfl) (ev_hit hN rfl) ?_
   refine reg_nil ?_
   refine hK20 _ _ ?_
   refine wp_cond_false (ev_hit hN rfl) ?_
   refine wp_skip ?_
   refine hK19 _ _ ?_
   refine seq_any fun K23 hK23 => ?_
   refine one_reg ?_
   refine op_move (ev_base hN rfl s0) ?_
   refine op_fn (vs := [(ptr p 0)]) ok36 ⟨(ev_hit hN rfl), trivial⟩ (ready_ret L bs n _ _ _ _ hbase hx O hP) ?_
   rintro _ w25 ⟨E26, rfl, u24, bs24, hx24, hO24, R24, ro24⟩
   have z_w25 := E26.size
   have hbr := hbr.keep E26 hpa
   have hb := grown_trans hb E26
   refine reg_nil ?_
   refine hK23 _ _ ?_
   refine seq_join1 (N := 45) (fun az_ w' => ∃ (k : Nat), (az_.tmps.getD 0 undef = (ptr p 0)) ∧ (az_.tmps.getD 1 undef = bv) ∧ (az_.tmps.getD 5 undef = (Value.int .i64 0)) ∧ (az_.tmps.getD 4 undef = (Value.int .i64 ((k : Nat) : Int))) ∧ (k = freeL L) ∧ (w.grownBy w' (pgRow p n vb)) ∧ (w25.heap.size ≤ w'.heap.size) ∧ (RdC w' Lo Bo 1 bv r.length (r.map u8v)) ∧ (Bx w' p 50 [u24]) ∧ (Own w' base 5 1 u24 256 (bs24.map u8v))) (fun hJ27 => ?_) ?_
   ·
    refine seq_any fun K28 hK28 => ?_
    refine wp_block ?_
    refine loop_m (fun mz_ az_ w' => ∃ (k : Nat), mz_ = (freeL L - k) ∧ (az_.tmps.getD 0 undef = (ptr p 0)) ∧ (az_.tmps.getD 1 undef = bv) ∧ (az_.tmps.getD 5 undef = (Value.int .i64 0)) ∧ (az_.tmps.getD 4 undef = (Value.int .i64 ((k : Nat) : Int))) ∧ (k ≤ freeL L) ∧ (w.grownBy w' (pgRow p n vb)) ∧ (w25.heap.size ≤ w'.heap.size) ∧ (RdC w' Lo Bo 1 bv r.length (r.map u8v)) ∧ (Bx w' p 50 [u24]) ∧ (Own w' base 5 1 u24 256 (bs24.map u8v))) _ hN hd ⟨0, rfl, (sl_base hN rfl s0), (sl_base hN rfl s1), (sl_hit hN rfl), (sl_hit hN rfl), Nat.zero_le _, hb, (Nat.le_refl _), hbr, hx24, hO24⟩ ?_
    rintro _ a29 w29 hN29 hd29 ⟨k, rfl, s29_0, s29_1, s29_5, s29_4, hkf, hb, zl_w29, hbr, hx24, hO24⟩
    have z_w29 := hb.size
    refine seq_any fun K30 hK30 => ?_
    refine seq_any fun K31 hK31 => ?_
    refine one_reg ?_
    refine op_move (ev_base hN29 rfl s29_4) ?_
    refine op_move (ev_base hN29 rfl s29_0) ?_
    refine op_fn (vs := [(ptr p 0)]) ok37 ⟨(ev_hit hN29 rfl), trivial⟩ (many_ret bs24 _ _ _ _ (by first | assumption | exact Rep.len (by assumption)) hx24 hO24 L R24) ?_
    rintro _ w33 ⟨E34, rfl⟩
    have E34 := grown_of_below E34
    have z_w33 := E34.size
    have hbr := hbr.keep0 E34
    have hx24 := hx24.keep0 E34
    have hO24 := hO24.keep0 E34
    have hb := grow_step0 hb E34
    have hm_32 := Rep.fits R24
    refine op_lss (ev_hit hN29 rfl) (ev_hit hN29 rfl) (fun c21 => ?_) (fun c21 => ?_)
    · -- 21T
     refine op_move (ev_hit hN29 rfl) ?_
     refine g_true (j := 4) (dj := 22) (b := true) rfl rfl rfl (ev_hit hN29 rfl) ?_
     refine op_move (ev_base hN29 rfl s29_0) ?_
     refine g_true (j := 4) (dj := 22) (b := true) rfl rfl rfl (ev_hit hN29 rfl) ?_
     refine op_move (ev_base hN29 rfl s29_4) ?_
     refine g_true (j := 4) (dj := 22) (b := true) rfl rfl rfl (ev_hit hN29 rfl) ?_
     refine op_fn (vs := [(ptr p 0), (Value.int .i64 ((k : Nat) : Int))]) ok38 ⟨(ev_hit hN29 rfl), ⟨(ev_hit hN29 rfl), trivial⟩⟩ (size_ret bs24 _ _ _ _ (by first | assumption | exact Rep.len (by assumption)) hx24 hO24 L R24 ((k : Nat) : Int) (by omega)) ?_
     rintro _ w36 ⟨E37, rfl⟩
     have E37 := grown_of_below E37
     have z_w36 := E37.size
     have hbr := hbr.keep0 E37
     have hx24 := hx24.keep0 E37
     have hO24 := hO24.keep0 E37
     have hb := grow_step0 hb E37
     have hz_35 := sizeL_le R24 ((k : Nat) : Int)
     refine g_true (j := 4) (dj := 22) (b := true) rfl rfl rfl (ev_hit hN29 rfl) ?_
     refine op_gtr (ev_hit hN29 rfl) rfl (fun c26 => ?_) (fun c26 => ?_)
     · -- 26T
      refine op_pick_t (ev_hit hN29 rfl) (ev_hit hN29 rfl) ?_
      refine reg_nil ?_
      refine hK31 _ _ ?_
      refine wp_cond_true (ev_hit hN29 rfl) ?_
      refine wp_skip ?_
      refine hK30 _ _ ?_
      refine wp_block ?_
      refine one_reg ?_
      refine op_move (ev_base hN29 rfl s29_4) ?_
      refine op_add (ev_hit hN29 rfl) rfl (add64 (by omega)) ?_
      refine op_assign (ev_hit hN29 rfl) ?_
      refine reg_nil ?_
      refine blk_normal ?_
      -- round 10F 14F 21T 26T
      exact loop_next _ hN29 hd29 ⟨k + 1, rfl, (sl_base hN29 rfl s29_0), (sl_base hN29 rfl s29_1), (sl_base hN29 rfl s29_5), (sl_hit hN29 rfl).trans (congrArg (Value.int .i64) (by omega)), (freeL_go hkf (by omega) (fun h9 => by have h8 := sizeL_in (L := L) (s := k) (by omega); rw [h9] at h8; simp at h8; omega)), hb, (by omega), hbr, hx24, hO24⟩ (by have h7 := freeL_go hkf (by omega) (fun h9 => by have h8 := sizeL_in (L := L) (s := k) (by omega); rw [h9] at h8; simp at h8; omega); omega)
     · -- 26F
      refine op_pick_t (ev_hit hN29 rfl) (ev_hit hN29 rfl) ?_
      refine reg_nil ?_
      refine hK31 _ _ ?_
      refine wp_cond_false (ev_hit hN29 rfl) ?_
      refine wp_exit (then_exit (then_exit (blk_hit ?_)))
      refine hK28 _ _ ?_
      exact hJ27 _ _ _ hN29 hd29 ⟨k, (sl_base hN29 rfl s29_0), (sl_base hN29 rfl s29_1), (sl_base hN29 rfl s29_5), (sl_base hN29 rfl s29_4), (freeL_stop hkf (.inr (List.eq_nil_of_length_eq_zero (by have h8 := sizeL_in (L := L) (s := k) (by omega); omega)))).symm, hb, (by omega), hbr, hx24, hO24⟩
    · -- 21F
     refine op_move (ev_hit hN29 rfl) ?_
     refine g_false (j := 4) (dj := 22) (b := true) rfl rfl rfl (ev_hit hN29 rfl) rfl rfl ?_
     refine g_false (j := 4) (dj := 22) (b := true) rfl rfl rfl (ev_hit hN29 rfl) rfl rfl ?_
     refine g_false (j := 4) (dj := 22) (b := true) rfl rfl rfl (ev_hit hN29 rfl) rfl rfl ?_
     refine g_false (j := 4) (dj := 22) (b := true) rfl rfl rfl (ev_hit hN29 rfl) rfl rfl ?_
     refine op_pick_f (ev_hit hN29 rfl) rfl ?_
     refine reg_nil ?_
     refine hK31 _ _ ?_
     refine wp_cond_false (ev_hit hN29 rfl) ?_
     refine wp_exit (then_exit (then_exit (blk_hit ?_)))
     refine hK28 _ _ ?_
     exact hJ27 _ _ _ hN29 hd29 ⟨k, (sl_base hN29 rfl s29_0), (sl_base hN29 rfl s29_1), (sl_base hN29 rfl s29_5), (sl_base hN29 rfl s29_4), (freeL_stop hkf (.inl (by omega))).symm, hb, (by omega), hbr, hx24, hO24⟩
   ·
    rintro a27 w27 hN27 hd27 ⟨k, s27_0, s27_1, s27_5, s27_4, hkf, hb, zl_w27, hbr, hx24, hO24⟩
    have z_w27 := hb.size
    refine seq_any fun K38 hK38 => ?_
    refine seq_any fun K39 hK39 => ?_
    refine one_reg ?_
    refine op_move (ev_base hN27 rfl s27_0) ?_
    refine op_move (ev_base hN27 rfl s27_0) ?_
    refine op_fn (vs := [(ptr p 0)]) ok37 ⟨(ev_hit hN27 rfl), trivial⟩ (many_ret bs24 _ _ _ _ (by first | assumption | exact Rep.len (by assumption)) hx24 hO24 L R24) ?_
    rintro _ w41 ⟨E42, rfl⟩
    have E42 := grown_of_below E42
    have z_w41 := E42.size
    have hbr := hbr.keep0 E42
    have hx24 := hx24.keep0 E42
    have hO24 := hO24.keep0 E42
    have hb := grow_step0 hb E42
    have hm_40 := Rep.fits R24
    refine op_move (ev_base hN27 rfl s27_4) ?_
    have hfl := freeL_le L
    refine op_add (ev_hit hN27 rfl) rfl (add64 (by omega)) ?_
    refine op_max (r := (((max L.length (k + 1)) : Nat) : Int)) (ev_hit hN27 rfl) (ev_hit hN27 rfl) (by omega) ?_
    refine op_fn (vs := [(ptr p 0), (Value.int .i64 (((max L.length (k + 1)) : Nat) : Int))]) ok39 ⟨(ev_hit hN27 rfl), ⟨(ev_hit hN27 rfl), trivial⟩⟩ (left_ret bs24 _ _ _ _ (by first | assumption | exact Rep.len (by assumption)) hx24 hO24 L R24 (max L.length (k + 1)) (by omega)) ?_
    rintro _ w44 ⟨E45, rfl⟩
    have E45 := grown_of_below E45
    have z_w44 := E45.size
    have hbr := hbr.keep0 E45
    have hx24 := hx24.keep0 E45
    have hO24 := hO24.keep0 E45
    have hb := grow_step0 hb E45
    have hlf_43 := leftL_rng R24 (max L.length (k + 1)) (by omega)
    refine op_move (ev_base hN27 rfl s27_1) ?_
    refine op_len_rd Try.underlying22 (ev_hit hN27 rfl) hbr ?_
    refine op_lss (ev_hit hN27 rfl) (ev_hit hN27 rfl) (fun c39 => ?_) (fun c39 => ?_)
    · -- 39T
     refine reg_nil ?_
     refine hK39 _ _ ?_
     refine wp_cond_true (ev_hit hN27 rfl) ?_
     refine seq_any fun K46 hK46 => ?_
     refine one_reg ?_
     refine op_assign rfl ?_
     refine op_assign rfl ?_
     refine reg_nil ?_
     refine hK46 _ _ ?_
     refine wp_ret (then_ret ( ?_))
     refine ret2 rfl hd27 (ev_hit hN27 rfl) (ev_hit hN27 rfl) ⟨_, rfl, ?_⟩
     -- path 10F 14F 39T
     obtain ⟨e1, e2, e3⟩ := put_full (L := L) (badB_f (r := r) (by omega)) (hkf ▸ c39)
     rw [e1, e2, e3]
     exact ⟨hb, rfl, ⟨_, _, _, hx24, hO24, R24.pg, ro24⟩⟩
    · -- 39F
     refine reg_nil ?_
     refine hK39 _ _ ?_
     refine wp_cond_false (ev_hit hN27 rfl) ?_
     refine wp_skip ?_
     refine hK38 _ _ ?_
     refine seq_any fun K47 hK47 => ?_
     refine one_reg ?_
     refine op_move (ev_base hN27 rfl s27_0) ?_
     refine op_move (ev_base hN27 rfl s27_4) ?_
     refine op_move (ev_base hN27 rfl s27_1) ?_
     refine op_fn (vs := [(ptr p 0), (Value.int .i64 ((k : Nat) : Int)), bv]) ok40 ⟨(ev_hit hN27 rfl), ⟨(ev_hit hN27 rfl), ⟨(ev_hit hN27 rfl), trivial⟩⟩⟩ (lays_ret bs24 _ _ _ _ (by first | assumption | exact Rep.len (by assumption)) hx24 hO24 r _ _ _ hbr (ro24.apart hpa hBw) L R24 k (by omega) (by rw [hkf]; exact freeL_get) (by have h9 := c39; unfold leftL at h9; omega)) ?_
     rintro _ w50 ⟨E51, rfl, bs48, hO49, R48⟩
     have z_w50 := E51.size
     have hbr := hbr.keep E51 (ro24.apart hpa hBw)
     have hx24 := hx24.keepO hO24 E51 (by decide)
     have hb := grow_stepP hb E51 ro24
     have hl_hO49 : bs48.length = 256 := R48.len
     refine reg_nil ?_
     refine hK47 _ _ ?_
     refine seq_any fun K52 hK52 => ?_
     refine one_reg ?_
     refine op_move (ev_base hN27 rfl s27_4) ?_
     refine op_assign (ev_hit hN27 rfl) ?_
     refine op_assign rfl ?_
     refine reg_nil ?_
     refine hK52 _ _ ?_
     refine wp_ret ?_
     refine ret2 rfl hd27 (ev_hit hN27 rfl) (ev_hit hN27 rfl) ⟨_, rfl, ?_⟩
     -- path 10F 14F 39F
     obtain ⟨e1, e2, e3⟩ := put_ok (L := L) (badB_f (r := r) (by omega)) (hkf ▸ c39)
     rw [e1, e2, e3]
     subst hkf
     exact ⟨hb, rfl, ⟨_, _, _, hx24, hO49, R48.pg, ro24⟩⟩

end Go.Proofs.Ytdhpalioifjfbaa

/- Walks, written by a program: what each function of the translation hands back. -/
namespace Go.Proofs.Ytdhpalioifjfbaa
open Go.Gx Go.RowKit
attribute [local irreducible] wpList wpStill Code.wp Calls

theorem get_ret (L : List By) (bs : By) (n : Nat) (vb : Value) (base p : Nat) (w : World) (hbase : base ≤ w.heap.size) (hx : Bx w p 50 [vb]) (O : Own w base 5 1 vb n (bs.map u8v)) (hP : Pg n bs L vb) (k : Int) (hk : -9223372036854775808 ≤ k ∧ k ≤ 9223372036854775807) : Ret Try.prog 15 #[(ptr p 0), (Value.int .i64 k)] w (fun v' w' => w.grownBy w' (pgRow p n vb) ∧ ∃ x, v' = .tuple #[x, .int .i64 (dropE L k)] ∧ Own w' w.heap.size 5 1 x (getL L k).length ((getL L k).map u8v) ∧ ∃ u n' bs', Bx w' p 50 [u] ∧ Own w' base 5 1 u n' (bs'.map u8v) ∧ Pg n' bs' (L) u ∧ RowOr u (pgRow p n vb) w.heap.size ∧ DJ x u) := by
 have hb := grown_refl w (pgRow p n vb)
 refine enter (N := 31) Try.func15 rfl rfl (by simp) fun a0 hN hd hA => ?_
 have s0 : a0.tmps.getD 0 undef = (ptr p 0) := hA 0 (by simp)
 have s1 : a0.tmps.getD 1 undef = (Value.int .i64 k) := hA 1 (by simp)
 clear hA
 refine seq_any fun K1 hK1 => ?_
 refine one_reg ?_
 refine op_assign rfl ?_
 refine op_assign rfl ?_
 refine reg_nil ?_
 refine hK1 _ _ ?_
 refine seq_any fun K2 hK2 => ?_
 refine seq_any fun K3 hK3 => ?_
 refine one_reg ?_
 refine op_move (ev_base hN rfl s0) ?_
 refine op_peq_some ptrt24 (ev_hit hN rfl) rfl ?_
 refine reg_nil ?_
 refine hK3 _ _ ?_
 refine wp_cond_false (ev_hit hN rfl) ?_
 refine wp_skip ?_
 refine hK2 _ _ ?_
 refine seq_any fun K4 hK4 => ?_
 refine one_reg ?_
 refine op_move (ev_base hN rfl s0) ?_
 refine op_fn (vs := [(ptr p 0)]) ok36 ⟨(ev_hit hN rfl), trivial⟩ (ready_ret L bs n _ _ _ _ hbase hx O hP) ?_
 rintro _ w6 ⟨E7, rfl, u5, bs5, hx5, hO5, R5, ro5⟩
 have z_w6 := E7.size
 have hb := grown_trans hb E7
 refine reg_nil ?_
 refine hK4 _ _ ?_
 refine seq_any fun K8 hK8 => ?_
 refine one_reg ?_
 refine op_move (ev_base hN rfl s0) ?_
 refine op_move (ev_base hN rfl s1) ?_
 refine op_fn (vs := [(ptr p 0), (Value.int .i64 k)]) ok38 ⟨(ev_hit hN rfl), ⟨(ev_hit hN rfl), trivial⟩⟩ (size_ret bs5 _ _ _ _ (by first | assumption | exact Rep.len (by assumption)) hx5 hO5 L R5 k (by omega)) ?_
 rintro _ w10 ⟨E11, rfl⟩
 have E11 := grown_of_below E11
 have z_w10 := E11.size
 have hx5 := hx5.keep0 E11
 have hO5 := hO5.keep0 E11
 have hb := grow_step0 hb E11
 have hz_9 := sizeL_le R5 k
 refine op_assign (ev_hit hN rfl) ?_
 refine reg_nil ?_
 refine hK8 _ _ ?_
 refine seq_any fun K12 hK12 => ?_
 refine seq_any fun K13 hK13 => ?_
 refine one_reg ?_
 refine op_move (ev_hit hN rfl) ?_
 refine op_eql (ev_hit hN rfl) rfl (fun c15 => ?_) (fun c15 => ?_)
 · -- 15T
  refine reg_nil ?_
  refine hK13 _ _ ?_
  refine wp_cond_true (ev_hit hN rfl) ?_
  refine seq_any fun K14 hK14 => ?_
  refine one_reg ?_
  refine op_assign rfl ?_
  refine op_assign rfl ?_
  refine reg_nil ?_
  refine hK14 _ _ ?_
  refine wp_ret (then_ret ( ?_))
  refine ret2 rfl hd (ev_hit hN rfl) (ev_hit hN rfl) ⟨_, rfl, ?_⟩
  -- path 15T
  have hz0 : sizeL L k = 0 := by omega
  rw [(drop_none hz0).1, getL_nil hz0]
  exact ⟨hb, .slice none 0 0, rfl, Own.nil _ _ _ _, ⟨_, _, _, hx5, hO5, R5.pg, ro5, (fun k9 (hk9 : (none : Option Nat) = some k9) => (by cases hk9))⟩⟩
 · -- 15F
  refine reg_nil ?_
  refine hK13 _ _ ?_
  refine wp_cond_false (ev_hit hN rfl) ?_
  refine wp_skip ?_
  refine hK12 _ _ ?_
  refine seq_any fun K15 hK15 => ?_
  have hmm := R5.fits
  have hplt := hx5.lt
  have hkn := sizeL_nat (L := L) (s := k) (by omega)
  have hrc := (R5.recs k.toNat (by omega)).2.1
  have hgt := R5.get (s := k.toNat) (by omega)
  have hsi : sizeL L k = (L.getD k.toNat []).length := by rw [← getL_len, getL_in (by omega)]
  have hO5_s := hO5
  refine reg_split (hd := [_, _, _, _, _, _, _, _, _, _, _, _, _, _]) (tl := _) 14 mixed (by kernel_rfl) rfl rfl ?_
  refine any_quiet (Φ := phiL [(fun uz w' => ∃ (b17 : Nat), uz = (Value.slice (some ⟨b17, 0, none⟩) 0 0) ∧ w10.heap.size ≤ b17 ∧ Bx w' b17 5 []), (fun uz _ => uz = (ptr p 0)), (fun uz _ => uz = (ptr p 0)), (fun uz _ => uz = (ptr p 0)), (fun uz _ => uz = u5), (fun uz _ => uz = (ptr p 0)), (fun uz _ => uz = (Value.int .i64 ((k.toNat : Nat) : Int))), (fun uz _ => uz = (Value.int .i64 (((numB bs5 (8 + k.toNat * 4)) : Nat) : Int))), (fun uz _ => uz = (ptr p 0)), (fun uz _ => uz = (Value.int .i64 ((k.toNat : Nat) : Int))), (fun uz _ => uz = (Value.int .i64 (((numB bs5 (8 + k.toNat * 4)) : Nat) : Int))), (fun uz _ => uz = (Value.int .i64 (((sizeL L k) : Nat) : Int))), (fun uz _ => uz = (Value.int .i64 ((((numB bs5 (8 + k.toNat * 4)) : Nat) : Int) + (((sizeL L k) : Nat) : Int)))), (fun uz w' => ∃ (v24 : Value), uz = v24 ∧ RdC w' base w10.heap.size 1 v24 ((L.getD k.toNat []).length) (((L.getD k.toNat [])).map u8v))]) (by kernel_rfl) (by kernel_rfl) (by kernel_rfl) hN (StL.get (StL.cons (fun u w1 w2 E h => by obtain ⟨x0, hv, l0, f0⟩ := h; exact ⟨x0, hv, l0, f0.keep0 E⟩) (StL.eq (StL.eq (StL.eq (StL.eq (StL.eq (StL.eq (StL.eq (StL.eq (StL.eq (StL.eq (StL.eq (StL.eq (StL.cons (fun u w1 w2 E h => by obtain ⟨x0, hv, f0⟩ := h; exact ⟨x0, hv, f0.keep0 E⟩) (StL.nil _)))))))))))))))) (ObL.get (s := 14) (ObL.cons ?_ (ObL.cons ?_ (ObL.cons ?_ (ObL.cons ?_ (ObL.cons ?_ (ObL.cons ?_ (ObL.cons ?_ (ObL.cons ?_ (ObL.cons ?_ (ObL.cons ?_ (ObL.cons ?_ (ObL.cons ?_ (ObL.cons ?_ (ObL.cons ?_ (ObL.nil))))))))))))))) rfl) ?_
  ·
   intro aA wA hNA hRA hbsA hdpA
   have hRA : w10.grownBy wA none := hRA
   have z_wA := hRA.size
   have hx5 := hx5.keep0 hRA
   have hO5 := hO5.keep0 hRA
   have hb := grow_step0 hb hRA
   clear hbsA hdpA
   refine op_bslice (e := 5) (pv := []) (cs := []) trivial (by kernel_rfl) ?_
   intro w16 b17 lo_b17 hi_b17 hB19 E18
   have ne_b17_u5 : u5.ownBlock ≠ some b17 := fun hh => by have := (hO5.lt _ hh).2; omega
   have z_w16 := E18.size
   have hx5 := hx5.keep0 E18
   have hO5 := hO5.keep0 E18
   have hb := grow_step0 hb E18
   exact obN_end rfl ⟨b17, rfl, (by omega), hB19⟩ (E18)
  ·
   intro aA wA hNA hRA hbsA hdpA
   have qA_0 := (hbsA 0 rfl).trans (sl_base hN rfl s0)
   refine op_move (ev_base hNA rfl qA_0) ?_
   exact obN_end rfl rfl (grown_refl _ _)
  ·
   intro aA wA hNA hRA hbsA hdpA
   have qA_17 : Sl aA 17 (ptr p 0) := hdpA 1 _ 17 (by kernel_rfl) rfl rfl
   refine op_nil (ev_base hNA rfl qA_17) ?_
   exact obN_end rfl rfl (grown_refl _ _)
  ·
   intro aA wA hNA hRA hbsA hdpA
   have qA_18 : Sl aA 18 (ptr p 0) := hdpA 2 _ 18 (by kernel_rfl) rfl rfl
   refine op_field fld50_0 (ev_base hNA rfl qA_18) ?_
   exact obN_end rfl rfl (grown_refl _ _)
  ·
   intro aA wA hNA hRA hbsA hdpA
   have hRA : w10.grownBy wA none := hRA
   have z_wA := hRA.size
   have hx5 := hx5.keep0 hRA
   have hO5 := hO5.keep0 hRA
   have hb := grow_step0 hb hRA
   have qA_19 : Sl aA 19 (ptr p 0) := hdpA 3 _ 19 (by kernel_rfl) rfl rfl
   clear hbsA hdpA
   refine op_load1 (v := u5) one22 (ev_base hNA rfl qA_19) (hx5.cell rfl) ?_
   exact obN_end rfl rfl (grown_refl _ _)
  ·
   intro aA wA hNA hRA hbsA hdpA
   have qA_0 := (hbsA 0 rfl).trans (sl_base hN rfl s0)
   refine op_move (ev_base hNA rfl qA_0) ?_
   exact obN_end rfl rfl (grown_refl _ _)
  ·
   intro aA wA hNA hRA hbsA hdpA
   have qA_1 := (hbsA 1 rfl).trans (sl_base hN rfl s1)
   refine op_move ((ev_base hNA rfl qA_1).trans (congrArg (Value.int .i64) (show _ = ((k.toNat : Nat) : Int) by omega))) ?_
   exact obN_end rfl rfl (grown_refl _ _)
  ·
   intro aA wA hNA hRA hbsA hdpA
   have hRA : w10.grownBy wA none := hRA
   have z_wA := hRA.size
   have hx5 := hx5.keep0 hRA
   have hO5 := hO5.keep0 hRA
   have hb := grow_step0 hb hRA
   have qA_21 : Sl aA 21 (ptr p 0) := hdpA 5 _ 21 (by kernel_rfl) rfl rfl
   have qA_22 : Sl aA 22 (Value.int .i64 ((k.toNat : Nat) : Int)) := hdpA 6 _ 22 (by kernel_rfl) rfl rfl
   clear hbsA hdpA
   refine op_fn (vs := [(ptr p 0), (Value.int .i64 ((k.toNat : Nat) : Int))]) ok43 ⟨(ev_base hNA rfl qA_21), ⟨(ev_base hNA rfl qA_22), trivial⟩⟩ (at_ret bs5 _ _ _ _ (by first | assumption | exact Rep.len (by assumption)) hx5 hO5 k.toNat (by omega)) ?_
   rintro _ w20 ⟨E21, rfl⟩
   have E21 := grown_of_below E21
   have z_w20 := E21.size
   have hx5 := hx5.keep0 E21
   have hO5 := hO5.keep0 E21
   have hb := grow_step0 hb E21
   exact obN_end rfl rfl (E21)
  ·
   intro aA wA hNA hRA hbsA hdpA
   have qA_0 := (hbsA 0 rfl).trans (sl_base hN rfl s0)
   refine op_move (ev_base hNA rfl qA_0) ?_
   exact obN_end rfl rfl (grown_refl _ _)
  ·
   intro aA wA hNA hRA hbsA hdpA
   have qA_1 := (hbsA 1 rfl).trans (sl_base hN rfl s1)
   refine op_move ((ev_base hNA rfl qA_1).trans (congrArg (Value.int .i64) (show _ = ((k.toNat : Nat) : Int) by omega))) ?_
   exact obN_end rfl rfl (grown_refl _ _)
  ·
   intro aA wA hNA hRA hbsA hdpA
   have hRA : w10.grownBy wA none := hRA
   have z_wA := hRA.size
   have hx5 := hx5.keep0 hRA
   have hO5 := hO5.keep0 hRA
   have hb := grow_step0 hb hRA
   have qA_24 : Sl aA 24 (ptr p 0) := hdpA 8 _ 24 (by kernel_rfl) rfl rfl
   have qA_25 : Sl aA 25 (Value.int .i64 ((k.toNat : Nat) : Int)) := hdpA 9 _ 25 (by kernel_rfl) rfl rfl
   clear hbsA hdpA
   refine op_fn (vs := [(ptr p 0), (Value.int .i64 ((k.toNat : Nat) : Int))]) ok43 ⟨(ev_base hNA rfl qA_24), ⟨(ev_base hNA rfl qA_25), trivial⟩⟩ (at_ret bs5 _ _ _ _ (by first | assumption | exact Rep.len (by assumption)) hx5 hO5 k.toNat (by omega)) ?_
   rintro _ w22 ⟨E23, rfl⟩
   have E23 := grown_of_below E23
   have z_w22 := E23.size
   have hx5 := hx5.keep0 E23
   have hO5 := hO5.keep0 E23
   have hb := grow_step0 hb E23
   exact obN_end rfl rfl (E23)
  ·
   intro aA wA hNA hRA hbsA hdpA
   have qA_6 := (hbsA 6 rfl).trans (sl_hit hN rfl)
   refine op_move (ev_base hNA rfl qA_6) ?_
   exact obN_end rfl rfl (grown_refl _ _)
  ·
   intro aA wA hNA hRA hbsA hdpA
   have qA_26 : Sl aA 26 (Value.int .i64 (((numB bs5 (8 + k.toNat * 4)) : Nat) : Int)) := hdpA 10 _ 26 (by kernel_rfl) rfl rfl
   have qA_27 : Sl aA 27 (Value.int .i64 (((sizeL L k) : Nat) : Int)) := hdpA 11 _ 27 (by kernel_rfl) rfl rfl
   refine op_add (ev_base hNA rfl qA_26) (ev_base hNA rfl qA_27) (add64 (by omega)) ?_
   exact obN_end rfl rfl (grown_refl _ _)
  ·
   intro aA wA hNA hRA hbsA hdpA
   have hRA : w10.grownBy wA none := hRA
   have z_wA := hRA.size
   have hx5 := hx5.keep0 hRA
   have hO5 := hO5.keep0 hRA
   have hb := grow_step0 hb hRA
   have qA_20 : Sl aA 20 u5 := hdpA 4 _ 20 (by kernel_rfl) rfl rfl
   have qA_23 : Sl aA 23 (Value.int .i64 (((numB bs5 (8 + k.toNat * 4)) : Nat) : Int)) := hdpA 7 _ 23 (by kernel_rfl) rfl rfl
   have qA_28 : Sl aA 28 (Value.int .i64 ((((numB bs5 (8 + k.toNat * 4)) : Nat) : Int) + (((sizeL L k) : Nat) : Int))) := hdpA 12 _ 28 (by kernel_rfl) rfl rfl
   clear hbsA hdpA
   refine op_slice_rd (lo := ((numB bs5 (8 + k.toNat * 4)))) (hi := (((numB bs5 (8 + k.toNat * 4))) + ((sizeL L k)))) slt22 (ev_base hNA rfl qA_20) (Own.rdB hO5 hO5_s) (.inr ⟨_, _, rfl, (ev_base hNA rfl qA_23)⟩) (.inr ⟨_, _, rfl, (ev_base hNA rfl qA_28)⟩) (by omega) (by omega) ?_
   intro v24 hR25
   have hR25 : RdC wA base w10.heap.size 1 v24 ((L.getD k.toNat []).length) (((L.getD k.toNat [])).map u8v) := by have h9 := hR25; rw [hsi, Nat.add_sub_cancel_left, Nat.mul_one, Nat.mul_one, ← List.map_drop, ← List.map_take, hgt] at h9; exact h9
   exact obN_end rfl ⟨v24, rfl, hR25⟩ (grown_refl _ _)
  ·
   intro a26 w26 hN26 hd26 hbs26 hph26 E26
   have hd26 := hd26.trans hd
   have s26_4 := (hbs26 4 rfl).trans (sl_hit hN rfl)
   have s26_5 := (hbs26 5 rfl).trans (sl_hit hN rfl)
   obtain ⟨b17, s26_16, l26_0, hB19⟩ := hph26 0 _ 16 rfl rfl
   have hB19 : Bx w26 b17 5 [] := hB19
   have hi_b17 := hB19.lt
   have ne_b17_u5 : u5.ownBlock ≠ some b17 := fun hh => by have := (hO5.lt _ hh).2; omega
   obtain ⟨v24, s26_29, hR25⟩ := hph26 13 _ 29 rfl rfl
   have hR25 : RdC w26 base w10.heap.size 1 v24 ((L.getD k.toNat []).length) (((L.getD k.toNat [])).map u8v) := hR25
   clear hbs26 hph26
   have E26 : w10.grownBy w26 none := E26
   have z_w26 := E26.size
   have hx5 := hx5.keep0 E26
   have hO5 := hO5.keep0 E26
   have hb := grow_step0 hb E26
   refine split_end ?_
   refine from_seq (tl := [_, _, _]) (by decide) (by kernel_rfl) rfl ?_
   have hP32 := (Own.ofBx (base := w.heap.size) (sz := 1) (n := 0) hB19 rfl (by decide) (by omega))
   refine op_append slt22 (ev_base hN26 rfl s26_16) hP32 (ev_base hN26 rfl s26_29) (Src.ofRd Try.underlying22 (by decide) hR25 (by simp [Value.oneCell', u8v])) (by unfold maxLen; omega) (by omega) hb.size ?_
   intro v27 w28 hO30 E29 hm31
   have dj33 : DJ u5 (Value.slice (some ⟨b17, 0, none⟩) 0 0) := fun k hk hg => by simp [Value.ownBlock] at hg; subst hg; exact ne_b17_u5 hk
   have dj34 : DJ u5 v27 := DJ.step hm31 (fun k hk => (hO5.lt k hk).2) dj33
   have z_w28 := E29.size
   have hx5 := hx5.keep E29 (by simp [Value.ownBlock]; try omega)
   have hO5 := hO5.keepD E29 dj33
   have hb := grow_stepO hb hP32 E29 (by omega)
   have hO30 : Own w28 w.heap.size 5 1 v27 (0 + ((L.getD k.toNat []).length)) (((L.getD k.toNat [])).map u8v) := by simpa [u8v] using hO30
   refine op_assign (ev_hit hN26 rfl) ?_
   refine op_assign rfl ?_
   refine reg_nil ?_
   refine hK15 _ _ ?_
   refine wp_ret ?_
   refine ret2 rfl hd26 (ev_hit hN26 rfl) (ev_hit hN26 rfl) ⟨_, rfl, ?_⟩
   -- path 15F
   have hz1 : sizeL L k ≠ 0 := by omega
   rw [(drop_ok hz1).1, getL_in hz1]
   exact ⟨hb, _, rfl, hO30.cast (by omega) rfl, ⟨_, _, _, hx5, hO5, R5.pg, ro5, dj34.symm⟩⟩

end Go.Proofs.Ytdhpalioifjfbaa

/- Walks, written by a program: what each function of the translation hands back. -/
namespace Go.Proofs.Ytdhpalioifjfbaa
open Go.Gx Go.RowKit
attribute [local irreducible] wpList wpStill Code.wp Calls

theorem setx_ret (L : List By) (bs : By) (n : Nat) (vb : Value) (base p : Nat) (w : World) (hbase : base ≤ w.heap.size) (hx : Bx w p 50 [vb]) (O : Own w base 5 1 vb n (bs.map u8v)) (hP : Pg n bs L vb) (r : By) (bv : Value) (Lo Bo : Nat) (hbr : RdC w Lo Bo 1 bv r.length (r.map u8v)) (hpa : ∀ q, pgRow p n vb = some q → q < Lo ∨ Bo ≤ q) (hBw : Bo ≤ w.heap.size) (k : Int) (hk : -9223372036854775808 ≤ k ∧ k ≤ 9223372036854775807) : Ret Try.prog 20 #[(ptr p 0), (Value.int .i64 k), bv] w (fun v' w' => w.grownBy w' (pgRow p n vb) ∧ v' = .int .i64 (setE L k r) ∧ ∃ u n' bs', Bx w' p 50 [u] ∧ Own w' base 5 1 u n' (bs'.map u8v) ∧ Pg n' bs' (setN L k r) u ∧ RowOr u (pgRow p n vb) w.heap.size) := by
 have hb := grown_refl w (pgRow p n vb)
 refine enter (N := 44) Try.func20 rfl rfl (by simp) fun a0 hN hd hA => ?_
 have s0 : a0.tmps.getD 0 undef = (ptr p 0) := hA 0 (by simp)
 have s1 : a0.tmps.getD 1 undef = (Value.int .i64 k) := hA 1 (by simp)
 have s2 : a0.tmps.getD 2 undef = bv := hA 2 (by simp)
 clear hA
 refine seq_any fun K1 hK1 => ?_
 refine one_reg ?_
 refine op_assign rfl ?_
 refine reg_nil ?_
 refine hK1 _ _ ?_
 refine seq_any fun K2 hK2 => ?_
 refine seq_any fun K3 hK3 => ?_
 refine one_reg ?_
 refine op_move (ev_base hN rfl s0) ?_
 refine op_peq_some ptrt24 (ev_hit hN rfl) rfl ?_
 refine reg_nil ?_
 refine hK3 _ _ ?_
 refine wp_cond_false (ev_hit hN rfl) ?_
 refine wp_skip ?_
 refine hK2 _ _ ?_
 refine seq_any fun K4 hK4 => ?_
 refine one_reg ?_
 refine op_move (ev_base hN rfl s0) ?_
 refine op_fn (vs := [(ptr p 0)]) ok36 ⟨(ev_hit hN rfl), trivial⟩ (ready_ret L bs n _ _ _ _ hbase hx O hP) ?_
 rintro _ w6 ⟨E7, rfl, u5, bs5, hx5, hO5, R5, ro5⟩
 have z_w6 := E7.size
 have hbr := hbr.keep E7 hpa
 have hb := grown_trans hb E7
 refine reg_nil ?_
 refine hK4 _ _ ?_
 refine seq_any fun K8 hK8 => ?_
 refine one_reg ?_
 refine op_move (ev_base hN rfl s0) ?_
 refine op_move (ev_base hN rfl s1) ?_
 refine op_fn (vs := [(ptr p 0), (Value.int .i64 k)]) ok38 ⟨(ev_hit hN rfl), ⟨(ev_hit hN rfl), trivial⟩⟩ (size_ret bs5 _ _ _ _ (by first | assumption | exact Rep.len (by assumption)) hx5 hO5 L R5 k (by omega)) ?_
 rintro _ w10 ⟨E11, rfl⟩
 have E11 := grown_of_below E11
 have z_w10 := E11.size
 have hbr := hbr.keep0 E11
 have hx5 := hx5.keep0 E11
 have hO5 := hO5.keep0 E11
 have hb := grow_step0 hb E11
 have hz_9 := sizeL_le R5 k
 refine op_assign (ev_hit hN rfl) ?_
 refine reg_nil ?_
 refine hK8 _ _ ?_
 refine seq_any fun K12 hK12 => ?_
 refine wp_block ?_
 refine seq_any fun K13 hK13 => ?_
 refine one_reg ?_
 refine op_move (ev_hit hN rfl) ?_
 refine op_eql (ev_hit hN rfl) rfl (fun c17 => ?_) (fun c17 => ?_)
 · -- 17T
  refine op_assign (ev_hit hN rfl) ?_
  refine reg_nil ?_
  refine hK13 _ _ ?_
  refine wp_cond_true (ev_hit hN rfl) ?_
  refine seq_any fun K14 hK14 => ?_
  refine one_reg ?_
  refine op_assign rfl ?_
  refine reg_nil ?_
  refine hK14 _ _ ?_
  refine wp_ret (blk_ret (then_ret ( ?_)))
  refine ret1 rfl hd (ev_hit hN rfl) ⟨_, rfl, ?_⟩
  -- path 17T
  obtain ⟨e1, e2⟩ := set_none (L := L) (k := k) (r := r) (by omega)
  rw [e1, e2]
  exact ⟨hb, rfl, ⟨_, _, _, hx5, hO5, R5.pg, ro5⟩⟩
 · -- 17F
  refine op_assign (ev_hit hN rfl) ?_
  refine reg_nil ?_
  refine hK13 _ _ ?_
  refine wp_cond_false (ev_hit hN rfl) ?_
  refine seq_any fun K15 hK15 => ?_
  refine one_reg ?_
  refine op_move (ev_base hN rfl s2) ?_
  refine op_len_rd Try.underlying22 (ev_hit hN rfl) hbr ?_
  refine op_eql (ev_hit hN rfl) rfl (fun c21 => ?_) (fun c21 => ?_)
  · -- 21T
   refine op_move (ev_hit hN rfl) ?_
   refine g_false (j := 3) (dj := 22) (b := false) rfl rfl rfl (ev_hit hN rfl) rfl rfl ?_
   refine g_false (j := 3) (dj := 22) (b := false) rfl rfl rfl (ev_hit hN rfl) rfl rfl ?_
   refine g_false (j := 3) (dj := 22) (b := false) rfl rfl rfl (ev_hit hN rfl) rfl rfl ?_
   refine op_pick_t (ev_hit hN rfl) rfl ?_
   refine op_assign (ev_hit hN rfl) ?_
   refine reg_nil ?_
   refine hK15 _ _ ?_
   refine wp_cond_true (ev_hit hN rfl) ?_
   refine seq_any fun K16 hK16 => ?_
   refine one_reg ?_
   refine op_assign rfl ?_
   refine reg_nil ?_
   refine hK16 _ _ ?_
   refine wp_ret (blk_ret (then_ret ( ?_)))
   refine ret1 rfl hd (ev_hit hN rfl) ⟨_, rfl, ?_⟩
   -- path 17F 21T
   obtain ⟨e1, e2⟩ := set_bad (L := L) (k := k) (by omega) (badB_t (r := r) (by omega))
   rw [e1, e2]
   exact ⟨hb, rfl, ⟨_, _, _, hx5, hO5, R5.pg, ro5⟩⟩
  · -- 21F
   refine op_move (ev_hit hN rfl) ?_
   refine g_true (j := 3) (dj := 22) (b := false) rfl rfl rfl (ev_hit hN rfl) ?_
   refine op_move (ev_base hN rfl s2) ?_
   refine g_true (j := 3) (dj := 22) (b := false) rfl rfl rfl (ev_hit hN rfl) ?_
   refine op_len_rd Try.underlying22 (ev_hit hN rfl) hbr ?_
   refine g_true (j := 3) (dj := 22) (b := false) rfl rfl rfl (ev_hit hN rfl) ?_
   refine op_gtr (ev_hit hN rfl) rfl (fun c25 => ?_) (fun c25 => ?_)
   · -- 25T
    refine op_pick_f (ev_hit hN rfl) (ev_hit hN rfl) ?_
    refine op_assign (ev_hit hN rfl) ?_
    refine reg_nil ?_
    refine hK15 _ _ ?_
    refine wp_cond_true (ev_hit hN rfl) ?_
    refine seq_any fun K17 hK17 => ?_
    refine one_reg ?_
    refine op_assign rfl ?_
    refine reg_nil ?_
    refine hK17 _ _ ?_
    refine wp_ret (blk_ret (then_ret ( ?_)))
    refine ret1 rfl hd (ev_hit hN rfl) ⟨_, rfl, ?_⟩
    -- path 17F 21F 25T
    obtain ⟨e1, e2⟩ := set_bad (L := L) (k := k) (by omega) (badB_t (r := r) (by omega))
    rw [e1, e2]
    exact ⟨hb, rfl, ⟨_, _, _, hx5, hO5, R5.pg, ro5⟩⟩
   · -- 25F
    refine op_pick_f (ev_hit hN rfl) (ev_hit hN rfl) ?_
    refine op_assign (ev_hit hN rfl) ?_
    refine reg_nil ?_
    refine hK15 _ _ ?_
    refine wp_cond_false (ev_hit hN rfl) ?_
    refine seq_any fun K18 hK18 => ?_
    refine one_reg ?_
    refine op_move (ev_base hN rfl s0) ?_
    refine op_move (ev_base hN rfl s0) ?_
    refine op_fn (vs := [(ptr p 0)]) ok37 ⟨(ev_hit hN rfl), trivial⟩ (many_ret bs5 _ _ _ _ (by first | assumption | exact Rep.len (by assumption)) hx5 hO5 L R5) ?_
    rintro _ w20 ⟨E21, rfl⟩
    have E21 := grown_of_below E21
    have z_w20 := E21.size
    have hbr := hbr.keep0 E21
    have hx5 := hx5.keep0 E21
    have hO5 := hO5.keep0 E21
    have hb := grow_step0 hb E21
    have hm_19 := Rep.fits R5
    refine op_fn (vs := [(ptr p 0), (Value.int .i64 ((L.length : Nat) : Int))]) ok39 ⟨(ev_hit hN rfl), ⟨(ev_hit hN rfl), trivial⟩⟩ (left_ret bs5 _ _ _ _ (by first | assumption | exact Rep.len (by assumption)) hx5 hO5 L R5 (L.length) (by omega)) ?_
    rintro _ w23 ⟨E24, rfl⟩
    have E24 := grown_of_below E24
    have z_w23 := E24.size
    have hbr := hbr.keep0 E24
    have hx5 := hx5.keep0 E24
    have hO5 := hO5.keep0 E24
    have hb := grow_step0 hb E24
    have hlf_22 := leftL_rng R5 (L.length) (by omega)
    refine op_move (ev_hit hN rfl) ?_
    refine op_add (ev_hit hN rfl) (ev_hit hN rfl) (add64 (by omega)) ?_
    refine op_move (ev_base hN rfl s2) ?_
    refine op_len_rd Try.underlying22 (ev_hit hN rfl) hbr ?_
    refine op_lss (ev_hit hN rfl) (ev_hit hN rfl) (fun c36 => ?_) (fun c36 => ?_)
    · -- 36T
     refine op_assign (ev_hit hN rfl) ?_
     refine reg_nil ?_
     refine hK18 _ _ ?_
     refine wp_cond_true (ev_hit hN rfl) ?_
     refine seq_any fun K25 hK25 => ?_
     refine one_reg ?_
     refine op_assign rfl ?_
     refine reg_nil ?_
     refine hK25 _ _ ?_
     refine wp_ret (blk_ret (then_ret ( ?_)))
     refine ret1 rfl hd (ev_hit hN rfl) ⟨_, rfl, ?_⟩
     -- path 17F 21F 25F 36T
     obtain ⟨e1, e2⟩ := set_full (L := L) (k := k) (by omega) (badB_f (r := r) (by omega)) (by omega)
     rw [e1, e2]
     exact ⟨hb, rfl, ⟨_, _, _, hx5, hO5, R5.pg, ro5⟩⟩
    · -- 36F
     refine op_assign (ev_hit hN rfl) ?_
     refine reg_nil ?_
     refine hK18 _ _ ?_
     refine wp_cond_false (ev_hit hN rfl) ?_
     refine wp_skip ?_
     refine hK12 _ _ ?_
     refine seq_any fun K26 hK26 => ?_
     refine one_reg ?_
     have hkn := sizeL_nat (L := L) (s := k) (by omega)
     have hmm := R5.fits
     have hss := sumL_set (L := L) (i := k.toNat) (r := []) (by omega)
     have hsi : sizeL L k = (L.getD k.toNat []).length := by rw [← getL_len, getL_in (by omega)]
     refine op_move (ev_base hN rfl s0) ?_
     refine op_move ((ev_base hN rfl s1).trans (congrArg (Value.int .i64) (show _ = ((k.toNat : Nat) : Int) by omega))) ?_
     refine op_fn (vs := [(ptr p 0), (Value.int .i64 ((k.toNat : Nat) : Int)), (Value.int .i64 0), (Value.int .i64 0)]) ok41 ⟨(ev_hit hN rfl), ⟨(ev_hit hN rfl), ⟨rfl, ⟨rfl, trivial⟩⟩⟩⟩ (pts_ret bs5 _ _ _ _ (by first | assumption | exact Rep.len (by assumption)) hx5 hO5 k.toNat 0 0 (by omega) (by omega) (by omega)) ?_
     rintro _ w29 ⟨E30, rfl, hO27⟩
     have z_w29 := E30.size
     have hbr := hbr.keep E30 (ro5.apart hpa hBw)
     have hx5 := hx5.keepO hO5 E30 (by decide)
     have hb := grow_stepP hb E30 ro5
     have hl_hO27 : (ptsB bs5 k.toNat 0 0).length = 256 := (pts_len _ _ _ _).trans (by first | assumption | exact Rep.len (by assumption))
     have R28 := R5.empty (k := k.toNat) (by omega)
     refine reg_nil ?_
     refine hK26 _ _ ?_
     refine seq_any fun K31 hK31 => ?_
     refine one_reg ?_
     refine op_move (ev_base hN rfl s0) ?_
     refine op_move ((ev_base hN rfl s1).trans (congrArg (Value.int .i64) (show _ = ((k.toNat : Nat) : Int) by omega))) ?_
     refine op_move (ev_base hN rfl s2) ?_
     refine op_fn (vs := [(ptr p 0), (Value.int .i64 ((k.toNat : Nat) : Int)), bv]) ok40 ⟨(ev_hit hN rfl), ⟨(ev_hit hN rfl), ⟨(ev_hit hN rfl), trivial⟩⟩⟩ (lays_ret (ptsB bs5 k.toNat 0 0) _ _ _ _ (by first | assumption | exact Rep.len (by assumption)) hx5 hO27 r _ _ _ hbr (ro5.apart hpa hBw) (L.set k.toNat []) R28 k.toNat (by simp; omega) (set_get (by omega)) (by simp only [List.length_set]; simp only [List.length_nil] at hss; unfold leftL at *; omega)) ?_
     rintro _ w34 ⟨E35, rfl, bs32, hO33, R32⟩
     have z_w34 := E35.size
     have hbr := hbr.keep E35 (ro5.apart hpa hBw)
     have hx5 := hx5.keepO hO27 E35 (by decide)
     have hb := grow_stepP hb E35 ro5
     have hl_hO33 : bs32.length = 256 := R32.len
     refine reg_nil ?_
     refine hK31 _ _ ?_
     refine seq_any fun K36 hK36 => ?_
     refine one_reg ?_
     refine op_assign rfl ?_
     refine reg_nil ?_
     refine hK36 _ _ ?_
     refine wp_ret ?_
     refine ret1 rfl hd (ev_hit hN rfl) ⟨_, rfl, ?_⟩
     -- path 17F 21F 25F 36F
     obtain ⟨e1, e2⟩ := set_ok (L := L) (k := k) (by omega) (badB_f (r := r) (by omega)) (by omega)
     rw [e1, e2, ← layL_set (by omega)]
     exact ⟨hb, rfl, ⟨_, _, _, hx5, hO33, R32.pg, ro5⟩⟩

end Go.Proofs.Ytdhpalioifjfbaa

/- Walks, written by a program: what each function of the translation hands back. -/
namespace Go.Proofs.Ytdhpalioifjfbaa
open Go.Gx Go.RowKit
attribute [local irreducible] wpList wpStill Code.wp Calls

theorem drop_ret (L : List By) (bs : By) (n : Nat) (vb : Value) (base p : Nat) (w : World) (hbase : base ≤ w.heap.size) (hx : Bx w p 50 [vb]) (O : Own w base 5 1 vb n (bs.map u8v)) (hP : Pg n bs L vb) (k : Int) (hk : -9223372036854775808 ≤ k ∧ k ≤ 9223372036854775807) : Ret Try.prog 13 #[(ptr p 0), (Value.int .i64 k)] w (fun v' w' => w.grownBy w' (pgRow p n vb) ∧ v' = .int .i64 (dropE L k) ∧ ∃ u n' bs', Bx w' p 50 [u] ∧ Own w' base 5 1 u n' (bs'.map u8v) ∧ Pg n' bs' (dropN L k) u ∧ RowOr u (pgRow p n vb) w.heap.size) := by
 have hb := grown_refl w (pgRow p n vb)
 refine enter (N := 33) Try.func13 rfl rfl (by simp) fun a0 hN hd hA => ?_
 have s0 : a0.tmps.getD 0 undef = (ptr p 0) := hA 0 (by simp)
 have s1 : a0.tmps.getD 1 undef = (Value.int .i64 k) := hA 1 (by simp)
 clear hA
 refine seq_any fun K1 hK1 => ?_
 refine one_reg ?_
 refine op_assign rfl ?_
 refine reg_nil ?_
 refine hK1 _ _ ?_
 refine seq_any fun K2 hK2 => ?_
 refine seq_any fun K3 hK3 => ?_
 refine one_reg ?_
 refine op_move (ev_base hN rfl s0) ?_
 refine op_peq_some ptrt24 (ev_hit hN rfl) rfl ?_
 refine reg_nil ?_
 refine hK3 _ _ ?_
 refine wp_cond_false (ev_hit hN rfl) ?_
 refine wp_skip ?_
 refine hK2 _ _ ?_
 refine seq_any fun K4 hK4 => ?_
 refine one_reg ?_
 refine op_move (ev_base hN rfl s0) ?_
 refine op_fn (vs := [(ptr p 0)]) ok36 ⟨(ev_hit hN rfl), trivial⟩ (ready_ret L bs n _ _ _ _ hbase hx O hP) ?_
 rintro _ w6 ⟨E7, rfl, u5, bs5, hx5, hO5, R5, ro5⟩
 have z_w6 := E7.size
 have hb := grown_trans hb E7
 refine reg_nil ?_
 refine hK4 _ _ ?_
 refine seq_any fun K8 hK8 => ?_
 refine seq_any fun K9 hK9 => ?_
 refine one_reg ?_
 refine op_move (ev_base hN rfl s0) ?_
 refine op_move (ev_base hN rfl s1) ?_
 refine op_fn (vs := [(ptr p 0), (Value.int .i64 k)]) ok38 ⟨(ev_hit hN rfl), ⟨(ev_hit hN rfl), trivial⟩⟩ (size_ret bs5 _ _ _ _ (by first | assumption | exact Rep.len (by assumption)) hx5 hO5 L R5 k (by omega)) ?_
 rintro _ w11 ⟨E12, rfl⟩
 have E12 := grown_of_below E12
 have z_w11 := E12.size
 have hx5 := hx5.keep0 E12
 have hO5 := hO5.keep0 E12
 have hb := grow_step0 hb E12
 have hz_10 := sizeL_le R5 k
 refine op_eql (ev_hit hN rfl) rfl (fun c13 => ?_) (fun c13 => ?_)
 · -- 13T
  refine reg_nil ?_
  refine hK9 _ _ ?_
  refine wp_cond_true (ev_hit hN rfl) ?_
  refine seq_any fun K13 hK13 => ?_
  refine one_reg ?_
  refine op_assign rfl ?_
  refine reg_nil ?_
  refine hK13 _ _ ?_
  refine wp_ret (then_ret ( ?_))
  refine ret1 rfl hd (ev_hit hN rfl) ⟨_, rfl, ?_⟩
  -- path 13T
  obtain ⟨e1, e2⟩ := drop_none (L := L) (k := k) (by omega)
  rw [e1, e2]
  exact ⟨hb, rfl, ⟨_, _, _, hx5, hO5, R5.pg, ro5⟩⟩
 · -- 13F
  refine reg_nil ?_
  refine hK9 _ _ ?_
  refine wp_cond_false (ev_hit hN rfl) ?_
  refine wp_skip ?_
  refine hK8 _ _ ?_
  refine seq_any fun K14 hK14 => ?_
  refine one_reg ?_
  have hkn := sizeL_nat (L := L) (s := k) (by omega)
  have hmm := R5.fits
  refine op_move (ev_base hN rfl s0) ?_
  refine op_move ((ev_base hN rfl s1).trans (congrArg (Value.int .i64) (show _ = ((k.toNat : Nat) : Int) by omega))) ?_
  refine op_fn (vs := [(ptr p 0), (Value.int .i64 ((k.toNat : Nat) : Int)), (Value.int .i64 0), (Value.int .i64 0)]) ok41 ⟨(ev_hit hN rfl), ⟨(ev_hit hN rfl), ⟨rfl, ⟨rfl, trivial⟩⟩⟩⟩ (pts_ret bs5 _ _ _ _ (by first | assumption | exact Rep.len (by assumption)) hx5 hO5 k.toNat 0 0 (by omega) (by omega) (by omega)) ?_
  rintro _ w17 ⟨E18, rfl, hO15⟩
  have z_w17 := E18.size
  have hx5 := hx5.keepO hO5 E18 (by decide)
  have hb := grow_stepP hb E18 ro5
  have hl_hO15 : (ptsB bs5 k.toNat 0 0).length = 256 := (pts_len _ _ _ _).trans (by first | assumption | exact Rep.len (by assumption))
  have R16 := R5.empty (k := k.toNat) (by omega)
  refine reg_nil ?_
  refine hK14 _ _ ?_
  refine seq_join2 (N := 33) (fun az_ w' => ∃ (m : Nat), (az_.tmps.getD 0 undef = (ptr p 0)) ∧ (az_.tmps.getD 4 undef = (Value.int .i64 0)) ∧ (az_.tmps.getD 5 undef = (Value.int .i64 ((m : Nat) : Int))) ∧ (m ≤ (L.set k.toNat []).length) ∧ (cutL (L.set k.toNat []) = (L.set k.toNat []).take m) ∧ (w.grownBy w' (pgRow p n vb)) ∧ (w17.heap.size ≤ w'.heap.size) ∧ (Bx w' p 50 [u5]) ∧ (Own w' base 5 1 u5 256 ((ptsB bs5 k.toNat 0 0).map u8v))) (fun hJ19 => ?_) ?_
  ·
   refine seq_any fun K20 hK20 => ?_
   refine one_reg ?_
   refine op_move (ev_base hN rfl s0) ?_
   refine op_fn (vs := [(ptr p 0)]) ok37 ⟨(ev_hit hN rfl), trivial⟩ (many_ret (ptsB bs5 k.toNat 0 0) _ _ _ _ (by first | assumption | exact Rep.len (by assumption)) hx5 hO15 (L.set k.toNat []) R16) ?_
   rintro _ w22 ⟨E23, rfl⟩
   have E23 := grown_of_below E23
   have z_w22 := E23.size
   have hx5 := hx5.keep0 E23
   have hO15 := hO15.keep0 E23
   have hb := grow_step0 hb E23
   have hm_21 := Rep.fits R16
   refine op_assign (ev_hit hN rfl) ?_
   refine reg_nil ?_
   refine hK20 _ _ ?_
   refine seq_any fun K24 hK24 => ?_
   refine wp_block ?_
   refine loop_m (fun mz_ az_ w' => ∃ (m : Nat), mz_ = (m + 1) ∧ (az_.tmps.getD 0 undef = (ptr p 0)) ∧ (az_.tmps.getD 4 undef = (Value.int .i64 0)) ∧ (az_.tmps.getD 5 undef = (Value.int .i64 ((m : Nat) : Int))) ∧ (m ≤ (L.set k.toNat []).length) ∧ (cutL (L.set k.toNat []) = cutL ((L.set k.toNat []).take m)) ∧ (w.grownBy w' (pgRow p n vb)) ∧ (w22.heap.size ≤ w'.heap.size) ∧ (Bx w' p 50 [u5]) ∧ (Own w' base 5 1 u5 256 ((ptsB bs5 k.toNat 0 0).map u8v))) _ hN hd ⟨L.length, rfl, (sl_base hN rfl s0), (sl_hit hN rfl), (sl_hit hN rfl).trans (congrArg (Value.int .i64) (by simp)), (by simp), (by rw [List.take_of_length_le (by simp)]), hb, (Nat.le_refl _), hx5, hO15⟩ ?_
   rintro _ a25 w25 hN25 hd25 ⟨m, rfl, s25_0, s25_4, s25_5, hm1, hcu, hb, zl_w25, hx5, hO15⟩
   have z_w25 := hb.size
   refine seq_any fun K26 hK26 => ?_
   refine seq_any fun K27 hK27 => ?_
   refine one_reg ?_
   refine op_move (ev_base hN25 rfl s25_5) ?_
   refine op_gtr (ev_hit hN25 rfl) rfl (fun c20 => ?_) (fun c20 => ?_)
   · -- 20T
    refine op_move (ev_hit hN25 rfl) ?_
    refine g_true (j := 2) (dj := 21) (b := true) rfl rfl rfl (ev_hit hN25 rfl) ?_
    refine op_move (ev_base hN25 rfl s25_0) ?_
    refine g_true (j := 2) (dj := 21) (b := true) rfl rfl rfl (ev_hit hN25 rfl) ?_
    refine op_move (ev_base hN25 rfl s25_5) ?_
    refine g_true (j := 2) (dj := 21) (b := true) rfl rfl rfl (ev_hit hN25 rfl) ?_
    refine op_sub (r := ((m - 1 : Nat) : Int)) (ev_hit hN25 rfl) rfl (by rw [IntKind.wrap_i64]; omega) ?_
    refine g_true (j := 2) (dj := 21) (b := true) rfl rfl rfl (ev_hit hN25 rfl) ?_
    refine op_fn (vs := [(ptr p 0), (Value.int .i64 ((m - 1 : Nat) : Int))]) ok38 ⟨(ev_hit hN25 rfl), ⟨(ev_hit hN25 rfl), trivial⟩⟩ (size_ret (ptsB bs5 k.toNat 0 0) _ _ _ _ (by first | assumption | exact Rep.len (by assumption)) hx5 hO15 (L.set k.toNat []) R16 ((m - 1 : Nat) : Int) (by omega)) ?_
    rintro _ w29 ⟨E30, rfl⟩
    have E30 := grown_of_below E30
    have z_w29 := E30.size
    have hx5 := hx5.keep0 E30
    have hO15 := hO15.keep0 E30
    have hb := grow_step0 hb E30
    have hz_28 := sizeL_le R16 ((m - 1 : Nat) : Int)
    refine g_true (j := 2) (dj := 21) (b := true) rfl rfl rfl (ev_hit hN25 rfl) ?_
    refine op_eql (ev_hit hN25 rfl) rfl (fun c26 => ?_) (fun c26 => ?_)
    · -- 26T
     refine op_pick_t (ev_hit hN25 rfl) (ev_hit hN25 rfl) ?_
     refine reg_nil ?_
     refine hK27 _ _ ?_
     refine wp_cond_true (ev_hit hN25 rfl) ?_
     refine wp_skip ?_
     refine hK26 _ _ ?_
     refine wp_block ?_
     refine one_reg ?_
     refine op_move (ev_base hN25 rfl s25_5) ?_
     refine op_sub (r := ((m - 1 : Nat) : Int)) (ev_hit hN25 rfl) rfl (by rw [IntKind.wrap_i64]; omega) ?_
     refine op_assign (ev_hit hN25 rfl) ?_
     refine reg_nil ?_
     refine blk_normal ?_
     -- round 13F 20T 26T
     have hsm := sizeL_in (L := (L.set k.toNat [])) (s := m - 1) (by omega)
     exact loop_next _ hN25 hd25 ⟨(m - 1), rfl, (sl_base hN25 rfl s25_0), (sl_base hN25 rfl s25_4), (sl_hit hN25 rfl).trans (congrArg (Value.int .i64) (by omega)), (by omega), (hcu.trans (cutL_go (by omega) hm1 (List.eq_nil_of_length_eq_zero (by omega)))), hb, (by omega), hx5, hO15⟩ (by omega)
    · -- 26F
     refine op_pick_t (ev_hit hN25 rfl) (ev_hit hN25 rfl) ?_
     refine reg_nil ?_
     refine hK27 _ _ ?_
     refine wp_cond_false (ev_hit hN25 rfl) ?_
     refine wp_exit (then_exit (then_exit (blk_hit ?_)))
     refine hK24 _ _ ?_
     exact hJ19 _ _ _ hN25 hd25 ⟨m, (sl_base hN25 rfl s25_0), (sl_base hN25 rfl s25_4), (sl_base hN25 rfl s25_5), hm1, (hcu.trans (cutL_stop hm1 (.inr (fun h9 => by have h8 := sizeL_in (L := (L.set k.toNat [])) (s := m - 1) (by omega); rw [h9] at h8; simp at h8; omega)))), hb, (by omega), hx5, hO15⟩
   · -- 20F
    refine op_move (ev_hit hN25 rfl) ?_
    refine g_false (j := 2) (dj := 21) (b := true) rfl rfl rfl (ev_hit hN25 rfl) rfl rfl ?_
    refine g_false (j := 2) (dj := 21) (b := true) rfl rfl rfl (ev_hit hN25 rfl) rfl rfl ?_
    refine g_false (j := 2) (dj := 21) (b := true) rfl rfl rfl (ev_hit hN25 rfl) rfl rfl ?_
    refine g_false (j := 2) (dj := 21) (b := true) rfl rfl rfl (ev_hit hN25 rfl) rfl rfl ?_
    refine g_false (j := 2) (dj := 21) (b := true) rfl rfl rfl (ev_hit hN25 rfl) rfl rfl ?_
    refine op_pick_f (ev_hit hN25 rfl) rfl ?_
    refine reg_nil ?_
    refine hK27 _ _ ?_
    refine wp_cond_false (ev_hit hN25 rfl) ?_
    refine wp_exit (then_exit (then_exit (blk_hit ?_)))
    refine hK24 _ _ ?_
    exact hJ19 _ _ _ hN25 hd25 ⟨m, (sl_base hN25 rfl s25_0), (sl_base hN25 rfl s25_4), (sl_base hN25 rfl s25_5), hm1, (hcu.trans (cutL_stop hm1 (.inl (by omega)))), hb, (by omega), hx5, hO15⟩
  ·
   rintro a19 w19 hN19 hd19 ⟨m, s19_0, s19_4, s19_5, hm1, hcu, hb, zl_w19, hx5, hO15⟩
   have z_w19 := hb.size
   refine seq_any fun K31 hK31 => ?_
   refine one_reg ?_
   have hm2 : m ≤ L.length := by simpa using hm1
   refine op_move (ev_base hN19 rfl s19_0) ?_
   refine op_move (ev_base hN19 rfl s19_5) ?_
   refine op_fn (vs := [(ptr p 0), (Value.int .i64 0), (Value.int .i64 ((m : Nat) : Int))]) ok42 ⟨(ev_hit hN19 rfl), ⟨rfl, ⟨(ev_hit hN19 rfl), trivial⟩⟩⟩ (set_ret (ptsB bs5 k.toNat 0 0) _ _ _ _ (by first | assumption | exact Rep.len (by assumption)) hx5 hO15 0 m (by omega) (by omega)) ?_
   rintro _ w34 ⟨E35, rfl, hO32⟩
   have z_w34 := E35.size
   have hx5 := hx5.keepO hO15 E35 (by decide)
   have hb := grow_stepP hb E35 ro5
   have hl_hO32 : (setB (ptsB bs5 k.toNat 0 0) 0 m).length = 256 := (setB_len _ _ _).trans (by first | assumption | exact Rep.len (by assumption))
   have R33 := R16.cut (m := m) (by omega)
   refine reg_nil ?_
   refine hK31 _ _ ?_
   refine seq_any fun K36 hK36 => ?_
   refine one_reg ?_
   refine op_assign rfl ?_
   refine reg_nil ?_
   refine hK36 _ _ ?_
   refine wp_ret ?_
   refine ret1 rfl hd19 (ev_hit hN19 rfl) ⟨_, rfl, ?_⟩
   -- path 13F
   obtain ⟨e1, e2⟩ := drop_ok (L := L) (k := k) (by omega)
   rw [e1, e2, hcu]
   exact ⟨hb, rfl, ⟨_, _, _, hx5, hO32, R33.pg, ro5⟩⟩

end Go.Proofs.Ytdhpalioifjfbaa

/- Walks, written by a program: what each function of the translation hands back. -/
namespace Go.Proofs.Ytdhpalioifjfbaa
open Go.Gx Go.RowKit
attribute [local irreducible] wpList wpStill Code.wp Calls

theorem slots_ret (L : List By) (bs : By) (n : Nat) (vb : Value) (base p : Nat) (w : World) (hbase : base ≤ w.heap.size) (hx : Bx w p 50 [vb]) (O : Own w base 5 1 vb n (bs.map u8v)) (hP : Pg n bs L vb)  : Ret Try.prog 12 #[(ptr p 0)] w (fun v' w' => w.grownBy w' (pgRow p n vb) ∧ ∃ x, v' = x ∧ Own w' w.heap.size 3 1 x (slotsI L L.length).length ((slotsI L L.length).map (Value.int .i64)) ∧ ∃ u n' bs', Bx w' p 50 [u] ∧ Own w' base 5 1 u n' (bs'.map u8v) ∧ Pg n' bs' (L) u ∧ RowOr u (pgRow p n vb) w.heap.size) := by
 have hb := grown_refl w (pgRow p n vb)
 refine enter (N := 24) Try.func12 rfl rfl (by simp) fun a0 hN hd hA => ?_
 have s0 : a0.tmps.getD 0 undef = (ptr p 0) := hA 0 (by simp)
 clear hA
 refine seq_any fun K1 hK1 => ?_
 refine one_reg ?_
 refine op_assign rfl ?_
 refine reg_nil ?_
 refine hK1 _ _ ?_
 refine seq_any fun K2 hK2 => ?_
 refine seq_any fun K3 hK3 => ?_
 refine one_reg ?_
 refine op_move (ev_base hN rfl s0) ?_
 refine op_peq_some ptrt24 (ev_hit hN rfl) rfl ?_
 refine reg_nil ?_
 refine hK3 _ _ ?_
 refine wp_cond_false (ev_hit hN rfl) ?_
 refine wp_skip ?_
 refine hK2 _ _ ?_
 refine seq_any fun K4 hK4 => ?_
 refine one_reg ?_
 refine op_move (ev_base hN rfl s0) ?_
 refine op_fn (vs := [(ptr p 0)]) ok36 ⟨(ev_hit hN rfl), trivial⟩ (ready_ret L bs n _ _ _ _ hbase hx O hP) ?_
 rintro _ w6 ⟨E7, rfl, u5, bs5, hx5, hO5, R5, ro5⟩
 have z_w6 := E7.size
 have hb := grown_trans hb E7
 refine reg_nil ?_
 refine hK4 _ _ ?_
 refine seq_any fun K8 hK8 => ?_
 refine one_reg ?_
 refine op_assign rfl ?_
 refine reg_nil ?_
 refine hK8 _ _ ?_
 refine seq_any fun K9 hK9 => ?_
 refine seq_any fun K10 hK10 => ?_
 refine one_reg ?_
 refine op_move (ev_base hN rfl s0) ?_
 refine op_fn (vs := [(ptr p 0)]) ok37 ⟨(ev_hit hN rfl), trivial⟩ (many_ret bs5 _ _ _ _ (by first | assumption | exact Rep.len (by assumption)) hx5 hO5 L R5) ?_
 rintro _ w12 ⟨E13, rfl⟩
 have E13 := grown_of_below E13
 have z_w12 := E13.size
 have hx5 := hx5.keep0 E13
 have hO5 := hO5.keep0 E13
 have hb := grow_step0 hb E13
 have hm_11 := Rep.fits R5
 refine op_move rfl ?_
 refine reg_nil ?_
 refine hK10 _ _ ?_
 refine wp_block ?_
 refine loop_m (fun mz_ az_ w' => ∃ (m : Nat) (x : Value), mz_ = L.length - m ∧ (az_.tmps.getD 0 undef = (ptr p 0)) ∧ (az_.tmps.getD 2 undef = (Value.slice none 0 0)) ∧ (az_.tmps.getD 10 undef = (Value.int .i64 ((L.length : Nat) : Int))) ∧ (az_.tmps.getD 11 undef = (Value.int .i64 ((m : Nat) : Int))) ∧ (az_.tmps.getD 3 undef = x) ∧ (m ≤ L.length) ∧ (w.grownBy w' (pgRow p n vb)) ∧ (w12.heap.size ≤ w'.heap.size) ∧ (Bx w' p 50 [u5]) ∧ (Own w' base 5 1 u5 256 (bs5.map u8v)) ∧ (Own w' w.heap.size 3 1 x (slotsI L m).length ((slotsI L m).map (Value.int .i64)))) _ hN hd ⟨0, _, rfl, (sl_base hN rfl s0), (sl_hit hN rfl), (sl_hit hN rfl), (sl_hit hN rfl), (sl_hit hN rfl), Nat.zero_le _, hb, (Nat.le_refl _), hx5, hO5, (Own.nil _ _ _ _)⟩ ?_
 rintro _ a14 w14 hN14 hd14 ⟨m, x, rfl, s14_0, s14_2, s14_10, s14_11, s14_3, hm, hb, zl_w14, hx5, hO5, hO15⟩
 have z_w14 := hb.size
 refine seq_any fun K16 hK16 => ?_
 refine one_reg ?_
 refine op_lss (ev_base hN14 rfl s14_11) (ev_base hN14 rfl s14_10) (fun c12 => ?_) (fun c12 => ?_)
 · -- 12T
  refine reg_nil ?_
  refine hK16 _ _ ?_
  refine seq_any fun K17 hK17 => ?_
  refine wp_cond_true (ev_hit hN14 rfl) ?_
  refine wp_skip ?_
  refine hK17 _ _ ?_
  refine seq_any fun K18 hK18 => ?_
  refine wp_block ?_
  refine seq_any fun K19 hK19 => ?_
  refine one_reg ?_
  refine op_move (ev_base hN14 rfl s14_11) ?_
  refine op_assign (ev_hit hN14 rfl) ?_
  refine reg_nil ?_
  refine hK19 _ _ ?_
  refine seq_any fun K20 hK20 => ?_
  refine one_reg ?_
  refine op_move (ev_base hN14 rfl s14_0) ?_
  refine op_move (ev_hit hN14 rfl) ?_
  refine op_fn (vs := [(ptr p 0), (Value.int .i64 ((m : Nat) : Int))]) ok38 ⟨(ev_hit hN14 rfl), ⟨(ev_hit hN14 rfl), trivial⟩⟩ (size_ret bs5 _ _ _ _ (by first | assumption | exact Rep.len (by assumption)) hx5 hO5 L R5 ((m : Nat) : Int) (by omega)) ?_
  rintro _ w22 ⟨E23, rfl⟩
  have E23 := grown_of_below E23
  have z_w22 := E23.size
  have hx5 := hx5.keep0 E23
  have hO5 := hO5.keep0 E23
  have hO15 := hO15.keep0 E23
  have hb := grow_step0 hb E23
  have hz_21 := sizeL_le R5 ((m : Nat) : Int)
  refine op_gtr (ev_hit hN14 rfl) rfl (fun c17 => ?_) (fun c17 => ?_)
  · -- 17T
   refine reg_nil ?_
   refine hK20 _ _ ?_
   refine wp_cond_true (ev_hit hN14 rfl) ?_
   refine one_reg ?_
   have hslen := slotsI_len L m
   have hsg := slotsI_go (L := L) (m := m) (by have := sizeL_in (L := L) (s := m) (by omega); omega)
   have hmm := R5.fits
   refine op_move (ev_base hN14 rfl s14_3) ?_
   refine op_move (ev_hit hN14 rfl) ?_
   refine op_bslice (e := 3) (pv := [(0, (Value.int .i64 ((m : Nat) : Int)))]) (cs := [(Value.int .i64 ((m : Nat) : Int))]) ⟨rfl, (ev_hit hN14 rfl), trivial⟩ (by kernel_rfl) ?_
   intro w24 b25 lo_b25 hi_b25 hB27 E26
   have ne_b25_x : x.ownBlock ≠ some b25 := fun hh => by have := (hO15.lt _ hh).2; omega
   have z_w24 := E26.size
   have hx5 := hx5.keep0 E26
   have hO5 := hO5.keep0 E26
   have hO15 := hO15.keep0 E26
   have hb := grow_step0 hb E26
   have hP33 := hO15
   refine op_append slt29 (ev_hit hN14 rfl) hP33 (ev_hit hN14 rfl) (Src.ofRd Try.underlying29 (by decide) (RdC.ofBx (sz := 1) (n := 1) hB27 rfl (by decide)) (by simp [Value.oneCell', u8v])) (by unfold maxLen; omega) (by omega) hb.size ?_
   intro v28 w29 hO31 E30 hm32
   have z_w29 := E30.size
   have hx5 := hx5.keepO hP33 E30 (by decide)
   have hO5 := hO5.keepT hP33 E30 (by decide)
   have hB27 := hB27.keep E30 (fun hh => ne_b25_x hh.symm)
   have hb := grow_stepO hb hP33 E30 (by omega)
   have hO31 : Own w29 w.heap.size 3 1 v28 (slotsI L (m + 1)).length (((slotsI L (m + 1))).map (Value.int .i64)) := by rw [hsg]; exact hO31.cast (by rw [List.length_append]; rfl) (by rw [List.map_append]; rfl)
   have ne_b25_v28 : v28.ownBlock ≠ some b25 := ne_step (w1 := w24) ⟨E30, hm32⟩ (by omega) ne_b25_x
   refine op_assign (ev_hit hN14 rfl) ?_
   refine reg_nil ?_
   refine hK18 _ _ ?_
   refine one_reg ?_
   refine op_add (ev_base hN14 rfl s14_11) rfl (add64 (by omega)) ?_
   refine op_move (ev_hit hN14 rfl) ?_
   refine reg_nil ?_
   -- round 12T 17T
   have hsm := sizeL_in (L := L) (s := m) (by omega)
   exact loop_next _ hN14 hd14 ⟨(m + 1), _, rfl, (sl_base hN14 rfl s14_0), (sl_base hN14 rfl s14_2), (sl_base hN14 rfl s14_10), (sl_hit hN14 rfl).trans (congrArg (Value.int .i64) (by omega)), (sl_hit hN14 rfl), (by omega), hb, (by omega), hx5, hO5, (hO31.cast rfl rfl)⟩ (by omega)
  · -- 17F
   refine reg_nil ?_
   refine hK20 _ _ ?_
   refine wp_cond_false (ev_hit hN14 rfl) ?_
   refine wp_skip ?_
   refine hK18 _ _ ?_
   refine one_reg ?_
   refine op_add (ev_base hN14 rfl s14_11) rfl (add64 (by omega)) ?_
   refine op_move (ev_hit hN14 rfl) ?_
   refine reg_nil ?_
   -- round 12T 17F
   have hsm := sizeL_in (L := L) (s := m) (by omega)
   exact loop_next _ hN14 hd14 ⟨(m + 1), _, rfl, (sl_base hN14 rfl s14_0), (sl_base hN14 rfl s14_2), (sl_base hN14 rfl s14_10), (sl_hit hN14 rfl).trans (congrArg (Value.int .i64) (by omega)), (sl_base hN14 rfl s14_3), (by omega), hb, (by omega), hx5, hO5, (hO15.cast (by rw [slotsI_skip (by omega)]) (by rw [slotsI_skip (by omega)]))⟩ (by omega)
 · -- 12F
  refine reg_nil ?_
  refine hK16 _ _ ?_
  refine seq_any fun K34 hK34 => ?_
  refine wp_cond_false (ev_hit hN14 rfl) ?_
  refine wp_exit (then_exit (then_exit (blk_hit ?_)))
  refine hK9 _ _ ?_
  refine seq_any fun K35 hK35 => ?_
  refine one_reg ?_
  refine op_move (ev_base hN14 rfl s14_3) ?_
  refine op_assign (ev_hit hN14 rfl) ?_
  refine reg_nil ?_
  refine hK35 _ _ ?_
  refine wp_ret ?_
  refine ret1 rfl hd14 (ev_hit hN14 rfl) ⟨_, rfl, ?_⟩
  -- path 12F
  have hme : m = L.length := by omega
  subst hme
  exact ⟨hb, _, rfl, hO15, ⟨_, _, _, hx5, hO5, R5.pg, ro5⟩⟩

theorem free_ret (L : List By) (bs : By) (n : Nat) (vb : Value) (base p : Nat) (w : World) (hbase : base ≤ w.heap.size) (hx : Bx w p 50 [vb]) (O : Own w base 5 1 vb n (bs.map u8v)) (hP : Pg n bs L vb)  : Ret Try.prog 14 #[(ptr p 0)] w (fun v' w' => w.grownBy w' (pgRow p n vb) ∧ v' = .int .i64 (leftL L L.length) ∧ ∃ u n' bs', Bx w' p 50 [u] ∧ Own w' base 5 1 u n' (bs'.map u8v) ∧ Pg n' bs' (L) u ∧ RowOr u (pgRow p n vb) w.heap.size) := by
 have hb := grown_refl w (pgRow p n vb)
 refine enter (N := 11) Try.func14 rfl rfl (by simp) fun a0 hN hd hA => ?_
 have s0 : a0.tmps.getD 0 undef = (ptr p 0) := hA 0 (by simp)
 clear hA
 refine seq_any fun K36 hK36 => ?_
 refine one_reg ?_
 refine op_assign rfl ?_
 refine reg_nil ?_
 refine hK36 _ _ ?_
 refine seq_any fun K37 hK37 => ?_
 refine seq_any fun K38 hK38 => ?_
 refine one_reg ?_
 refine op_move (ev_base hN rfl s0) ?_
 refine op_peq_some ptrt24 (ev_hit hN rfl) rfl ?_
 refine reg_nil ?_
 refine hK38 _ _ ?_
 refine wp_cond_false (ev_hit hN rfl) ?_
 refine wp_skip ?_
 refine hK37 _ _ ?_
 refine seq_any fun K39 hK39 => ?_
 refine one_reg ?_
 refine op_move (ev_base hN rfl s0) ?_
 refine op_fn (vs := [(ptr p 0)]) ok36 ⟨(ev_hit hN rfl), trivial⟩ (ready_ret L bs n _ _ _ _ hbase hx O hP) ?_
 rintro _ w41 ⟨E42, rfl, u40, bs40, hx40, hO40, R40, ro40⟩
 have z_w41 := E42.size
 have hb := grown_trans hb E42
 refine reg_nil ?_
 refine hK39 _ _ ?_
 refine seq_any fun K43 hK43 => ?_
 refine one_reg ?_
 refine op_move (ev_base hN rfl s0) ?_
 refine op_move (ev_base hN rfl s0) ?_
 refine op_fn (vs := [(ptr p 0)]) ok37 ⟨(ev_hit hN rfl), trivial⟩ (many_ret bs40 _ _ _ _ (by first | assumption | exact Rep.len (by assumption)) hx40 hO40 L R40) ?_
 rintro _ w45 ⟨E46, rfl⟩
 have E46 := grown_of_below E46
 have z_w45 := E46.size
 have hx40 := hx40.keep0 E46
 have hO40 := hO40.keep0 E46
 have hb := grow_step0 hb E46
 have hm_44 := Rep.fits R40
 refine op_fn (vs := [(ptr p 0), (Value.int .i64 ((L.length : Nat) : Int))]) ok39 ⟨(ev_hit hN rfl), ⟨(ev_hit hN rfl), trivial⟩⟩ (left_ret bs40 _ _ _ _ (by first | assumption | exact Rep.len (by assumption)) hx40 hO40 L R40 (L.length) (by omega)) ?_
 rintro _ w48 ⟨E49, rfl⟩
 have E49 := grown_of_below E49
 have z_w48 := E49.size
 have hx40 := hx40.keep0 E49
 have hO40 := hO40.keep0 E49
 have hb := grow_step0 hb E49
 have hlf_47 := leftL_rng R40 (L.length) (by omega)
 refine op_assign (ev_hit hN rfl) ?_
 refine reg_nil ?_
 refine hK43 _ _ ?_
 refine wp_ret ?_
 refine ret1 rfl hd (ev_hit hN rfl) ⟨_, rfl, ?_⟩
 -- path
 exact ⟨hb, rfl, ⟨_, _, _, hx40, hO40, R40.pg, ro40⟩⟩

theorem new_ret (w : World) : Ret Try.prog 10 #[] w (fun v' w' => Below w.heap.size w w' ∧ ∃ p, v' = ptr p 0 ∧ w.heap.size ≤ p ∧ Bx w' p 50 [.slice none 0 0]) := by
 have hb := Below.refl w.heap.size w
 refine enter (N := 3) Try.func10 rfl rfl (by simp) fun a0 hN hd hA => ?_
 clear hA
 refine seq_any fun K50 hK50 => ?_
 refine one_reg ?_
 refine op_assign rfl ?_
 refine reg_nil ?_
 refine hK50 _ _ ?_
 refine seq_any fun K51 hK51 => ?_
 refine one_reg ?_
 refine op_build (pv := []) (v := (Value.agg #[(Value.slice none 0 0)])) trivial (by kernel_rfl) ?_
 refine op_box (cs := [(Value.slice none 0 0)]) (ev_hit hN rfl) rfl ?_
 intro w52 b53 lo_b53 hi_b53 hB55 E54
 have z_w52 := E54.size
 have hb := below_step0 hb E54 hb.size
 refine op_assign (ev_hit hN rfl) ?_
 refine reg_nil ?_
 refine hK51 _ _ ?_
 refine wp_ret ?_
 refine ret1 rfl hd (ev_hit hN rfl) ⟨_, rfl, ?_⟩
 -- path
 exact ⟨hb, _, rfl, lo_b53, hB55⟩

end Go.Proofs.Ytdhpalioifjfbaa

/- Walks, written by a program: what each function of the translation hands back. -/
namespace Go.Proofs.Ytdhpalioifjfbaa
open Go.Gx Go.RowKit
attribute [local irreducible] wpList wpStill Code.wp Calls

theorem bytes_ret (L : List By) (bs : By) (n : Nat) (vb : Value) (base p : Nat) (w : World) (hbase : base ≤ w.heap.size) (hx : Bx w p 50 [vb]) (O : Own w base 5 1 vb n (bs.map u8v)) (hP : Pg n bs L vb)  : Ret Try.prog 25 #[(ptr p 0)] w (fun v' w' => w.grownBy w' (pgRow p n vb) ∧ ∃ (x : Value) (bx : By), v' = x ∧ Own w' w.heap.size 5 1 x 256 (bx.map u8v) ∧ Rep bx L ∧ ∃ u n' bs', Bx w' p 50 [u] ∧ Own w' base 5 1 u n' (bs'.map u8v) ∧ Pg n' bs' (L) u ∧ RowOr u (pgRow p n vb) w.heap.size ∧ DJ x u) := by
 have hb := grown_refl w (pgRow p n vb)
 refine enter (N := 13) Try.func25 rfl rfl (by simp) fun a0 hN hd hA => ?_
 have s0 : a0.tmps.getD 0 undef = (ptr p 0) := hA 0 (by simp)
 clear hA
 refine seq_any fun K1 hK1 => ?_
 refine one_reg ?_
 refine op_assign rfl ?_
 refine reg_nil ?_
 refine hK1 _ _ ?_
 refine seq_any fun K2 hK2 => ?_
 refine seq_any fun K3 hK3 => ?_
 refine one_reg ?_
 refine op_move (ev_base hN rfl s0) ?_
 refine op_peq_some ptrt24 (ev_hit hN rfl) rfl ?_
 refine reg_nil ?_
 refine hK3 _ _ ?_
 refine wp_cond_false (ev_hit hN rfl) ?_
 refine wp_skip ?_
 refine hK2 _ _ ?_
 refine seq_any fun K4 hK4 => ?_
 refine one_reg ?_
 refine op_move (ev_base hN rfl s0) ?_
 refine op_fn (vs := [(ptr p 0)]) ok36 ⟨(ev_hit hN rfl), trivial⟩ (ready_ret L bs n _ _ _ _ hbase hx O hP) ?_
 rintro _ w6 ⟨E7, rfl, u5, bs5, hx5, hO5, R5, ro5⟩
 have z_w6 := E7.size
 have hb := grown_trans hb E7
 refine reg_nil ?_
 refine hK4 _ _ ?_
 refine seq_any fun K8 hK8 => ?_
 refine one_reg ?_
 have hplt := hx5.lt
 refine op_bslice (e := 5) (pv := []) (cs := []) trivial (by kernel_rfl) ?_
 intro w9 b10 lo_b10 hi_b10 hB12 E11
 have ne_b10_u5 : u5.ownBlock ≠ some b10 := fun hh => by have := (hO5.lt _ hh).2; omega
 have z_w9 := E11.size
 have hx5 := hx5.keep0 E11
 have hO5 := hO5.keep0 E11
 have hb := grow_step0 hb E11
 refine op_move (ev_base hN rfl s0) ?_
 refine op_nil (ev_hit hN rfl) ?_
 refine op_field fld50_0 (ev_hit hN rfl) ?_
 refine op_load1 (v := u5) one22 (ev_hit hN rfl) (hx5.cell rfl) ?_
 have hP18 := (Own.ofBx (base := w.heap.size) (sz := 1) (n := 0) hB12 rfl (by decide) (by omega))
 refine op_append slt22 (ev_hit hN rfl) hP18 (ev_hit hN rfl) (Src.ofRd Try.underlying22 (by decide) hO5.rdw (by simp [Value.oneCell', u8v])) (by unfold maxLen; omega) (by omega) hb.size ?_
 intro v13 w14 hO16 E15 hm17
 have dj19 : DJ u5 (Value.slice (some ⟨b10, 0, none⟩) 0 0) := fun k hk hg => by simp [Value.ownBlock] at hg; subst hg; exact ne_b10_u5 hk
 have dj20 : DJ u5 v13 := DJ.step hm17 (fun k hk => (hO5.lt k hk).2) dj19
 have z_w14 := E15.size
 have hx5 := hx5.keep E15 (by simp [Value.ownBlock]; try omega)
 have hO5 := hO5.keepD E15 dj19
 have hb := grow_stepO hb hP18 E15 (by omega)
 have hO16 : Own w14 w.heap.size 5 1 v13 (0 + 256) ((bs5).map u8v) := by simpa [u8v] using hO16
 refine op_assign (ev_hit hN rfl) ?_
 refine reg_nil ?_
 refine hK8 _ _ ?_
 refine wp_ret ?_
 refine ret1 rfl hd (ev_hit hN rfl) ⟨_, rfl, ?_⟩
 -- path
 exact ⟨hb, _, _, rfl, hO16.cast (by omega) rfl, R5, ⟨_, _, _, hx5, hO5, R5.pg, ro5, dj20.symm⟩⟩

end Go.Proofs.Ytdhpalioifjfbaa

/- Walks, written by a program: what each function of the translation hands back. -/
namespace Go.Proofs.Ytdhpalioifjfbaa
open Go.Gx Go.RowKit
attribute [local irreducible] wpList wpStill Code.wp Calls

theorem put_nil (x : Value) (w : World) : Ret Try.prog 11 #[(Value.pointer none), x] w (fun v' w' => Below w.heap.size w w' ∧ v' = .tuple #[.int .i64 0, .int .i64 1]) := by
 have hb := Below.refl w.heap.size w
 refine enter (N := 45) Try.func11 rfl rfl (by simp) fun a0 hN hd hA => ?_
 have s0 : a0.tmps.getD 0 undef = (Value.pointer none) := hA 0 (by simp)
 have s1 : a0.tmps.getD 1 undef = x := hA 1 (by simp)
 clear hA
 refine seq_any fun K1 hK1 => ?_
 refine one_reg ?_
 refine op_assign rfl ?_
 refine op_assign rfl ?_
 refine reg_nil ?_
 refine hK1 _ _ ?_
 refine seq_any fun K2 hK2 => ?_
 refine seq_any fun K3 hK3 => ?_
 refine one_reg ?_
 refine op_move (ev_base hN rfl s0) ?_
 refine op_peq_none ptrt24 (ev_hit hN rfl) rfl ?_
 refine reg_nil ?_
 refine hK3 _ _ ?_
 refine wp_cond_true (ev_hit hN rfl) ?_
 refine seq_any fun K4 hK4 => ?_
 refine one_reg ?_
 refine op_assign rfl ?_
 refine op_assign rfl ?_
 refine reg_nil ?_
 refine hK4 _ _ ?_
 refine wp_ret (then_ret ( ?_))
 refine ret2 rfl hd (ev_hit hN rfl) (ev_hit hN rfl) ⟨_, rfl, ?_⟩
 -- path
 exact ⟨hb, rfl⟩

theorem get_nil (k : Int) (w : World) : Ret Try.prog 15 #[(Value.pointer none), (Value.int .i64 k)] w (fun v' w' => Below w.heap.size w w' ∧ v' = .tuple #[.slice none 0 0, .int .i64 1]) := by
 have hb := Below.refl w.heap.size w
 refine enter (N := 31) Try.func15 rfl rfl (by simp) fun a0 hN hd hA => ?_
 have s0 : a0.tmps.getD 0 undef = (Value.pointer none) := hA 0 (by simp)
 have s1 : a0.tmps.getD 1 undef = (Value.int .i64 k) := hA 1 (by simp)
 clear hA
 refine seq_any fun K5 hK5 => ?_
 refine one_reg ?_
 refine op_assign rfl ?_
 refine op_assign rfl ?_
 refine reg_nil ?_
 refine hK5 _ _ ?_
 refine seq_any fun K6 hK6 => ?_
 refine seq_any fun K7 hK7 => ?_
 refine one_reg ?_
 refine op_move (ev_base hN rfl s0) ?_
 refine op_peq_none ptrt24 (ev_hit hN rfl) rfl ?_
 refine reg_nil ?_
 refine hK7 _ _ ?_
 refine wp_cond_true (ev_hit hN rfl) ?_
 refine seq_any fun K8 hK8 => ?_
 refine one_reg ?_
 refine op_assign rfl ?_
 refine op_assign rfl ?_
 refine reg_nil ?_
 refine hK8 _ _ ?_
 refine wp_ret (then_ret ( ?_))
 refine ret2 rfl hd (ev_hit hN rfl) (ev_hit hN rfl) ⟨_, rfl, ?_⟩
 -- path
 exact ⟨hb, rfl⟩

theorem set_nil (k : Int) (x : Value) (w : World) : Ret Try.prog 20 #[(Value.pointer none), (Value.int .i64 k), x] w (fun v' w' => Below w.heap.size w w' ∧ v' = .int .i64 1) := by
 have hb := Below.refl w.heap.size w
 refine enter (N := 44) Try.func20 rfl rfl (by simp) fun a0 hN hd hA => ?_
 have s0 : a0.tmps.getD 0 undef = (Value.pointer none) := hA 0 (by simp)
 have s1 : a0.tmps.getD 1 undef = (Value.int .i64 k) := hA 1 (by simp)
 have s2 : a0.tmps.getD 2 undef = x := hA 2 (by simp)
 clear hA
 refine seq_any fun K9 hK9 => ?_
 refine one_reg ?_
 refine op_assign rfl ?_
 refine reg_nil ?_
 refine hK9 _ _ ?_
 refine seq_any fun K10 hK10 => ?_
 refine seq_any fun K11 hK11 => ?_
 refine one_reg ?_
 refine op_move (ev_base hN rfl s0) ?_
 refine op_peq_none ptrt24 (ev_hit hN rfl) rfl ?_
 refine reg_nil ?_
 refine hK11 _ _ ?_
 refine wp_cond_true (ev_hit hN rfl) ?_
 refine seq_any fun K12 hK12 => ?_
 refine one_reg ?_
 refine op_assign rfl ?_
 refine reg_nil ?_
 refine hK12 _ _ ?_
 refine wp_ret (then_ret ( ?_))
 refine ret1 rfl hd (ev_hit hN rfl) ⟨_, rfl, ?_⟩
 -- path
 exact ⟨hb, rfl⟩

theorem drop_nil (k : Int) (w : World) : Ret Try.prog 13 #[(Value.pointer none), (Value.int .i64 k)] w (fun v' w' => Below w.heap.size w w' ∧ v' = .int .i64 1) := by
 have hb := Below.refl w.heap.size w
 refine enter (N := 33) Try.func13 rfl rfl (by simp) fun a0 hN hd hA => ?_
 have s0 : a0.tmps.getD 0 undef = (Value.pointer none) := hA 0 (by simp)
 have s1 : a0.tmps.getD 1 undef = (Value.int .i64 k) := hA 1 (by simp)
 clear hA
 refine seq_any fun K13 hK13 => ?_
 refine one_reg ?_
 refine op_assign rfl ?_
 refine reg_nil ?_
 refine hK13 _ _ ?_
 refine seq_any fun K14 hK14 => ?_
 refine seq_any fun K15 hK15 => ?_
 refine one_reg ?_
 refine op_move (ev_base hN rfl s0) ?_
 refine op_peq_none ptrt24 (ev_hit hN rfl) rfl ?_
 refine reg_nil ?_
 refine hK15 _ _ ?_
 refine wp_cond_true (ev_hit hN rfl) ?_
 refine seq_any fun K16 hK16 => ?_
 refine one_reg ?_
 refine op_assign rfl ?_
 refine reg_nil ?_
 refine hK16 _ _ ?_
 refine wp_ret (then_ret ( ?_))
 refine ret1 rfl hd (ev_hit hN rfl) ⟨_, rfl, ?_⟩
 -- path
 exact ⟨hb, rfl⟩

theorem slots_nil (w : World) : Ret Try.prog 12 #[(Value.pointer none)] w (fun v' w' => Below w.heap.size w w' ∧ v' = .slice none 0 0) := by
 have hb := Below.refl w.heap.size w
 refine enter (N := 24) Try.func12 rfl rfl (by simp) fun a0 hN hd hA => ?_
 have s0 : a0.tmps.getD 0 undef = (Value.pointer none) := hA 0 (by simp)
 clear hA
 refine seq_any fun K17 hK17 => ?_
 refine one_reg ?_
 refine op_assign rfl ?_
 refine reg_nil ?_
 refine hK17 _ _ ?_
 refine seq_any fun K18 hK18 => ?_
 refine seq_any fun K19 hK19 => ?_
 refine one_reg ?_
 refine op_move (ev_base hN rfl s0) ?_
 refine op_peq_none ptrt24 (ev_hit hN rfl) rfl ?_
 refine reg_nil ?_
 refine hK19 _ _ ?_
 refine wp_cond_true (ev_hit hN rfl) ?_
 refine seq_any fun K20 hK20 => ?_
 refine one_reg ?_
 refine op_assign rfl ?_
 refine reg_nil ?_
 refine hK20 _ _ ?_
 refine wp_ret (then_ret ( ?_))
 refine ret1 rfl hd (ev_hit hN rfl) ⟨_, rfl, ?_⟩
 -- path
 exact ⟨hb, rfl⟩

theorem free_nil (w : World) : Ret Try.prog 14 #[(Value.pointer none)] w (fun v' w' => Below w.heap.size w w' ∧ v' = .int .i64 0) := by
 have hb := Below.refl w.heap.size w
 refine enter (N := 11) Try.func14 rfl rfl (by simp) fun a0 hN hd hA => ?_
 have s0 : a0.tmps.getD 0 undef = (Value.pointer none) := hA 0 (by simp)
 clear hA
 refine seq_any fun K21 hK21 => ?_
 refine one_reg ?_
 refine op_assign rfl ?_
 refine reg_nil ?_
 refine hK21 _ _ ?_
 refine seq_any fun K22 hK22 => ?_
 refine seq_any fun K23 hK23 => ?_
 refine one_reg ?_
 refine op_move (ev_base hN rfl s0) ?_
 refine op_peq_none ptrt24 (ev_hit hN rfl) rfl ?_
 refine reg_nil ?_
 refine hK23 _ _ ?_
 refine wp_cond_true (ev_hit hN rfl) ?_
 refine seq_any fun K24 hK24 => ?_
 refine one_reg ?_
 refine op_assign rfl ?_
 refine reg_nil ?_
 refine hK24 _ _ ?_
 refine wp_ret (then_ret ( ?_))
 refine ret1 rfl hd (ev_hit hN rfl) ⟨_, rfl, ?_⟩
 -- path
 exact ⟨hb, rfl⟩

theorem bytes_nil (w : World) : Ret Try.prog 25 #[(Value.pointer none)] w (fun v' w' => Below w.heap.size w w' ∧ v' = .slice none 0 0) := by
 have hb := Below.refl w.heap.size w
 refine enter (N := 13) Try.func25 rfl rfl (by simp) fun a0 hN hd hA => ?_
 have s0 : a0.tmps.getD 0 undef = (Value.pointer none) := hA 0 (by simp)
 clear hA
 refine seq_any fun K25 hK25 => ?_
 refine one_reg ?_
 refine op_assign rfl ?_
 refine reg_nil ?_
 refine hK25 _ _ ?_
 refine seq_any fun K26 hK26 => ?_
 refine seq_any fun K27 hK27 => ?_
 refine one_reg ?_
 refine op_move (ev_base hN rfl s0) ?_
 refine op_peq_none ptrt24 (ev_hit hN rfl) rfl ?_
 refine reg_nil ?_
 refine hK27 _ _ ?_
 refine wp_cond_true (ev_hit hN rfl) ?_
 refine seq_any fun K28 hK28 => ?_
 refine one_reg ?_
 refine op_assign rfl ?_
 refine reg_nil ?_
 refine hK28 _ _ ?_
 refine wp_ret (then_ret ( ?_))
 refine ret1 rfl hd (ev_hit hN rfl) ⟨_, rfl, ?_⟩
 -- path
 exact ⟨hb, rfl⟩

end Go.Proofs.Ytdhpalioifjfbaa

/- Walks, written by a program: what each function of the translation hands back. -/
namespace Go.Proofs.Ytdhpalioifjfbaa
open Go.Gx Go.RowKit
attribute [local irreducible] wpList wpStill Code.wp Calls

theorem begun13_ret (w : World) : Ret Try.prog 9 #[] w (fun v' w' => Below w.heap.size w w' ∧ v' = .bool true) := by
 have hb := Below.refl w.heap.size w
 refine enter (N := 44) Try.func9 rfl rfl (by simp) fun a0 hN hd hA => ?_
 clear hA
 refine seq_any fun K1 hK1 => ?_
 refine one_reg ?_
 refine op_assign rfl ?_
 refine reg_nil ?_
 refine hK1 _ _ ?_
 refine seq_any fun K2 hK2 => ?_
 refine one_reg ?_
 refine op_fn (vs := []) ok10 trivial (new_ret _) ?_
 rintro _ w4 ⟨E5, p3, rfl, lo_p3, hx3⟩
 have E5 := grown_of_below E5
 have z_w4 := E5.size
 have hb := below_step0 hb E5 hb.size
 have hi_p3 := hx3.lt
 refine op_assign (ev_hit hN rfl) ?_
 refine reg_nil ?_
 refine hK2 _ _ ?_
 refine seq_any fun K6 hK6 => ?_
 refine one_reg ?_
 refine op_move (ev_hit hN rfl) ?_
 refine op_bslice (e := 5) (pv := [(0, (Value.int .u8 1)), (1, (Value.int .u8 2)), (2, (Value.int .u8 3))]) (cs := [(Value.int .u8 1), (Value.int .u8 2), (Value.int .u8 3)]) ⟨rfl, rfl, ⟨rfl, rfl, ⟨rfl, rfl, trivial⟩⟩⟩ (by kernel_rfl) ?_
 intro w7 b8 lo_b8 hi_b8 hB10 E9
 have z_w7 := E9.size
 have hx3 := hx3.keep0 E9
 have hb := below_step0 hb E9 hb.size
 have hrx11 : RdC w7 b8 (b8 + 1) 1 (Value.slice (some ⟨b8, 0, none⟩) 3 3) ([1, 2, 3] : By).length (([1, 2, 3] : By).map u8v) := (RdC.ofBx (sz := 1) (n := 3) hB10 rfl (by decide))
 refine op_fn (vs := [(ptr p3 0), (Value.slice (some ⟨b8, 0, none⟩) 3 3)]) ok11 ⟨(ev_hit hN rfl), ⟨(ev_hit hN rfl), trivial⟩⟩ (put_ret [] [] 0 _ _ _ _ (by omega) hx3 (Own.nil w7 w.heap.size 5 1) Pg.zero ([1, 2, 3] : By) _ _ _ hrx11 (lit_apart (hB10.ne hx3 (by decide)) (ne_nil b8)) hB10.lt) ?_
 rintro _ w13 ⟨E14, rfl, u12, n12, bs12, hx12, hO12, hP12, ro12⟩
 have ne_b8_u12 : u12.ownBlock ≠ some b8 := ro12.ne (ne_nil b8) (hB10.ne hx3 (by decide)) hB10.lt
 have hB10 := hB10.keepPn hx3 E14 (by decide) (ne_nil b8)
 have z_w13 := E14.size
 have hb := below_stepR hb E14 hb.size (by omega) (Own.nil w7 w.heap.size 5 1) (by omega)
 have hfi_12 := hP12.fits
 refine op_move (ev_hit hN rfl) ?_
 refine op_extract (ev_hit hN rfl) rfl ?_
 refine op_extract (ev_hit hN rfl) rfl ?_
 refine op_assign (ev_hit hN rfl) ?_
 refine op_assign (ev_hit hN rfl) ?_
 refine reg_nil ?_
 refine hK6 _ _ ?_
 refine seq_any fun K15 hK15 => ?_
 refine one_reg ?_
 refine op_move (ev_hit hN rfl) ?_
 refine op_fn (vs := [(ptr p3 0), (Value.int .i64 0)]) ok15 ⟨(ev_hit hN rfl), ⟨rfl, trivial⟩⟩ (get_ret (putN [] [1, 2, 3]) bs12 n12 _ _ _ _ (by omega) hx12 hO12 hP12 0 (by omega)) ?_
 rintro _ w18 ⟨E19, v16, rfl, hO16, u17, n17, bs17, hx17, hO17, hP17, ro17, dx17⟩
 have dj20 : DJ v16 u12 := fun k hk hg => by have q1 := (hO16.lt k hk).1; have q2 := (hO12.lt k hg).2; omega
 have ne_b8_u17 : u17.ownBlock ≠ some b8 := ro17.ne ne_b8_u12 (hB10.ne hx12 (by decide)) hB10.lt
 have hB10 := hB10.keepPn hx12 E19 (by decide) ne_b8_u12
 have z_w18 := E19.size
 have hb := below_stepR hb E19 hb.size (by omega) hO12 (by omega)
 have hO16 := hO16.mono (base' := w.heap.size) (by omega)
 have hfi_17 := hP17.fits
 refine op_move (ev_hit hN rfl) ?_
 refine op_extract (ev_hit hN rfl) rfl ?_
 refine op_extract (ev_hit hN rfl) rfl ?_
 refine op_assign (ev_hit hN rfl) ?_
 refine op_assign (ev_hit hN rfl) ?_
 refine reg_nil ?_
 refine hK15 _ _ ?_
 refine seq_any fun K21 hK21 => ?_
 refine one_reg ?_
 refine op_move (ev_hit hN rfl) ?_
 refine op_eql (ev_hit hN rfl) rfl (fun c19 => ?_) (fun c19 => ?_)
 · -- 19T
  refine op_move (ev_hit hN rfl) ?_
  refine g_true (j := 2) (dj := 20) (b := true) rfl rfl rfl (ev_hit hN rfl) ?_
  refine op_move (ev_hit hN rfl) ?_
  refine g_true (j := 2) (dj := 20) (b := true) rfl rfl rfl (ev_hit hN rfl) ?_
  refine op_eql (ev_hit hN rfl) rfl (fun c22 => ?_) (fun c22 => ?_)
  · -- 22T
   refine op_pick_t (ev_hit hN rfl) (ev_hit hN rfl) ?_
   refine op_move (ev_hit hN rfl) ?_
   refine g_true (j := 6) (dj := 24) (b := true) rfl rfl rfl (ev_hit hN rfl) ?_
   refine op_move (ev_hit hN rfl) ?_
   refine g_true (j := 6) (dj := 24) (b := true) rfl rfl rfl (ev_hit hN rfl) ?_
   refine op_eql (ev_hit hN rfl) rfl (fun c26 => ?_) (fun c26 => ?_)
   · -- 26T
    refine op_pick_t (ev_hit hN rfl) (ev_hit hN rfl) ?_
    refine op_move (ev_hit hN rfl) ?_
    refine g_true (j := 10) (dj := 28) (b := true) rfl rfl rfl (ev_hit hN rfl) ?_
    refine op_move (ev_hit hN rfl) ?_
    refine g_true (j := 10) (dj := 28) (b := true) rfl rfl rfl (ev_hit hN rfl) ?_
    refine op_len_rd Try.underlying22 (ev_hit hN rfl) hO16.rdw ?_
    refine g_true (j := 10) (dj := 28) (b := true) rfl rfl rfl (ev_hit hN rfl) ?_
    refine op_eql (ev_hit hN rfl) rfl (fun c31 => ?_) (fun c31 => ?_)
    · -- 31T
     refine op_pick_t (ev_hit hN rfl) (ev_hit hN rfl) ?_
     refine op_move (ev_hit hN rfl) ?_
     refine g_true (j := 15) (dj := 33) (b := true) rfl rfl rfl (ev_hit hN rfl) ?_
     refine op_move (ev_hit hN rfl) ?_
     refine g_true (j := 15) (dj := 33) (b := true) rfl rfl rfl (ev_hit hN rfl) ?_
     refine op_fn (vs := [(ptr p3 0)]) ok14 ⟨(ev_hit hN rfl), trivial⟩ (free_ret (putN [] [1, 2, 3]) bs17 n17 _ _ _ _ (by omega) hx17 hO17 hP17 ) ?_
     rintro _ w23 ⟨E24, rfl, u22, n22, bs22, hx22, hO22, hP22, ro22⟩
     have ne_b8_u22 : u22.ownBlock ≠ some b8 := ro22.ne ne_b8_u17 (hB10.ne hx17 (by decide)) hB10.lt
     have dj25 : DJ v16 u22 := DJ.stepP ro22 dx17 (hO16.neB hx17 (by decide)) (fun k hk => (hO16.lt k hk).2)
     have hB10 := hB10.keepPn hx17 E24 (by decide) ne_b8_u17
     have hO16 := hO16.keepP hx17 hO17 E24 (by decide) (.inr dx17)
     have z_w23 := E24.size
     have hb := below_stepR hb E24 hb.size (by omega) hO17 (by omega)
     have hfi_22 := hP22.fits
     refine g_true (j := 15) (dj := 33) (b := true) rfl rfl rfl (ev_hit hN rfl) ?_
     refine op_eql (ev_hit hN rfl) rfl (fun c36 => ?_) (fun c36 => ?_)
     · -- 36T
      refine op_pick_t (ev_hit hN rfl) (ev_hit hN rfl) ?_
      refine op_move (ev_hit hN rfl) ?_
      refine g_true (j := 20) (dj := 38) (b := true) rfl rfl rfl (ev_hit hN rfl) ?_
      refine op_move (ev_hit hN rfl) ?_
      refine g_true (j := 20) (dj := 38) (b := true) rfl rfl rfl (ev_hit hN rfl) ?_
      refine op_fn (vs := [(ptr p3 0)]) ok25 ⟨(ev_hit hN rfl), trivial⟩ (bytes_ret (putN [] [1, 2, 3]) bs22 n22 _ _ _ _ (by omega) hx22 hO22 hP22 ) ?_
      rintro v26 w28 ⟨E29, _, bx26, rfl, hO26, _, u27, n27, bs27, hx27, hO27, hP27, ro27, dx27⟩
      have dj30 : DJ v26 v16 := fun k hk hg => by have q1 := (hO26.lt k hk).1; have q2 := (hO16.lt k hg).2; omega
      have dj31 : DJ v26 u22 := fun k hk hg => by have q1 := (hO26.lt k hk).1; have q2 := (hO22.lt k hg).2; omega
      have ne_b8_u27 : u27.ownBlock ≠ some b8 := ro27.ne ne_b8_u22 (hB10.ne hx22 (by decide)) hB10.lt
      have dj32 : DJ v16 u27 := DJ.stepP ro27 dj25 (hO16.neB hx22 (by decide)) (fun k hk => (hO16.lt k hk).2)
      have hB10 := hB10.keepPn hx22 E29 (by decide) ne_b8_u22
      have hO16 := hO16.keepP hx22 hO22 E29 (by decide) (.inr dj25)
      have z_w28 := E29.size
      have hb := below_stepR hb E29 hb.size (by omega) hO22 (by omega)
      have hO26 := hO26.mono (base' := w.heap.size) (by omega)
      have hfi_27 := hP27.fits
      refine g_true (j := 20) (dj := 38) (b := true) rfl rfl rfl (ev_hit hN rfl) ?_
      refine op_len_rd Try.underlying22 (ev_hit hN rfl) hO26.rdw ?_
      refine g_true (j := 20) (dj := 38) (b := true) rfl rfl rfl (ev_hit hN rfl) ?_
      refine op_bin (v := .bool true) (ev_hit hN rfl) rfl (by rw [binOp_eql]; rfl) ?_
      refine op_pick_t (ev_hit hN rfl) (ev_hit hN rfl) ?_
      refine op_assign (ev_hit hN rfl) ?_
      refine reg_nil ?_
      refine hK21 _ _ ?_
      refine wp_ret ?_
      refine ret1 rfl hd (ev_hit hN rfl) ⟨_, rfl, ?_⟩
      -- path 19T 22T 26T 31T 36T
      exact ⟨hb, rfl⟩
     · -- 36F
      exact absurd c36 (by decide +kernel)
    · -- 31F
     exact absurd c31 (by decide +kernel)
   · -- 26F
    exact absurd c26 (by decide +kernel)
  · -- 22F
   exact absurd c22 (by decide +kernel)
 · -- 19F
  exact absurd c19 (by decide +kernel)

end Go.Proofs.Ytdhpalioifjfbaa

/- Pages, plainly: what the laws need. -/
namespace Go.Proofs.Ytdhpalioifjfbaa
open Go.Gx Go.RowKit
theorem tmod_nat {a b : Nat} : ((a : Nat) : Int).tmod ((b : Nat) : Int) = ((a % b : Nat) : Int) := rfl
/-- no empty slot at the end -/
def Trim (L : List By) : Prop := ∀ m, L.length = m + 1 → L.getD m [] ≠ []
theorem Trim.nil : Trim [] := fun m h => by simp at h
theorem Trim.cut (L : List By) : Trim (cutL L) := by
  intro m hm
  have key : ∀ l : List By, ∀ m, (l.dropWhile (· == [])).length = m + 1 → (l.dropWhile (· == [])).getD 0 [] ≠ [] := by
    intro l
    induction l with
    | nil => intro m h; simp at h
    | cons a t ih =>
      intro m h
      rw [List.dropWhile_cons] at h ⊢
      split
      · rename_i ha; rw [if_pos ha] at h; exact ih m h
      · rename_i ha; simpa using ha
  unfold cutL at hm ⊢
  rw [List.length_reverse] at hm
  have := key L.reverse m hm
  simp only [List.getD_eq_getElem?_getD] at this ⊢
  rw [List.getElem?_reverse (by omega), hm]
  simpa using this
theorem Trim.drop {L : List By} (h : Trim L) (k : Int) : Trim (dropN L k) := by
  unfold dropN; split
  · exact h
  · exact Trim.cut _
theorem Trim.put {L : List By} (h : Trim L) (r : By) : Trim (putN L r) := by
  unfold putN
  split
  · exact h
  · rename_i hb
    split
    · exact h
    · intro m hm
      have hf := freeL_le L
      have hr : r ≠ [] := by
        intro hh; subst hh; exact hb (by decide)
      have hl := layL_len (r := r) hf
      by_cases hk : m = freeL L
      · rw [hk, layL_get hf]; exact hr
      · rw [layL_other hf hk]; exact h m (by omega)
theorem slotsN_mem {L : List By} {m s : Nat} : s ∈ slotsN L m ↔ s < m ∧ (L.getD s []).length ≠ 0 := by
  unfold slotsN; rw [List.mem_filter, List.mem_range, bne_iff_ne]
theorem slots_get {L : List By} {m i : Nat} (hm : m ≤ L.length) (hi : i < (slotsI L m).length) : sizeL L ((slotsI L m).getD i 0) ≠ 0 ∧ 0 ≤ (slotsI L m).getD i 0 ∧ (slotsI L m).getD i 0 < (L.length : Int) := by
  have h1 : (slotsI L m).getD i 0 ∈ slotsI L m := by
    rw [List.getD_eq_getElem?_getD, List.getElem?_eq_getElem hi]; exact List.getElem_mem _
  obtain ⟨s, hs, he⟩ := List.mem_map.1 h1
  rw [← he]
  obtain ⟨q1, q2⟩ := slotsN_mem.1 hs
  rw [sizeL_in (by omega)]
  exact ⟨q2, by omega, by omega⟩
theorem drop_slot {L : List By} {i : Nat} (hi : i < (slotsI L L.length).length) : dropE L ((slotsI L L.length).getD i 0) = 0 := (drop_ok (slots_get (Nat.le_refl _) hi).1).1
/-- is a slot of the list not at its own place? -/
def holeN (S : List Int) : Nat → Bool
  | 0 => false
  | i + 1 => holeN S i || decide (S.getD i 0 ≠ (i : Int))
theorem slotsN_full {L : List By} : ∀ {m : Nat}, m ≤ freeL L → slotsN L m = List.range m
  | 0, _ => rfl
  | m + 1, h => by
    have hne : (L.getD m []).length ≠ 0 := by
      intro hh
      have := freeL_stop (L := L) (j := m) (by omega) (.inr (List.eq_nil_of_length_eq_zero hh)); omega
    rw [slotsN_go hne, slotsN_full (by omega), List.range_succ]
theorem slotsN_grow {L : List By} {m : Nat} : (slotsN L m).length ≤ (slotsN L (m + 1)).length := by
  by_cases h : (L.getD m []).length = 0
  · rw [slotsN_skip h]; exact Nat.le_refl _
  · rw [slotsN_go h]; simp
theorem slotsN_mono {L : List By} {m : Nat} : ∀ {k : Nat}, (slotsN L m).length ≤ (slotsN L (m + k)).length
  | 0 => Nat.le_refl _
  | k + 1 => Nat.le_trans (slotsN_mono (k := k)) slotsN_grow
theorem holeN_false {S : List Int} {i : Nat} (h : ∀ j, j < i → S.getD j 0 = (j : Int)) : holeN S i = false := by
  induction i with
  | zero => rfl
  | succ i ih => unfold holeN; rw [ih fun j hj => h j (by omega), h i (by omega)]; simp
theorem holeN_true {S : List Int} {i j : Nat} (hj : j < i) (h : S.getD j 0 ≠ (j : Int)) : holeN S i = true := by
  induction i with
  | zero => omega
  | succ i ih =>
    unfold holeN
    by_cases hji : j = i
    · subst hji; rw [decide_eq_true h, Bool.or_true]
    · rw [ih (by omega)]; rfl
theorem hole_free {L : List By} (hT : Trim L) : (holeN (slotsI L L.length) (slotsI L L.length).length = true ↔ freeL L < L.length) := by
  have hle := freeL_le L
  constructor
  · intro h
    refine Classical.byContradiction fun hn => ?_
    have he : L.length = freeL L := by omega
    rw [he] at h
    have : slotsI L (freeL L) = (List.range (freeL L)).map (fun s => ((s : Nat) : Int)) := by unfold slotsI; rw [slotsN_full (Nat.le_refl _)]
    rw [this, holeN_false] at h
    · cases h
    · intro j hj
      simp at hj
      simp [hj]
  · intro h
    obtain ⟨m, hm⟩ : ∃ m, L.length = m + 1 := ⟨L.length - 1, by omega⟩
    have hlast := hT m hm
    have hfm : freeL L ≠ m := fun hh => hlast (hh ▸ freeL_get)
    have h1 : freeL L < (slotsI L L.length).length := by
      have e1 : (slotsN L (freeL L)).length = freeL L := by rw [slotsN_full (Nat.le_refl _)]; simp
      have e2 := slotsN_mono (L := L) (m := freeL L) (k := m - freeL L)
      rw [show freeL L + (m - freeL L) = m by omega] at e2
      have e3 : (slotsN L (m + 1)).length = (slotsN L m).length + 1 := by rw [slotsN_go (fun hh => hlast (List.eq_nil_of_length_eq_zero hh))]; simp
      unfold slotsI; rw [List.length_map, hm]; omega
    refine holeN_true h1 fun hh => ?_
    have := (slots_get (Nat.le_refl _) h1).1
    rw [hh, sizeL_in h, freeL_get] at this
    exact this rfl
theorem left_hole {L : List By} (hT : Trim L) (h : holeN (slotsI L L.length) (slotsI L L.length).length = true) : leftL L (max L.length (freeL L + 1)) = leftL L L.length := by
  have := (hole_free hT).1 h; rw [show max L.length (freeL L + 1) = L.length by omega]
theorem left_dense {L : List By} (hT : Trim L) (h : holeN (slotsI L L.length) (slotsI L L.length).length = false) : leftL L (max L.length (freeL L + 1)) = leftL L L.length - 4 := by
  have h2 : ¬ freeL L < L.length := fun hh => by rw [(hole_free hT).2 hh] at h; cases h
  have := freeL_le L
  rw [show max L.length (freeL L + 1) = L.length + 1 by omega]; unfold leftL; omega
theorem push_full {L : List By} {N : Nat} {r : By} (hN : leftL L (max L.length (freeL L + 1)) = (N : Int)) (h : N < 200) (hr : r.length = N + 1) : putE L r = 25 ∧ putN L r = L := by
  have := put_full (L := L) (badB_f (r := r) (by omega)) (by omega); exact ⟨this.1, this.2.2⟩
theorem push_ok {L : List By} {N : Nat} {r : By} (hN : leftL L (max L.length (freeL L + 1)) = (N : Int)) (h : 1 ≤ N) (hr : r.length = min N 200) :
    putE L r = 0 ∧ putK L r = (freeL L : Int) ∧ dropE (putN L r) (freeL L : Int) = 0 ∧ getL (putN L r) (freeL L : Int) = r ∧ leftL (putN L r) (putN L r).length = (N : Int) - (r.length : Int) := by
  obtain ⟨e1, e2, e3⟩ := put_ok (L := L) (badB_f (r := r) (by omega)) (by omega)
  have hf := freeL_le L
  have hl := layL_len (r := r) hf
  have hs := layL_sum (r := r) hf freeL_get
  have hz : sizeL (layL L (freeL L) r) (freeL L : Int) ≠ 0 := by rw [sizeL_in (by omega), layL_get hf]; omega
  rw [e3]
  refine ⟨e1, e2, (drop_ok hz).1, by rw [getL_in hz]; exact layL_get hf, ?_⟩
  rw [hl]; unfold leftL at hN ⊢; omega
theorem freeL_ne {L : List By} (h : freeL L = L.length) {j : Nat} (hj : j < L.length) : L.getD j [] ≠ [] := fun hh => by
  have := freeL_stop (L := L) (j := j) (by omega) (.inr hh); omega
theorem freeL_up {L : List By} (h : ∀ j, j < L.length → L.getD j [] ≠ []) : ∀ {m : Nat}, m ≤ L.length → m ≤ freeL L
  | 0, _ => Nat.zero_le _
  | m + 1, hm => freeL_go (freeL_up h (by omega)) (by omega) (h m (by omega))
theorem freeL_all {L : List By} (h : ∀ j, j < L.length → L.getD j [] ≠ []) : freeL L = L.length := Nat.le_antisymm (freeL_le L) (freeL_up h (Nat.le_refl _))
theorem fill_full {L : List By} {r : By} {k : Nat} (hf : freeL L = L.length) (hr : r.length = k) (hk : 1 ≤ k ∧ k ≤ 200) (h : leftL L L.length < (k : Int) + 4) : putE L r = 25 ∧ putN L r = L := by
  have := put_full (L := L) (badB_f (r := r) (by omega)) (by rw [hf, show max L.length (L.length + 1) = L.length + 1 by omega]; unfold leftL at h ⊢; omega)
  exact ⟨this.1, this.2.2⟩
theorem fill_ok {L : List By} {r : By} {k : Nat} (hf : freeL L = L.length) (hr : r.length = k) (hk : 1 ≤ k ∧ k ≤ 200) (h : ¬ leftL L L.length < (k : Int) + 4) :
    putE L r = 0 ∧ putK L r = (L.length : Int) ∧ (putN L r).length = L.length + 1 ∧ freeL (putN L r) = (putN L r).length ∧ leftL (putN L r) (putN L r).length = leftL L L.length - (k : Int) - 4 := by
  obtain ⟨e1, e2, e3⟩ := put_ok (L := L) (badB_f (r := r) (by omega)) (by rw [hf, show max L.length (L.length + 1) = L.length + 1 by omega]; unfold leftL at h ⊢; omega)
  rw [hf] at e2 e3
  have hl := layL_len (r := r) (Nat.le_refl L.length)
  have hs := layL_sum (r := r) (Nat.le_refl L.length) (hf ▸ freeL_get)
  have hfr : freeL (layL L L.length r) = (layL L L.length r).length := freeL_all fun j hj => by
    by_cases hjl : j = L.length
    · rw [hjl, layL_get (Nat.le_refl _)]; intro hh; rw [hh] at hr; simp at hr; omega
    · rw [layL_other (Nat.le_refl _) hjl]; exact freeL_ne hf (by omega)
  rw [e3]
  exact ⟨e1, e2, by omega, hfr, by unfold leftL; omega⟩
theorem drop_last {L : List By} (hf : freeL L = L.length) (h : 0 < L.length) :
    dropE L ((L.length : Int) - 1) = 0 ∧ (dropN L ((L.length : Int) - 1)).length + 1 = L.length ∧ freeL (dropN L ((L.length : Int) - 1)) = (dropN L ((L.length : Int) - 1)).length := by
  have e : ((L.length : Int) - 1) = ((L.length - 1 : Nat) : Int) := by omega
  rw [e]
  have hz : sizeL L ((L.length - 1 : Nat) : Int) ≠ 0 := by
    rw [sizeL_in (by omega)]; exact fun hh => freeL_ne hf (j := L.length - 1) (by omega) (List.eq_nil_of_length_eq_zero hh)
  obtain ⟨e1, e2⟩ := drop_ok hz
  rw [e1, e2, Int.toNat_natCast]
  have hset : L.set (L.length - 1) [] = L.take (L.length - 1) ++ [[]] := by
    rw [List.set_eq_take_append_cons_drop, if_pos (by omega), show L.length - 1 + 1 = L.length by omega, List.drop_length]
  have hcut : cutL (L.set (L.length - 1) []) = L.take (L.length - 1) := by
    rw [hset, cutL_nil]
    refine cutL_stop (by omega) ?_
    by_cases h0 : L.length - 1 = 0
    · exact .inl h0
    · exact .inr (freeL_ne hf (by omega))
  rw [hcut]
  have hlen : (L.take (L.length - 1)).length = L.length - 1 := by rw [List.length_take]; omega
  refine ⟨rfl, by omega, freeL_all fun j hj => ?_⟩
  have hne := freeL_ne hf (j := j) (by omega)
  have : (L.take (L.length - 1)).getD j [] = L.getD j [] := by
    simp only [List.getD_eq_getElem?_getD, List.getElem?_take]; rw [if_pos (by omega)]
  rw [this]; exact hne
end Go.Proofs.Ytdhpalioifjfbaa

/- Walks, written by a program: what each function of the translation hands back. -/
namespace Go.Proofs.Ytdhpalioifjfbaa
open Go.Gx Go.RowKit
attribute [local irreducible] wpList wpStill Code.wp Calls

set_option maxHeartbeats 2000000 in
theorem PagePushes_ret (sizes drops : By) (vs vd : Value) (w : World) (hls : sizes.length ≤ 9223372036854775807) (hld : drops.length ≤ 9223372036854775807) (hrs : RdC w 0 w.heap.size 1 vs sizes.length (sizes.map u8v)) (hrd : RdC w 0 w.heap.size 1 vd drops.length (drops.map u8v)) : Ret Try.prog 3 #[vs, vd] w (fun v' w' => Below w.heap.size w w' ∧ v' = .bool true) := by
 have hb := Below.refl w.heap.size w
 refine enter (N := 159) Try.func3 rfl rfl (by simp) fun a0 hN hd hA => ?_
 have s0 : a0.tmps.getD 0 undef = vs := hA 0 (by simp)
 have s1 : a0.tmps.getD 1 undef = vd := hA 1 (by simp)
 clear hA
 refine seq_any fun K1 hK1 => ?_
 refine one_reg ?_
 refine op_assign rfl ?_
 refine reg_nil ?_
 refine hK1 _ _ ?_
 refine seq_any fun K2 hK2 => ?_
 refine seq_any fun K3 hK3 => ?_
 refine one_reg ?_
 refine op_fn (vs := []) ok9 trivial (begun13_ret _) ?_
 rintro _ w4 ⟨E5, rfl⟩
 have E5 := grown_of_below E5
 have z_w4 := E5.size
 have hrs := hrs.keep0 E5
 have hrd := hrd.keep0 E5
 have hb := below_step0 hb E5 hb.size
 refine op_not (ev_hit hN rfl) ?_
 refine reg_nil ?_
 refine hK3 _ _ ?_
 refine wp_cond_false (ev_hit hN rfl) ?_
 refine wp_skip ?_
 refine hK2 _ _ ?_
 refine seq_any fun K6 hK6 => ?_
 refine seq_any fun K7 hK7 => ?_
 refine one_reg ?_
 refine op_move (ev_base hN rfl s0) ?_
 refine op_len_rd Try.underlying22 (ev_hit hN rfl) hrs ?_
 refine op_gtr (ev_hit hN rfl) rfl (fun c25 => ?_) (fun c25 => ?_)
 · -- 25T
  refine op_move (ev_hit hN rfl) ?_
  refine g_false (j := 3) (dj := 26) (b := false) rfl rfl rfl (ev_hit hN rfl) rfl rfl ?_
  refine g_false (j := 3) (dj := 26) (b := false) rfl rfl rfl (ev_hit hN rfl) rfl rfl ?_
  refine g_false (j := 3) (dj := 26) (b := false) rfl rfl rfl (ev_hit hN rfl) rfl rfl ?_
  refine op_pick_t (ev_hit hN rfl) rfl ?_
  refine reg_nil ?_
  refine hK7 _ _ ?_
  refine wp_cond_true (ev_hit hN rfl) ?_
  refine seq_any fun K8 hK8 => ?_
  refine one_reg ?_
  refine op_assign rfl ?_
  refine reg_nil ?_
  refine hK8 _ _ ?_
  refine wp_ret (then_ret ( ?_))
  refine ret1 rfl hd (ev_hit hN rfl) ⟨_, rfl, ?_⟩
  -- path 25T
  exact ⟨hb, rfl⟩
 · -- 25F
  refine op_move (ev_hit hN rfl) ?_
  refine g_true (j := 3) (dj := 26) (b := false) rfl rfl rfl (ev_hit hN rfl) ?_
  refine op_move (ev_base hN rfl s1) ?_
  refine g_true (j := 3) (dj := 26) (b := false) rfl rfl rfl (ev_hit hN rfl) ?_
  refine op_len_rd Try.underlying22 (ev_hit hN rfl) hrd ?_
  refine g_true (j := 3) (dj := 26) (b := false) rfl rfl rfl (ev_hit hN rfl) ?_
  refine op_gtr (ev_hit hN rfl) rfl (fun c29 => ?_) (fun c29 => ?_)
  · -- 29T
   refine op_pick_f (ev_hit hN rfl) (ev_hit hN rfl) ?_
   refine reg_nil ?_
   refine hK7 _ _ ?_
   refine wp_cond_true (ev_hit hN rfl) ?_
   refine seq_any fun K9 hK9 => ?_
   refine one_reg ?_
   refine op_assign rfl ?_
   refine reg_nil ?_
   refine hK9 _ _ ?_
   refine wp_ret (then_ret ( ?_))
   refine ret1 rfl hd (ev_hit hN rfl) ⟨_, rfl, ?_⟩
   -- path 25F 29T
   exact ⟨hb, rfl⟩
  · -- 29F
   refine op_pick_f (ev_hit hN rfl) (ev_hit hN rfl) ?_
   refine reg_nil ?_
   refine hK7 _ _ ?_
   refine wp_cond_false (ev_hit hN rfl) ?_
   refine wp_skip ?_
   refine hK6 _ _ ?_
   refine seq_any fun K10 hK10 => ?_
   refine one_reg ?_
   refine op_fn (vs := []) ok10 trivial (new_ret _) ?_
   rintro _ w12 ⟨E13, p11, rfl, lo_p11, hx11⟩
   have E13 := grown_of_below E13
   have z_w12 := E13.size
   have hrs := hrs.keep0 E13
   have hrd := hrd.keep0 E13
   have hb := below_step0 hb E13 hb.size
   have hi_p11 := hx11.lt
   refine op_assign (ev_hit hN rfl) ?_
   refine reg_nil ?_
   refine hK10 _ _ ?_
   refine seq_any fun K14 hK14 => ?_
   refine seq_any fun K15 hK15 => ?_
   refine one_reg ?_
   refine op_assign rfl ?_
   refine reg_nil ?_
   refine hK15 _ _ ?_
   refine wp_block ?_
   refine loop_m (fun mz_ az_ w' => ∃ (i : Nat) (ua : Value) (na : Nat) (bsa : By) (La : List By), mz_ = sizes.length - i ∧ (az_.tmps.getD 0 undef = vs) ∧ (az_.tmps.getD 1 undef = vd) ∧ (az_.tmps.getD 4 undef = (Value.bool false)) ∧ (az_.tmps.getD 5 undef = (ptr p11 0)) ∧ (az_.tmps.getD 6 undef = (Value.int .i64 ((i : Nat) : Int))) ∧ (i ≤ sizes.length) ∧ (Pg na bsa La ua) ∧ (Trim La) ∧ (Below w.heap.size w w') ∧ (w12.heap.size ≤ w'.heap.size) ∧ (RdC w' 0 w.heap.size 1 vs sizes.length (sizes.map u8v)) ∧ (RdC w' 0 w.heap.size 1 vd drops.length (drops.map u8v)) ∧ (Bx w' p11 50 [ua]) ∧ (Own w' w.heap.size 5 1 ua na (bsa.map u8v))) _ hN hd ⟨0, (Value.slice none 0 0), 0, [], [], rfl, (sl_base hN rfl s0), (sl_base hN rfl s1), (sl_hit hN rfl), (sl_hit hN rfl), (sl_hit hN rfl), Nat.zero_le _, Pg.zero, Trim.nil, hb, (Nat.le_refl _), hrs, hrd, hx11, (Own.nil w12 w.heap.size 5 1)⟩ ?_
   rintro _ a16 w16 hN16 hd16 ⟨i, ua, na, bsa, La, rfl, s16_0, s16_1, s16_4, s16_5, s16_6, hi, hPa, hTa, hb, zl_w16, hrs, hrd, hxa, hO17⟩
   have z_w16 := hb.size
   refine seq_any fun K18 hK18 => ?_
   refine seq_any fun K19 hK19 => ?_
   refine one_reg ?_
   refine op_move (ev_base hN16 rfl s16_6) ?_
   refine op_move (ev_base hN16 rfl s16_0) ?_
   refine op_len_rd Try.underlying22 (ev_hit hN16 rfl) hrs ?_
   refine op_lss (ev_hit hN16 rfl) (ev_hit hN16 rfl) (fun c35 => ?_) (fun c35 => ?_)
   · -- 35T
    refine reg_nil ?_
    refine hK19 _ _ ?_
    refine wp_cond_true (ev_hit hN16 rfl) ?_
    refine wp_skip ?_
    refine hK18 _ _ ?_
    refine seq_any fun K20 hK20 => ?_
    refine wp_block ?_
    refine one_reg ?_
    refine op_move (ev_base hN16 rfl s16_5) ?_
    refine op_move (ev_base hN16 rfl s16_0) ?_
    refine op_move (ev_base hN16 rfl s16_6) ?_
    refine op_index_rd slt22 (ev_hit hN16 rfl) hrs (ev_hit hN16 rfl) (by omega) (by omega) ?_
    intro b21 o22 h0b21 h1b21 hc23
    refine op_load1 (v := (Value.int .u8 ((sizes.getD i 0).toNat : Int))) one5 (ev_hit hN16 rfl) (by have := hc23 0 (Value.int .u8 ((sizes.getD i 0).toNat : Int)) (by decide) (el_u8 (i := i) (by omega) (by omega)); simpa using this) ?_
    refine op_conv (r := ((sizes.getD i 0).toNat : Int)) (ev_hit hN16 rfl) us5 Try.underlying3 (wrap_i64 (by have := ((sizes.getD i 0)).toNat_lt; omega)) ?_
    refine op_rem (r := ((((sizes.getD i 0).toNat % 40) : Nat) : Int)) (ev_hit hN16 rfl) rfl (by decide) (tmod_nat (b := 40)) ?_
    refine op_add rfl (ev_hit hN16 rfl) (add64 (by omega)) ?_
    refine op_make (n := (1 + ((sizes.getD i 0).toNat % 40))) (y' := .const undef) slt22 (ev_hit hN16 rfl) (ev_hit hN16 rfl) rfl (by omega) (by omega) hb.size ?_
    intro v26 w24 hO27 E25 lo28
    have dj29 : DJ v26 ua := fun k hk hg => by have q1 := lo28 k hk; have q2 := (hO17.lt k hg).2; omega
    have z_w24 := E25.size
    have hrs := hrs.keep0 E25
    have hrd := hrd.keep0 E25
    have hxa := hxa.keep0 E25
    have hO17 := hO17.keep0 E25
    have hb := below_step0 hb E25 hb.size
    have hO27 : Own w24 w.heap.size 5 1 v26 (1 + ((sizes.getD i 0).toNat % 40)) (((List.replicate (1 + ((sizes.getD i 0).toNat % 40)) 0 : By)).map u8v) := by exact hO27.cast rfl (zeros_u8 _)
    obtain ⟨L30, B30, hrx30, hbx30, hax30⟩ := hO27.rdx
    have hln30 : (List.replicate (1 + ((sizes.getD i 0).toNat % 40)) 0 : By).length = (1 + ((sizes.getD i 0).toNat % 40)) := by first | rfl | assumption | omega | simp
    have hrx30 := hrx30.cast hln30.symm rfl
    refine op_fn (vs := [(ptr p11 0), v26]) ok11 ⟨(ev_hit hN16 rfl), ⟨(ev_hit hN16 rfl), trivial⟩⟩ (put_ret La bsa na _ _ _ _ (by omega) hxa hO17 hPa ((List.replicate (1 + ((sizes.getD i 0).toNat % 40)) 0 : By) : By) _ _ _ hrx30 (pg_apart hax30 (hO27.neB hxa (by decide)) dj29) hbx30) ?_
    rintro _ w33 ⟨E34, rfl, u32, n32, bs32, hx32, hO32, hP32, ro32⟩
    have dj35 : DJ v26 u32 := DJ.stepP ro32 dj29 (hO27.neB hxa (by decide)) (fun k hk => (hO27.lt k hk).2)
    have hrs := hrs.keepP hxa hO17 E34 (by omega) (by omega)
    have hrd := hrd.keepP hxa hO17 E34 (by omega) (by omega)
    have hO27 := hO27.keepP hxa hO17 E34 (by decide) (.inr dj29)
    have z_w33 := E34.size
    have hb := below_stepR hb E34 hb.size (by omega) hO17 (by omega)
    have hfi_32 := hP32.fits
    have hpk_31 := putK_rng La ((List.replicate (1 + ((sizes.getD i 0).toNat % 40)) 0 : By) : By)
    refine reg_nil ?_
    refine hK20 _ _ ?_
    refine one_reg ?_
    refine op_move (ev_base hN16 rfl s16_6) ?_
    refine op_add (ev_hit hN16 rfl) rfl (add64 (by omega)) ?_
    refine op_assign (ev_hit hN16 rfl) ?_
    refine reg_nil ?_
    -- round 25F 29F 35T
    exact loop_next _ hN16 hd16 ⟨i + 1, u32, n32, bs32, (putN La (List.replicate (1 + ((sizes.getD i 0).toNat % 40)) 0 : By)), rfl, (sl_base hN16 rfl s16_0), (sl_base hN16 rfl s16_1), (sl_base hN16 rfl s16_4), (sl_base hN16 rfl s16_5), (sl_hit hN16 rfl).trans (congrArg (Value.int .i64) (by omega)), (by omega), hP32, (Trim.put hTa _), hb, (by omega), hrs, hrd, hx32, hO32⟩ (by omega)
   · -- 35F
    refine reg_nil ?_
    refine hK19 _ _ ?_
    refine wp_cond_false (ev_hit hN16 rfl) ?_
    refine wp_exit (then_exit (then_exit (blk_hit ?_)))
    refine hK14 _ _ ?_
    refine seq_any fun K36 hK36 => ?_
    refine seq_any fun K37 hK37 => ?_
    refine one_reg ?_
    refine op_assign rfl ?_
    refine reg_nil ?_
    refine hK37 _ _ ?_
    refine wp_block ?_
    refine loop_m (fun mz_ az_ w' => ∃ (i2 : Nat) (ub : Value) (nb : Nat) (bsb : By) (Lb : List By), mz_ = drops.length - i2 ∧ (az_.tmps.getD 1 undef = vd) ∧ (az_.tmps.getD 5 undef = (ptr p11 0)) ∧ (az_.tmps.getD 7 undef = (Value.int .i64 ((i2 : Nat) : Int))) ∧ (i2 ≤ drops.length) ∧ (Pg nb bsb Lb ub) ∧ (Trim Lb) ∧ (Below w.heap.size w w') ∧ (w16.heap.size ≤ w'.heap.size) ∧ (RdC w' 0 w.heap.size 1 vs sizes.length (sizes.map u8v)) ∧ (RdC w' 0 w.heap.size 1 vd drops.length (drops.map u8v)) ∧ (Bx w' p11 50 [ub]) ∧ (Own w' w.heap.size 5 1 ub nb (bsb.map u8v))) _ hN16 hd16 ⟨0, ua, na, bsa, La, rfl, (sl_base hN16 rfl s16_1), (sl_base hN16 rfl s16_5), (sl_hit hN16 rfl), Nat.zero_le _, hPa, hTa, hb, (Nat.le_refl _), hrs, hrd, hxa, hO17⟩ ?_
    rintro _ a38 w38 hN38 hd38 ⟨i2, ub, nb, bsb, Lb, rfl, s38_1, s38_5, s38_7, hi2, hPb, hTb, hb, zl_w38, hrs, hrd, hxb, hO39⟩
    have z_w38 := hb.size
    refine seq_any fun K40 hK40 => ?_
    refine seq_any fun K41 hK41 => ?_
    refine one_reg ?_
    refine op_move (ev_base hN38 rfl s38_7) ?_
    refine op_move (ev_base hN38 rfl s38_1) ?_
    refine op_len_rd Try.underlying22 (ev_hit hN38 rfl) hrd ?_
    refine op_lss (ev_hit hN38 rfl) (ev_hit hN38 rfl) (fun c51 => ?_) (fun c51 => ?_)
    · -- 51T
     refine reg_nil ?_
     refine hK41 _ _ ?_
     refine wp_cond_true (ev_hit hN38 rfl) ?_
     refine wp_skip ?_
     refine hK40 _ _ ?_
     refine seq_any fun K42 hK42 => ?_
     refine wp_block ?_
     refine seq_any fun K43 hK43 => ?_
     refine one_reg ?_
     refine op_move (ev_base hN38 rfl s38_5) ?_
     refine op_fn (vs := [(ptr p11 0)]) ok12 ⟨(ev_hit hN38 rfl), trivial⟩ (slots_ret Lb bsb nb _ _ _ _ (by omega) hxb hO39 hPb ) ?_
     rintro v44 w46 ⟨E47, _, rfl, hO44, u45, n45, bs45, hx45, hO45, hP45, ro45⟩
     have hrs := hrs.keepP hxb hO39 E47 (by omega) (by omega)
     have hrd := hrd.keepP hxb hO39 E47 (by omega) (by omega)
     have z_w46 := E47.size
     have hb := below_stepR hb E47 hb.size (by omega) hO39 (by omega)
     have hO44 := hO44.mono (base' := w.heap.size) (by omega)
     have hfi_45 := hP45.fits
     have hsl_44 := slotsI_len Lb Lb.length
     refine op_assign (ev_hit hN38 rfl) ?_
     refine reg_nil ?_
     refine hK43 _ _ ?_
     refine seq_any fun K48 hK48 => ?_
     refine one_reg ?_
     refine op_move (ev_hit hN38 rfl) ?_
     refine op_len_rd Try.underlying29 (ev_hit hN38 rfl) hO44.rdw ?_
     refine op_gtr (ev_hit hN38 rfl) rfl (fun c58 => ?_) (fun c58 => ?_)
     · -- 58T
      refine reg_nil ?_
      refine hK48 _ _ ?_
      refine wp_cond_true (ev_hit hN38 rfl) ?_
      refine seq_any fun K49 hK49 => ?_
      refine one_reg ?_
      refine op_move (ev_base hN38 rfl s38_5) ?_
      refine op_move (ev_hit hN38 rfl) ?_
      refine op_move (ev_base hN38 rfl s38_1) ?_
      refine op_move (ev_base hN38 rfl s38_7) ?_
      refine op_index_rd slt22 (ev_hit hN38 rfl) hrd (ev_hit hN38 rfl) (by omega) (by omega) ?_
      intro b50 o51 h0b50 h1b50 hc52
      refine op_load1 (v := (Value.int .u8 ((drops.getD i2 0).toNat : Int))) one5 (ev_hit hN38 rfl) (by have := hc52 0 (Value.int .u8 ((drops.getD i2 0).toNat : Int)) (by decide) (el_u8 (i := i2) (by omega) (by omega)); simpa using this) ?_
      refine op_conv (r := ((drops.getD i2 0).toNat : Int)) (ev_hit hN38 rfl) us5 Try.underlying3 (wrap_i64 (by have := ((drops.getD i2 0)).toNat_lt; omega)) ?_
      refine op_move (ev_hit hN38 rfl) ?_
      refine op_len_rd Try.underlying29 (ev_hit hN38 rfl) hO44.rdw ?_
      refine op_rem (r := ((((drops.getD i2 0).toNat % (slotsI Lb Lb.length).length) : Nat) : Int)) (ev_hit hN38 rfl) (ev_hit hN38 rfl) (by omega) (by rw [tmod_nat]) ?_
      have hkd : ((drops.getD i2 0).toNat % (slotsI Lb Lb.length).length) < (slotsI Lb Lb.length).length := Nat.mod_lt _ (by omega)
      refine op_index_rd slt29 (ev_hit hN38 rfl) hO44.rdw (ev_hit hN38 rfl) (by omega) (by omega) ?_
      intro b53 o54 h0b53 h1b53 hc55
      have hsg := slots_get (L := Lb) (m := Lb.length) (i := ((drops.getD i2 0).toNat % (slotsI Lb Lb.length).length)) (Nat.le_refl _) (Nat.mod_lt _ (by omega))
      refine op_load1 (v := (Value.int .i64 ((slotsI Lb Lb.length).getD ((drops.getD i2 0).toNat % (slotsI Lb Lb.length).length) 0))) one3 (ev_hit hN38 rfl) (by have := hc55 0 (Value.int .i64 ((slotsI Lb Lb.length).getD ((drops.getD i2 0).toNat % (slotsI Lb Lb.length).length) 0)) (by decide) (el_i64 (i := ((drops.getD i2 0).toNat % (slotsI Lb Lb.length).length)) (by omega) (by omega)); simpa using this) ?_
      refine op_fn (vs := [(ptr p11 0), (Value.int .i64 ((slotsI Lb Lb.length).getD ((drops.getD i2 0).toNat % (slotsI Lb Lb.length).length) 0))]) ok13 ⟨(ev_hit hN38 rfl), ⟨(ev_hit hN38 rfl), trivial⟩⟩ (drop_ret Lb bs45 n45 _ _ _ _ (by omega) hx45 hO45 hP45 ((slotsI Lb Lb.length).getD ((drops.getD i2 0).toNat % (slotsI Lb Lb.length).length) 0) (by omega)) ?_
      rintro _ w57 ⟨E58, rfl, u56, n56, bs56, hx56, hO56, hP56, ro56⟩
      have hrs := hrs.keepP hx45 hO45 E58 (by omega) (by omega)
      have hrd := hrd.keepP hx45 hO45 E58 (by omega) (by omega)
      have hO44 := hO44.keepP hx45 hO45 E58 (by decide) (.inl (by decide))
      have z_w57 := E58.size
      have hb := below_stepR hb E58 hb.size (by omega) hO45 (by omega)
      have hfi_56 := hP56.fits
      refine op_neq (ev_hit hN38 rfl) rfl (fun c72 => ?_) (fun c72 => ?_)
      · -- 72T
       exact absurd (drop_slot (Nat.mod_lt _ (by omega))) c72
      · -- 72F
       refine reg_nil ?_
       refine hK49 _ _ ?_
       refine wp_cond_false (ev_hit hN38 rfl) ?_
       refine wp_skip ?_
       refine hK42 _ _ ?_
       refine one_reg ?_
       refine op_move (ev_base hN38 rfl s38_7) ?_
       refine op_add (ev_hit hN38 rfl) rfl (add64 (by omega)) ?_
       refine op_assign (ev_hit hN38 rfl) ?_
       refine reg_nil ?_
       -- round 25F 29F 35F 51T 58T 72F
       exact loop_next _ hN38 hd38 ⟨i2 + 1, u56, n56, bs56, (dropN Lb ((slotsI Lb Lb.length).getD ((drops.getD i2 0).toNat % (slotsI Lb Lb.length).length) 0)), rfl, (sl_base hN38 rfl s38_1), (sl_base hN38 rfl s38_5), (sl_hit hN38 rfl).trans (congrArg (Value.int .i64) (by omega)), (by omega), hP56, (Trim.drop hTb _), hb, (by omega), hrs, hrd, hx56, hO56⟩ (by omega)
     · -- 58F
      refine reg_nil ?_
      refine hK48 _ _ ?_
      refine wp_cond_false (ev_hit hN38 rfl) ?_
      refine wp_skip ?_
      refine hK42 _ _ ?_
      refine one_reg ?_
      refine op_move (ev_base hN38 rfl s38_7) ?_
      refine op_add (ev_hit hN38 rfl) rfl (add64 (by omega)) ?_
      refine op_assign (ev_hit hN38 rfl) ?_
      refine reg_nil ?_
      -- round 25F 29F 35F 51T 58F
      exact loop_next _ hN38 hd38 ⟨i2 + 1, u45, n45, bs45, Lb, rfl, (sl_base hN38 rfl s38_1), (sl_base hN38 rfl s38_5), (sl_hit hN38 rfl).trans (congrArg (Value.int .i64) (by omega)), (by omega), hP45, hTb, hb, (by omega), hrs, hrd, hx45, hO45⟩ (by omega)
    · -- 51F
     refine reg_nil ?_
     refine hK41 _ _ ?_
     refine wp_cond_false (ev_hit hN38 rfl) ?_
     refine wp_exit (then_exit (then_exit (blk_hit ?_)))
     refine hK36 _ _ ?_
     refine seq_any fun K59 hK59 => ?_
     refine one_reg ?_
     refine op_move (ev_base hN38 rfl s38_5) ?_
     refine op_fn (vs := [(ptr p11 0)]) ok12 ⟨(ev_hit hN38 rfl), trivial⟩ (slots_ret Lb bsb nb _ _ _ _ (by omega) hxb hO39 hPb ) ?_
     rintro v60 w62 ⟨E63, _, rfl, hO60, u61, n61, bs61, hx61, hO61, hP61, ro61⟩
     have hrs := hrs.keepP hxb hO39 E63 (by omega) (by omega)
     have hrd := hrd.keepP hxb hO39 E63 (by omega) (by omega)
     have z_w62 := E63.size
     have hb := below_stepR hb E63 hb.size (by omega) hO39 (by omega)
     have hO60 := hO60.mono (base' := w.heap.size) (by omega)
     have hfi_61 := hP61.fits
     have hsl_60 := slotsI_len Lb Lb.length
     refine op_assign (ev_hit hN38 rfl) ?_
     refine reg_nil ?_
     refine hK59 _ _ ?_
     refine seq_any fun K64 hK64 => ?_
     refine one_reg ?_
     refine op_assign rfl ?_
     refine reg_nil ?_
     refine hK64 _ _ ?_
     refine seq_any fun K65 hK65 => ?_
     refine seq_any fun K66 hK66 => ?_
     refine one_reg ?_
     refine op_assign rfl ?_
     refine reg_nil ?_
     refine hK66 _ _ ?_
     refine wp_block ?_
     refine loop_m (fun mz_ az_ w' => ∃ (i3 : Nat), mz_ = (slotsI Lb Lb.length).length - i3 ∧ (az_.tmps.getD 5 undef = (ptr p11 0)) ∧ (az_.tmps.getD 9 undef = v60) ∧ (az_.tmps.getD 11 undef = (Value.int .i64 ((i3 : Nat) : Int))) ∧ (az_.tmps.getD 10 undef = (Value.bool (holeN (slotsI Lb Lb.length) i3))) ∧ (i3 ≤ (slotsI Lb Lb.length).length) ∧ (Below w.heap.size w w') ∧ (w62.heap.size ≤ w'.heap.size) ∧ (RdC w' 0 w.heap.size 1 vs sizes.length (sizes.map u8v)) ∧ (RdC w' 0 w.heap.size 1 vd drops.length (drops.map u8v)) ∧ (Own w' w.heap.size 3 1 v60 (slotsI Lb Lb.length).length ((slotsI Lb Lb.length).map (Value.int .i64))) ∧ (Bx w' p11 50 [u61]) ∧ (Own w' w.heap.size 5 1 u61 n61 (bs61.map u8v))) _ hN38 hd38 ⟨0, rfl, (sl_base hN38 rfl s38_5), (sl_hit hN38 rfl), (sl_hit hN38 rfl), (sl_hit hN38 rfl), Nat.zero_le _, hb, (Nat.le_refl _), hrs, hrd, hO60, hx61, hO61⟩ ?_
     rintro _ a67 w67 hN67 hd67 ⟨i3, rfl, s67_5, s67_9, s67_11, s67_10, hi3, hb, zl_w67, hrs, hrd, hO60, hx61, hO61⟩
     have z_w67 := hb.size
     refine seq_any fun K68 hK68 => ?_
     refine seq_any fun K69 hK69 => ?_
     refine one_reg ?_
     refine op_move (ev_base hN67 rfl s67_11) ?_
     refine op_move (ev_base hN67 rfl s67_9) ?_
     refine op_len_rd Try.underlying29 (ev_hit hN67 rfl) hO60.rdw ?_
     refine op_lss (ev_hit hN67 rfl) (ev_hit hN67 rfl) (fun c78 => ?_) (fun c78 => ?_)
     · -- 78T
      refine reg_nil ?_
      refine hK69 _ _ ?_
      refine wp_cond_true (ev_hit hN67 rfl) ?_
      refine wp_skip ?_
      refine hK68 _ _ ?_
      refine seq_any fun K70 hK70 => ?_
      refine wp_block ?_
      refine one_reg ?_
      refine op_move (ev_base hN67 rfl s67_10) ?_
      refine op_move (ev_hit hN67 rfl) ?_
      rcases Bool.eq_false_or_eq_true ((holeN (slotsI Lb Lb.length) i3)) with g82 | g82
      · -- 82T
       rw [g82]
       refine g_false (j := 1) (dj := 82) (b := false) rfl rfl rfl (ev_hit hN67 rfl) rfl rfl ?_
       refine g_false (j := 1) (dj := 82) (b := false) rfl rfl rfl (ev_hit hN67 rfl) rfl rfl ?_
       refine g_false (j := 1) (dj := 82) (b := false) rfl rfl rfl (ev_hit hN67 rfl) rfl rfl ?_
       refine g_false (j := 1) (dj := 82) (b := false) rfl rfl rfl (ev_hit hN67 rfl) rfl rfl ?_
       refine g_false (j := 1) (dj := 82) (b := false) rfl rfl rfl (ev_hit hN67 rfl) rfl rfl ?_
       refine g_false (j := 1) (dj := 82) (b := false) rfl rfl rfl (ev_hit hN67 rfl) rfl rfl ?_
       refine op_pick_t (ev_hit hN67 rfl) rfl ?_
       refine op_assign (ev_hit hN67 rfl) ?_
       refine reg_nil ?_
       refine hK70 _ _ ?_
       refine one_reg ?_
       refine op_move (ev_base hN67 rfl s67_11) ?_
       refine op_add (ev_hit hN67 rfl) rfl (add64 (by omega)) ?_
       refine op_assign (ev_hit hN67 rfl) ?_
       refine reg_nil ?_
       -- round 25F 29F 35F 51F 78T 82T
       exact loop_next _ hN67 hd67 ⟨i3 + 1, rfl, (sl_base hN67 rfl s67_5), (sl_base hN67 rfl s67_9), (sl_hit hN67 rfl).trans (congrArg (Value.int .i64) (by omega)), (sl_hit hN67 rfl).trans (congrArg Value.bool (by unfold holeN; rw [g82]; rfl)), (by omega), hb, (by omega), hrs, hrd, hO60, hx61, hO61⟩ (by omega)
      · -- 82F
       rw [g82]
       refine g_true (j := 1) (dj := 82) (b := false) rfl rfl rfl (ev_hit hN67 rfl) ?_
       refine op_move (ev_base hN67 rfl s67_9) ?_
       refine g_true (j := 1) (dj := 82) (b := false) rfl rfl rfl (ev_hit hN67 rfl) ?_
       refine op_move (ev_base hN67 rfl s67_11) ?_
       refine g_true (j := 1) (dj := 82) (b := false) rfl rfl rfl (ev_hit hN67 rfl) ?_
       refine op_index_rd slt29 (ev_hit hN67 rfl) hO60.rdw (ev_hit hN67 rfl) (by omega) (by omega) ?_
       intro b71 o72 h0b71 h1b71 hc73
       refine g_true (j := 1) (dj := 82) (b := false) rfl rfl rfl (ev_hit hN67 rfl) ?_
       refine op_load1 (v := (Value.int .i64 ((slotsI Lb Lb.length).getD i3 0))) one3 (ev_hit hN67 rfl) (by have := hc73 0 (Value.int .i64 ((slotsI Lb Lb.length).getD i3 0)) (by decide) (el_i64 (i := i3) (by omega) (by omega)); simpa using this) ?_
       refine g_true (j := 1) (dj := 82) (b := false) rfl rfl rfl (ev_hit hN67 rfl) ?_
       refine op_move (ev_base hN67 rfl s67_11) ?_
       refine g_true (j := 1) (dj := 82) (b := false) rfl rfl rfl (ev_hit hN67 rfl) ?_
       refine op_neq (ev_hit hN67 rfl) (ev_hit hN67 rfl) (fun c88 => ?_) (fun c88 => ?_)
       · -- 88T
        refine op_pick_f (ev_hit hN67 rfl) (ev_hit hN67 rfl) ?_
        refine op_assign (ev_hit hN67 rfl) ?_
        refine reg_nil ?_
        refine hK70 _ _ ?_
        refine one_reg ?_
        refine op_move (ev_base hN67 rfl s67_11) ?_
        refine op_add (ev_hit hN67 rfl) rfl (add64 (by omega)) ?_
        refine op_assign (ev_hit hN67 rfl) ?_
        refine reg_nil ?_
        -- round 25F 29F 35F 51F 78T 82F 88T
        exact loop_next _ hN67 hd67 ⟨i3 + 1, rfl, (sl_base hN67 rfl s67_5), (sl_base hN67 rfl s67_9), (sl_hit hN67 rfl).trans (congrArg (Value.int .i64) (by omega)), (sl_hit hN67 rfl).trans (congrArg Value.bool (by unfold holeN; rw [g82, decide_eq_true (by first | exact c88 | omega)]; rfl)), (by omega), hb, (by omega), hrs, hrd, hO60, hx61, hO61⟩ (by omega)
       · -- 88F
        refine op_pick_f (ev_hit hN67 rfl) (ev_hit hN67 rfl) ?_
        refine op_assign (ev_hit hN67 rfl) ?_
        refine reg_nil ?_
        refine hK70 _ _ ?_
        refine one_reg ?_
        refine op_move (ev_base hN67 rfl s67_11) ?_
        refine op_add (ev_hit hN67 rfl) rfl (add64 (by omega)) ?_
        refine op_assign (ev_hit hN67 rfl) ?_
        refine reg_nil ?_
        -- round 25F 29F 35F 51F 78T 82F 88F
        exact loop_next _ hN67 hd67 ⟨i3 + 1, rfl, (sl_base hN67 rfl s67_5), (sl_base hN67 rfl s67_9), (sl_hit hN67 rfl).trans (congrArg (Value.int .i64) (by omega)), (sl_hit hN67 rfl).trans (congrArg Value.bool (by unfold holeN; rw [g82, decide_eq_false (by first | exact c88 | omega)]; rfl)), (by omega), hb, (by omega), hrs, hrd, hO60, hx61, hO61⟩ (by omega)
     · -- 78F
      refine reg_nil ?_
      refine hK69 _ _ ?_
      refine wp_cond_false (ev_hit hN67 rfl) ?_
      refine wp_exit (then_exit (then_exit (blk_hit ?_)))
      refine hK65 _ _ ?_
      refine seq_any fun K74 hK74 => ?_
      refine one_reg ?_
      have he3 : i3 = (slotsI Lb Lb.length).length := by omega
      refine op_move (ev_base hN67 rfl s67_5) ?_
      refine op_fn (vs := [(ptr p11 0)]) ok14 ⟨(ev_hit hN67 rfl), trivial⟩ (free_ret Lb bs61 n61 _ _ _ _ (by omega) hx61 hO61 hP61 ) ?_
      rintro _ w77 ⟨E78, rfl, u76, n76, bs76, hx76, hO76, hP76, ro76⟩
      have hrs := hrs.keepP hx61 hO61 E78 (by omega) (by omega)
      have hrd := hrd.keepP hx61 hO61 E78 (by omega) (by omega)
      have hO60 := hO60.keepP hx61 hO61 E78 (by decide) (.inl (by decide))
      have z_w77 := E78.size
      have hb := below_stepR hb E78 hb.size (by omega) hO61 (by omega)
      have hfi_76 := hP76.fits
      have hlr_75 := hP61.left
      refine op_sub (ev_hit hN67 rfl) rfl (sub64 (by omega)) ?_
      refine op_assign (ev_hit hN67 rfl) ?_
      refine reg_nil ?_
      refine hK74 _ _ ?_
      refine seq_any fun K79 hK79 => ?_
      refine seq_any fun K80 hK80 => ?_
      refine one_reg ?_
      refine op_move (ev_base hN67 rfl s67_10) ?_
      refine reg_nil ?_
      refine hK80 _ _ ?_
      refine wp_cond_split (ev_hit hN67 rfl) (fun c93 => ?_) (fun c93 => ?_)
      · -- 93T
       refine one_reg ?_
       refine op_move (ev_base hN67 rfl s67_5) ?_
       refine op_fn (vs := [(ptr p11 0)]) ok14 ⟨(ev_hit hN67 rfl), trivial⟩ (free_ret Lb bs76 n76 _ _ _ _ (by omega) hx76 hO76 hP76 ) ?_
       rintro _ w83 ⟨E84, rfl, u82, n82, bs82, hx82, hO82, hP82, ro82⟩
       have hrs := hrs.keepP hx76 hO76 E84 (by omega) (by omega)
       have hrd := hrd.keepP hx76 hO76 E84 (by omega) (by omega)
       have hO60 := hO60.keepP hx76 hO76 E84 (by decide) (.inl (by decide))
       have z_w83 := E84.size
       have hb := below_stepR hb E84 hb.size (by omega) hO76 (by omega)
       have hfi_82 := hP82.fits
       have hlr_81 := hP76.left
       refine op_assign (ev_hit hN67 rfl) ?_
       refine reg_nil ?_
       refine hK79 _ _ ?_
       refine seq_any fun K85 hK85 => ?_
       refine seq_any fun K86 hK86 => ?_
       refine one_reg ?_
       refine op_move (ev_hit hN67 rfl) ?_
       refine op_lss (ev_hit hN67 rfl) rfl (fun c97 => ?_) (fun c97 => ?_)
       · -- 97T
        refine reg_nil ?_
        refine hK86 _ _ ?_
        refine wp_cond_true (ev_hit hN67 rfl) ?_
        refine seq_any fun K87 hK87 => ?_
        refine one_reg ?_
        refine op_assign rfl ?_
        refine reg_nil ?_
        refine hK87 _ _ ?_
        refine wp_ret (then_ret ( ?_))
        refine ret1 rfl hd67 (ev_hit hN67 rfl) ⟨_, rfl, ?_⟩
        -- path 25F 29F 35F 51F 78F 93T 97T
        exact ⟨hb, rfl⟩
       · -- 97F
        refine reg_nil ?_
        refine hK86 _ _ ?_
        refine wp_cond_false (ev_hit hN67 rfl) ?_
        refine wp_skip ?_
        refine hK85 _ _ ?_
        refine seq_any fun K88 hK88 => ?_
        refine one_reg ?_
        obtain ⟨N, hN⟩ : ∃ N : Nat, (leftL Lb Lb.length) = (N : Int) := ⟨_, (Int.toNat_of_nonneg (by omega)).symm⟩
        have hNN : leftL Lb (max Lb.length (freeL Lb + 1)) = (N : Int) := (left_hole hTb (by rw [← he3]; exact c93)).trans hN
        refine op_move ((ev_hit hN67 rfl).trans (congrArg (Value.int .i64) (show _ = ((N : Nat) : Int) by omega))) ?_
        refine op_min (r := ((min N 200 : Nat) : Int)) (ev_hit hN67 rfl) rfl (by omega) ?_
        refine op_make (n := (min N 200)) (y' := .const undef) slt22 (ev_hit hN67 rfl) (ev_hit hN67 rfl) rfl (by omega) (by omega) hb.size ?_
        intro v91 w89 hO92 E90 lo93
        have dj94 : DJ v91 u82 := fun k hk hg => by have q1 := lo93 k hk; have q2 := (hO82.lt k hg).2; omega
        have z_w89 := E90.size
        have hrs := hrs.keep0 E90
        have hrd := hrd.keep0 E90
        have hO60 := hO60.keep0 E90
        have hx82 := hx82.keep0 E90
        have hO82 := hO82.keep0 E90
        have hb := below_step0 hb E90 hb.size
        have hO92 : Own w89 w.heap.size 5 1 v91 (min N 200) (((List.replicate (min N 200) 0 : By)).map u8v) := by exact hO92.cast rfl (zeros_u8 _)
        refine op_assign (ev_hit hN67 rfl) ?_
        refine reg_nil ?_
        refine hK88 _ _ ?_
        refine seq_any fun K95 hK95 => ?_
        refine seq_any fun K96 hK96 => ?_
        refine one_reg ?_
        refine op_assign rfl ?_
        refine reg_nil ?_
        refine hK96 _ _ ?_
        refine wp_block ?_
        refine loop_m (fun mz_ az_ w' => ∃ (i4 : Nat) (bl : By), mz_ = (min N 200) - i4 ∧ (az_.tmps.getD 5 undef = (ptr p11 0)) ∧ (az_.tmps.getD 12 undef = (Value.int .i64 (leftL Lb (Lb : List By).length))) ∧ (az_.tmps.getD 13 undef = v91) ∧ (az_.tmps.getD 14 undef = (Value.int .i64 ((i4 : Nat) : Int))) ∧ (i4 ≤ (min N 200)) ∧ (bl.length = (min N 200)) ∧ (Below w.heap.size w w') ∧ (w89.heap.size ≤ w'.heap.size) ∧ (RdC w' 0 w.heap.size 1 vs sizes.length (sizes.map u8v)) ∧ (RdC w' 0 w.heap.size 1 vd drops.length (drops.map u8v)) ∧ (Own w' w.heap.size 3 1 v60 (slotsI Lb Lb.length).length ((slotsI Lb Lb.length).map (Value.int .i64))) ∧ (Bx w' p11 50 [u82]) ∧ (Own w' w.heap.size 5 1 u82 n82 (bs82.map u8v)) ∧ (Own w' w.heap.size 5 1 v91 (min N 200) (bl.map u8v))) _ hN67 hd67 ⟨0, (List.replicate (min N 200) 0 : By), rfl, (sl_base hN67 rfl s67_5), (sl_hit hN67 rfl), (sl_hit hN67 rfl), (sl_hit hN67 rfl), Nat.zero_le _, List.length_replicate, hb, (Nat.le_refl _), hrs, hrd, hO60, hx82, hO82, hO92⟩ ?_
        rintro _ a97 w97 hN97 hd97 ⟨i4, bl, rfl, s97_5, s97_12, s97_13, s97_14, hi4, hbl, hb, zl_w97, hrs, hrd, hO60, hx82, hO82, hO98⟩
        have z_w97 := hb.size
        refine seq_any fun K99 hK99 => ?_
        refine seq_any fun K100 hK100 => ?_
        refine one_reg ?_
        refine op_move (ev_base hN97 rfl s97_14) ?_
        refine op_move (ev_base hN97 rfl s97_13) ?_
        refine op_len_rd Try.underlying22 (ev_hit hN97 rfl) hO98.rdw ?_
        refine op_lss (ev_hit hN97 rfl) (ev_hit hN97 rfl) (fun c104 => ?_) (fun c104 => ?_)
        · -- 104T
         refine reg_nil ?_
         refine hK100 _ _ ?_
         refine wp_cond_true (ev_hit hN97 rfl) ?_
         refine wp_skip ?_
         refine hK99 _ _ ?_
         refine seq_any fun K101 hK101 => ?_
         refine wp_block ?_
         refine one_reg ?_
         refine op_move (ev_base hN97 rfl s97_13) ?_
         refine op_move (ev_base hN97 rfl s97_14) ?_
         refine op_move (ev_base hN97 rfl s97_14) ?_
         refine op_mul (ev_hit hN97 rfl) rfl (mul64 (by omega)) ?_
         refine op_conv (r := ((UInt8.ofNat (i4 * 7)).toNat : Int)) (ev_hit hN97 rfl) us3 Try.underlying5 conv_u8 ?_
         refine op_index_own (i := i4) slt22 (ev_hit hN97 rfl) hO98 (ev_hit hN97 rfl) (by omega) (by omega) ?_
         intro b102 o103 lo_b102 hA104
         have hA104 : AtV v91 (i4) b102 o103 := by simpa using hA104
         have hP107 := hO98
         refine op_store_own (vs := [(Value.int .u8 ((UInt8.ofNat (i4 * 7)).toNat : Int))]) size5 (ev_hit hN97 rfl) (ev_hit hN97 rfl) rfl rfl rfl hP107 hA104 (by simp; omega) ?_
         intro w105 hO108 E106
         have z_w105 := E106.size
         have hrs := hrs.keepO hP107 E106 (by omega)
         have hrd := hrd.keepO hP107 E106 (by omega)
         have hO60 := hO60.keepT hP107 E106 (by decide)
         have hx82 := hx82.keepO hP107 E106 (by decide)
         have hO82 := hO82.keepD E106 dj94.symm
         have hb := below_stepO hb hP107 E106 hb.size (by omega)
         have hO108 : Own w105 w.heap.size 5 1 v91 (min N 200) (((bl.set i4 (UInt8.ofNat (i4 * 7)))).map u8v) := by exact hO108.cast rfl (set_u8 (by omega))
         refine reg_nil ?_
         refine hK101 _ _ ?_
         refine one_reg ?_
         refine op_move (ev_base hN97 rfl s97_14) ?_
         refine op_add (ev_hit hN97 rfl) rfl (add64 (by omega)) ?_
         refine op_assign (ev_hit hN97 rfl) ?_
         refine reg_nil ?_
         -- round 25F 29F 35F 51F 78F 93T 97F 104T
         exact loop_next _ hN97 hd97 ⟨i4 + 1, _, rfl, (sl_base hN97 rfl s97_5), (sl_base hN97 rfl s97_12), (sl_base hN97 rfl s97_13), (sl_hit hN97 rfl).trans (congrArg (Value.int .i64) (by omega)), (by omega), (by simp only [List.length_set]; exact hbl), hb, (by omega), hrs, hrd, hO60, hx82, hO82, hO108⟩ (by omega)
        · -- 104F
         refine reg_nil ?_
         refine hK100 _ _ ?_
         refine wp_cond_false (ev_hit hN97 rfl) ?_
         refine wp_exit (then_exit (then_exit (blk_hit ?_)))
         refine hK95 _ _ ?_
         refine seq_any fun K109 hK109 => ?_
         refine seq_any fun K110 hK110 => ?_
         refine one_reg ?_
         refine op_move (ev_base hN97 rfl s97_12) ?_
         refine op_lss (ev_hit hN97 rfl) rfl (fun c114 => ?_) (fun c114 => ?_)
         · -- 114T
          refine reg_nil ?_
          refine hK110 _ _ ?_
          refine wp_cond_true (ev_hit hN97 rfl) ?_
          refine seq_any fun K111 hK111 => ?_
          refine one_reg ?_
          refine op_move (ev_base hN97 rfl s97_5) ?_
          refine op_move ((ev_base hN97 rfl s97_12).trans (congrArg (Value.int .i64) (show _ = ((N : Nat) : Int) by omega))) ?_
          refine op_add (ev_hit hN97 rfl) rfl (add64 (by omega)) ?_
          refine op_make (n := (N + 1)) (y' := .const undef) slt22 (ev_hit hN97 rfl) (ev_hit hN97 rfl) rfl (by omega) (by omega) hb.size ?_
          intro v114 w112 hO115 E113 lo116
          have dj117 : DJ v114 u82 := fun k hk hg => by have q1 := lo116 k hk; have q2 := (hO82.lt k hg).2; omega
          have dj118 : DJ v114 v91 := fun k hk hg => by have q1 := lo116 k hk; have q2 := (hO98.lt k hg).2; omega
          have z_w112 := E113.size
          have hrs := hrs.keep0 E113
          have hrd := hrd.keep0 E113
          have hO60 := hO60.keep0 E113
          have hx82 := hx82.keep0 E113
          have hO82 := hO82.keep0 E113
          have hO98 := hO98.keep0 E113
          have hb := below_step0 hb E113 hb.size
          have hO115 : Own w112 w.heap.size 5 1 v114 (N + 1) (((List.replicate (N + 1) 0 : By)).map u8v) := by exact hO115.cast rfl (zeros_u8 _)
          obtain ⟨L119, B119, hrx119, hbx119, hax119⟩ := hO115.rdx
          have hln119 : (List.replicate (N + 1) 0 : By).length = (N + 1) := by first | rfl | assumption | omega | simp
          have hrx119 := hrx119.cast hln119.symm rfl
          refine op_fn (vs := [(ptr p11 0), v114]) ok11 ⟨(ev_hit hN97 rfl), ⟨(ev_hit hN97 rfl), trivial⟩⟩ (put_ret Lb bs82 n82 _ _ _ _ (by omega) hx82 hO82 hP82 ((List.replicate (N + 1) 0 : By) : By) _ _ _ hrx119 (pg_apart hax119 (hO115.neB hx82 (by decide)) dj117) hbx119) ?_
          rintro _ w122 ⟨E123, rfl, u121, n121, bs121, hx121, hO121, hP121, ro121⟩
          have dj124 : DJ v91 u121 := DJ.stepP ro121 dj94 (hO98.neB hx82 (by decide)) (fun k hk => (hO98.lt k hk).2)
          have dj125 : DJ v114 u121 := DJ.stepP ro121 dj117 (hO115.neB hx82 (by decide)) (fun k hk => (hO115.lt k hk).2)
          have hrs := hrs.keepP hx82 hO82 E123 (by omega) (by omega)
          have hrd := hrd.keepP hx82 hO82 E123 (by omega) (by omega)
          have hO60 := hO60.keepP hx82 hO82 E123 (by decide) (.inl (by decide))
          have hO98 := hO98.keepP hx82 hO82 E123 (by decide) (.inr dj94)
          have hO115 := hO115.keepP hx82 hO82 E123 (by decide) (.inr dj117)
          have z_w122 := E123.size
          have hb := below_stepR hb E123 hb.size (by omega) hO82 (by omega)
          have hfi_121 := hP121.fits
          have hpk_120 := putK_rng Lb ((List.replicate (N + 1) 0 : By) : By)
          refine op_move (ev_hit hN97 rfl) ?_
          refine op_extract (ev_hit hN97 rfl) rfl ?_
          refine op_extract (ev_hit hN97 rfl) rfl ?_
          refine op_assign (ev_hit hN97 rfl) ?_
          refine op_assign (ev_hit hN97 rfl) ?_
          refine reg_nil ?_
          refine hK111 _ _ ?_
          refine seq_any fun K126 hK126 => ?_
          refine one_reg ?_
          refine op_move (ev_hit hN97 rfl) ?_
          refine op_neq (ev_hit hN97 rfl) rfl (fun c124 => ?_) (fun c124 => ?_)
          · -- 124T
           exact absurd (push_full hNN (by omega) List.length_replicate).1 c124
          · -- 124F
           refine reg_nil ?_
           refine hK126 _ _ ?_
           refine wp_cond_false (ev_hit hN97 rfl) ?_
           refine wp_skip ?_
           refine hK109 _ _ ?_
           refine seq_any fun K127 hK127 => ?_
           refine one_reg ?_
           have hpf := (push_full hNN (by omega) (List.length_replicate (a := (0 : UInt8)))).2
           refine op_move (ev_base hN97 rfl s97_5) ?_
           refine op_move (ev_base hN97 rfl s97_13) ?_
           obtain ⟨L128, B128, hrx128, hbx128, hax128⟩ := hO98.rdx
           have hln128 : bl.length = (min N 200) := by first | rfl | assumption | omega | simp
           have hrx128 := hrx128.cast hln128.symm rfl
           refine op_fn (vs := [(ptr p11 0), v91]) ok11 ⟨(ev_hit hN97 rfl), ⟨(ev_hit hN97 rfl), trivial⟩⟩ (put_ret (putN Lb (List.replicate (N + 1) 0 : By)) bs121 n121 _ _ _ _ (by omega) hx121 hO121 hP121 (bl : By) _ _ _ hrx128 (pg_apart hax128 (hO98.neB hx121 (by decide)) dj124) hbx128) ?_
           rintro _ w131 ⟨E132, rfl, u130, n130, bs130, hx130, hO130, hP130, ro130⟩
           have dj133 : DJ v91 u130 := DJ.stepP ro130 dj124 (hO98.neB hx121 (by decide)) (fun k hk => (hO98.lt k hk).2)
           have dj134 : DJ v114 u130 := DJ.stepP ro130 dj125 (hO115.neB hx121 (by decide)) (fun k hk => (hO115.lt k hk).2)
           have hrs := hrs.keepP hx121 hO121 E132 (by omega) (by omega)
           have hrd := hrd.keepP hx121 hO121 E132 (by omega) (by omega)
           have hO60 := hO60.keepP hx121 hO121 E132 (by decide) (.inl (by decide))
           have hO98 := hO98.keepP hx121 hO121 E132 (by decide) (.inr dj124)
           have hO115 := hO115.keepP hx121 hO121 E132 (by decide) (.inr dj125)
           have z_w131 := E132.size
           have hb := below_stepR hb E132 hb.size (by omega) hO121 (by omega)
           have hfi_130 := hP130.fits
           have hpk_129 := putK_rng (putN Lb (List.replicate (N + 1) 0 : By)) (bl : By)
           refine op_move (ev_hit hN97 rfl) ?_
           refine op_extract (ev_hit hN97 rfl) rfl ?_
           refine op_extract (ev_hit hN97 rfl) rfl ?_
           refine op_assign (ev_hit hN97 rfl) ?_
           refine op_assign (ev_hit hN97 rfl) ?_
           refine reg_nil ?_
           refine hK127 _ _ ?_
           refine seq_any fun K135 hK135 => ?_
           refine one_reg ?_
           refine op_move (ev_base hN97 rfl s97_5) ?_
           refine op_move (ev_hit hN97 rfl) ?_
           refine op_fn (vs := [(ptr p11 0), (Value.int .i64 (putK (putN Lb (List.replicate (N + 1) 0 : By)) bl))]) ok15 ⟨(ev_hit hN97 rfl), ⟨(ev_hit hN97 rfl), trivial⟩⟩ (get_ret (putN (putN Lb (List.replicate (N + 1) 0 : By)) bl) bs130 n130 _ _ _ _ (by omega) hx130 hO130 hP130 (putK (putN Lb (List.replicate (N + 1) 0 : By)) bl) (by omega)) ?_
           rintro _ w138 ⟨E139, v136, rfl, hO136, u137, n137, bs137, hx137, hO137, hP137, ro137, dx137⟩
           have dj140 : DJ v136 v91 := fun k hk hg => by have q1 := (hO136.lt k hk).1; have q2 := (hO98.lt k hg).2; omega
           have dj141 : DJ v136 v114 := fun k hk hg => by have q1 := (hO136.lt k hk).1; have q2 := (hO115.lt k hg).2; omega
           have dj142 : DJ v136 u130 := fun k hk hg => by have q1 := (hO136.lt k hk).1; have q2 := (hO130.lt k hg).2; omega
           have dj143 : DJ v91 u137 := DJ.stepP ro137 dj133 (hO98.neB hx130 (by decide)) (fun k hk => (hO98.lt k hk).2)
           have dj144 : DJ v114 u137 := DJ.stepP ro137 dj134 (hO115.neB hx130 (by decide)) (fun k hk => (hO115.lt k hk).2)
           have hrs := hrs.keepP hx130 hO130 E139 (by omega) (by omega)
           have hrd := hrd.keepP hx130 hO130 E139 (by omega) (by omega)
           have hO60 := hO60.keepP hx130 hO130 E139 (by decide) (.inl (by decide))
           have hO98 := hO98.keepP hx130 hO130 E139 (by decide) (.inr dj133)
           have hO115 := hO115.keepP hx130 hO130 E139 (by decide) (.inr dj134)
           have z_w138 := E139.size
           have hb := below_stepR hb E139 hb.size (by omega) hO130 (by omega)
           have hO136 := hO136.mono (base' := w.heap.size) (by omega)
           have hfi_137 := hP137.fits
           refine op_move (ev_hit hN97 rfl) ?_
           refine op_extract (ev_hit hN97 rfl) rfl ?_
           refine op_extract (ev_hit hN97 rfl) rfl ?_
           refine op_assign (ev_hit hN97 rfl) ?_
           refine op_assign (ev_hit hN97 rfl) ?_
           refine reg_nil ?_
           refine hK135 _ _ ?_
           refine seq_any fun K145 hK145 => ?_
           refine one_reg ?_
           refine op_move (ev_hit hN97 rfl) ?_
           refine op_eql (ev_hit hN97 rfl) rfl (fun c138 => ?_) (fun c138 => ?_)
           · -- 138T
            refine op_move (ev_hit hN97 rfl) ?_
            refine g_true (j := 2) (dj := 139) (b := true) rfl rfl rfl (ev_hit hN97 rfl) ?_
            refine op_move (ev_hit hN97 rfl) ?_
            refine g_true (j := 2) (dj := 139) (b := true) rfl rfl rfl (ev_hit hN97 rfl) ?_
            refine op_eql (ev_hit hN97 rfl) rfl (fun c141 => ?_) (fun c141 => ?_)
            · -- 141T
             refine op_pick_t (ev_hit hN97 rfl) (ev_hit hN97 rfl) ?_
             refine op_move (ev_hit hN97 rfl) ?_
             refine g_true (j := 6) (dj := 143) (b := true) rfl rfl rfl (ev_hit hN97 rfl) ?_
             refine op_move (ev_base hN97 rfl s97_13) ?_
             refine g_true (j := 6) (dj := 143) (b := true) rfl rfl rfl (ev_hit hN97 rfl) ?_
             refine op_str_of (bl := bl) Try.underlying22 Try.underlying5 Try.underlying9 (ev_hit hN97 rfl) hO98.rdw ?_
             refine g_true (j := 6) (dj := 143) (b := true) rfl rfl rfl (ev_hit hN97 rfl) ?_
             refine op_move (ev_hit hN97 rfl) ?_
             refine g_true (j := 6) (dj := 143) (b := true) rfl rfl rfl (ev_hit hN97 rfl) ?_
             refine op_str_of (bl := (getL (putN (putN Lb (List.replicate (N + 1) 0 : By)) bl) (putK (putN Lb (List.replicate (N + 1) 0 : By)) bl))) Try.underlying22 Try.underlying5 Try.underlying9 (ev_hit hN97 rfl) hO136.rdw ?_
             refine g_true (j := 6) (dj := 143) (b := true) rfl rfl rfl (ev_hit hN97 rfl) ?_
             refine op_seql (ev_hit hN97 rfl) (ev_hit hN97 rfl) (fun c148 => ?_) (fun c148 => ?_)
             · -- 148T
              refine op_pick_t (ev_hit hN97 rfl) (ev_hit hN97 rfl) ?_
              refine op_move (ev_hit hN97 rfl) ?_
              refine g_true (j := 13) (dj := 150) (b := true) rfl rfl rfl (ev_hit hN97 rfl) ?_
              refine op_move (ev_base hN97 rfl s97_5) ?_
              refine g_true (j := 13) (dj := 150) (b := true) rfl rfl rfl (ev_hit hN97 rfl) ?_
              refine op_fn (vs := [(ptr p11 0)]) ok14 ⟨(ev_hit hN97 rfl), trivial⟩ (free_ret (putN (putN Lb (List.replicate (N + 1) 0 : By)) bl) bs137 n137 _ _ _ _ (by omega) hx137 hO137 hP137 ) ?_
              rintro _ w148 ⟨E149, rfl, u147, n147, bs147, hx147, hO147, hP147, ro147⟩
              have dj150 : DJ v91 u147 := DJ.stepP ro147 dj143 (hO98.neB hx137 (by decide)) (fun k hk => (hO98.lt k hk).2)
              have dj151 : DJ v114 u147 := DJ.stepP ro147 dj144 (hO115.neB hx137 (by decide)) (fun k hk => (hO115.lt k hk).2)
              have dj152 : DJ v136 u147 := DJ.stepP ro147 dx137 (hO136.neB hx137 (by decide)) (fun k hk => (hO136.lt k hk).2)
              have hrs := hrs.keepP hx137 hO137 E149 (by omega) (by omega)
              have hrd := hrd.keepP hx137 hO137 E149 (by omega) (by omega)
              have hO60 := hO60.keepP hx137 hO137 E149 (by decide) (.inl (by decide))
              have hO98 := hO98.keepP hx137 hO137 E149 (by decide) (.inr dj143)
              have hO115 := hO115.keepP hx137 hO137 E149 (by decide) (.inr dj144)
              have hO136 := hO136.keepP hx137 hO137 E149 (by decide) (.inr dx137)
              have z_w148 := E149.size
              have hb := below_stepR hb E149 hb.size (by omega) hO137 (by omega)
              have hfi_147 := hP147.fits
              have hlr_146 := hP137.left
              refine g_true (j := 13) (dj := 150) (b := true) rfl rfl rfl (ev_hit hN97 rfl) ?_
              refine op_move (ev_base hN97 rfl s97_12) ?_
              refine g_true (j := 13) (dj := 150) (b := true) rfl rfl rfl (ev_hit hN97 rfl) ?_
              refine op_move (ev_base hN97 rfl s97_13) ?_
              refine g_true (j := 13) (dj := 150) (b := true) rfl rfl rfl (ev_hit hN97 rfl) ?_
              refine op_len_rd Try.underlying22 (ev_hit hN97 rfl) hO98.rdw ?_
              refine g_true (j := 13) (dj := 150) (b := true) rfl rfl rfl (ev_hit hN97 rfl) ?_
              refine op_sub (ev_hit hN97 rfl) (ev_hit hN97 rfl) (sub64 (by omega)) ?_
              refine g_true (j := 13) (dj := 150) (b := true) rfl rfl rfl (ev_hit hN97 rfl) ?_
              refine op_eql (ev_hit hN97 rfl) (ev_hit hN97 rfl) (fun c157 => ?_) (fun c157 => ?_)
              · -- 157T
               refine op_pick_t (ev_hit hN97 rfl) (ev_hit hN97 rfl) ?_
               refine op_assign (ev_hit hN97 rfl) ?_
               refine reg_nil ?_
               refine hK145 _ _ ?_
               refine wp_ret ?_
               refine ret1 rfl hd97 (ev_hit hN97 rfl) ⟨_, rfl, ?_⟩
               -- path 25F 29F 35F 51F 78F 93T 97F 104F 114T 124F 138T 141T 148T 157T
               exact ⟨hb, rfl⟩
              · -- 157F
               exact absurd (by rw [hpf]; have := (push_ok (r := bl) hNN (by omega) (by omega)).2.2.2.2; omega) c157
             · -- 148F
              exact absurd (by rw [hpf]; rw [(push_ok (r := bl) hNN (by omega) (by omega)).2.1]; exact (push_ok (r := bl) hNN (by omega) (by omega)).2.2.2.1.symm) c148
            · -- 141F
             exact absurd (by rw [hpf]; rw [(push_ok (r := bl) hNN (by omega) (by omega)).2.1]; exact (push_ok (r := bl) hNN (by omega) (by omega)).2.2.1) c141
           · -- 138F
            exact absurd (by rw [hpf]; exact (push_ok (r := bl) hNN (by omega) (by omega)).1) c138
         · -- 114F
          refine reg_nil ?_
          refine hK110 _ _ ?_
          refine wp_cond_false (ev_hit hN97 rfl) ?_
          refine wp_skip ?_
          refine hK109 _ _ ?_
          refine seq_any fun K153 hK153 => ?_
          refine one_reg ?_
          have hpf : True := trivial
          refine op_move (ev_base hN97 rfl s97_5) ?_
          refine op_move (ev_base hN97 rfl s97_13) ?_
          obtain ⟨L154, B154, hrx154, hbx154, hax154⟩ := hO98.rdx
          have hln154 : bl.length = (min N 200) := by first | rfl | assumption | omega | simp
          have hrx154 := hrx154.cast hln154.symm rfl
          refine op_fn (vs := [(ptr p11 0), v91]) ok11 ⟨(ev_hit hN97 rfl), ⟨(ev_hit hN97 rfl), trivial⟩⟩ (put_ret Lb bs82 n82 _ _ _ _ (by omega) hx82 hO82 hP82 (bl : By) _ _ _ hrx154 (pg_apart hax154 (hO98.neB hx82 (by decide)) dj94) hbx154) ?_
          rintro _ w157 ⟨E158, rfl, u156, n156, bs156, hx156, hO156, hP156, ro156⟩
          have dj159 : DJ v91 u156 := DJ.stepP ro156 dj94 (hO98.neB hx82 (by decide)) (fun k hk => (hO98.lt k hk).2)
          have hrs := hrs.keepP hx82 hO82 E158 (by omega) (by omega)
          have hrd := hrd.keepP hx82 hO82 E158 (by omega) (by omega)
          have hO60 := hO60.keepP hx82 hO82 E158 (by decide) (.inl (by decide))
          have hO98 := hO98.keepP hx82 hO82 E158 (by decide) (.inr dj94)
          have z_w157 := E158.size
          have hb := below_stepR hb E158 hb.size (by omega) hO82 (by omega)
          have hfi_156 := hP156.fits
          have hpk_155 := putK_rng Lb (bl : By)
          refine op_move (ev_hit hN97 rfl) ?_
          refine op_extract (ev_hit hN97 rfl) rfl ?_
          refine op_extract (ev_hit hN97 rfl) rfl ?_
          refine op_assign (ev_hit hN97 rfl) ?_
          refine op_assign (ev_hit hN97 rfl) ?_
          refine reg_nil ?_
          refine hK153 _ _ ?_
          refine seq_any fun K160 hK160 => ?_
          refine one_reg ?_
          refine op_move (ev_base hN97 rfl s97_5) ?_
          refine op_move (ev_hit hN97 rfl) ?_
          refine op_fn (vs := [(ptr p11 0), (Value.int .i64 (putK Lb bl))]) ok15 ⟨(ev_hit hN97 rfl), ⟨(ev_hit hN97 rfl), trivial⟩⟩ (get_ret (putN Lb bl) bs156 n156 _ _ _ _ (by omega) hx156 hO156 hP156 (putK Lb bl) (by omega)) ?_
          rintro _ w163 ⟨E164, v161, rfl, hO161, u162, n162, bs162, hx162, hO162, hP162, ro162, dx162⟩
          have dj165 : DJ v161 v91 := fun k hk hg => by have q1 := (hO161.lt k hk).1; have q2 := (hO98.lt k hg).2; omega
          have dj166 : DJ v161 u156 := fun k hk hg => by have q1 := (hO161.lt k hk).1; have q2 := (hO156.lt k hg).2; omega
          have dj167 : DJ v91 u162 := DJ.stepP ro162 dj159 (hO98.neB hx156 (by decide)) (fun k hk => (hO98.lt k hk).2)
          have hrs := hrs.keepP hx156 hO156 E164 (by omega) (by omega)
          have hrd := hrd.keepP hx156 hO156 E164 (by omega) (by omega)
          have hO60 := hO60.keepP hx156 hO156 E164 (by decide) (.inl (by decide))
          have hO98 := hO98.keepP hx156 hO156 E164 (by decide) (.inr dj159)
          have z_w163 := E164.size
          have hb := below_stepR hb E164 hb.size (by omega) hO156 (by omega)
          have hO161 := hO161.mono (base' := w.heap.size) (by omega)
          have hfi_162 := hP162.fits
          refine op_move (ev_hit hN97 rfl) ?_
          refine op_extract (ev_hit hN97 rfl) rfl ?_
          refine op_extract (ev_hit hN97 rfl) rfl ?_
          refine op_assign (ev_hit hN97 rfl) ?_
          refine op_assign (ev_hit hN97 rfl) ?_
          refine reg_nil ?_
          refine hK160 _ _ ?_
          refine seq_any fun K168 hK168 => ?_
          refine one_reg ?_
          refine op_move (ev_hit hN97 rfl) ?_
          refine op_eql (ev_hit hN97 rfl) rfl (fun c138 => ?_) (fun c138 => ?_)
          · -- 138T
           refine op_move (ev_hit hN97 rfl) ?_
           refine g_true (j := 2) (dj := 139) (b := true) rfl rfl rfl (ev_hit hN97 rfl) ?_
           refine op_move (ev_hit hN97 rfl) ?_
           refine g_true (j := 2) (dj := 139) (b := true) rfl rfl rfl (ev_hit hN97 rfl) ?_
           refine op_eql (ev_hit hN97 rfl) rfl (fun c141 => ?_) (fun c141 => ?_)
           · -- 141T
            refine op_pick_t (ev_hit hN97 rfl) (ev_hit hN97 rfl) ?_
            refine op_move (ev_hit hN97 rfl) ?_
            refine g_true (j := 6) (dj := 143) (b := true) rfl rfl rfl (ev_hit hN97 rfl) ?_
            refine op_move (ev_base hN97 rfl s97_13) ?_
            refine g_true (j := 6) (dj := 143) (b := true) rfl rfl rfl (ev_hit hN97 rfl) ?_
            refine op_str_of (bl := bl) Try.underlying22 Try.underlying5 Try.underlying9 (ev_hit hN97 rfl) hO98.rdw ?_
            refine g_true (j := 6) (dj := 143) (b := true) rfl rfl rfl (ev_hit hN97 rfl) ?_
            refine op_move (ev_hit hN97 rfl) ?_
            refine g_true (j := 6) (dj := 143) (b := true) rfl rfl rfl (ev_hit hN97 rfl) ?_
            refine op_str_of (bl := (getL (putN Lb bl) (putK Lb bl))) Try.underlying22 Try.underlying5 Try.underlying9 (ev_hit hN97 rfl) hO161.rdw ?_
            refine g_true (j := 6) (dj := 143) (b := true) rfl rfl rfl (ev_hit hN97 rfl) ?_
            refine op_seql (ev_hit hN97 rfl) (ev_hit hN97 rfl) (fun c148 => ?_) (fun c148 => ?_)
            · -- 148T
             refine op_pick_t (ev_hit hN97 rfl) (ev_hit hN97 rfl) ?_
             refine op_move (ev_hit hN97 rfl) ?_
             refine g_true (j := 13) (dj := 150) (b := true) rfl rfl rfl (ev_hit hN97 rfl) ?_
             refine op_move (ev_base hN97 rfl s97_5) ?_
             refine g_true (j := 13) (dj := 150) (b := true) rfl rfl rfl (ev_hit hN97 rfl) ?_
             refine op_fn (vs := [(ptr p11 0)]) ok14 ⟨(ev_hit hN97 rfl), trivial⟩ (free_ret (putN Lb bl) bs162 n162 _ _ _ _ (by omega) hx162 hO162 hP162 ) ?_
             rintro _ w171 ⟨E172, rfl, u170, n170, bs170, hx170, hO170, hP170, ro170⟩
             have dj173 : DJ v91 u170 := DJ.stepP ro170 dj167 (hO98.neB hx162 (by decide)) (fun k hk => (hO98.lt k hk).2)
             have dj174 : DJ v161 u170 := DJ.stepP ro170 dx162 (hO161.neB hx162 (by decide)) (fun k hk => (hO161.lt k hk).2)
             have hrs := hrs.keepP hx162 hO162 E172 (by omega) (by omega)
             have hrd := hrd.keepP hx162 hO162 E172 (by omega) (by omega)
             have hO60 := hO60.keepP hx162 hO162 E172 (by decide) (.inl (by decide))
             have hO98 := hO98.keepP hx162 hO162 E172 (by decide) (.inr dj167)
             have hO161 := hO161.keepP hx162 hO162 E172 (by decide) (.inr dx162)
             have z_w171 := E172.size
             have hb := below_stepR hb E172 hb.size (by omega) hO162 (by omega)
             have hfi_170 := hP170.fits
             have hlr_169 := hP162.left
             refine g_true (j := 13) (dj := 150) (b := true) rfl rfl rfl (ev_hit hN97 rfl) ?_
             refine op_move (ev_base hN97 rfl s97_12) ?_
             refine g_true (j := 13) (dj := 150) (b := true) rfl rfl rfl (ev_hit hN97 rfl) ?_
             refine op_move (ev_base hN97 rfl s97_13) ?_
             refine g_true (j := 13) (dj := 150) (b := true) rfl rfl rfl (ev_hit hN97 rfl) ?_
             refine op_len_rd Try.underlying22 (ev_hit hN97 rfl) hO98.rdw ?_
             refine g_true (j := 13) (dj := 150) (b := true) rfl rfl rfl (ev_hit hN97 rfl) ?_
             refine op_sub (ev_hit hN97 rfl) (ev_hit hN97 rfl) (sub64 (by omega)) ?_
             refine g_true (j := 13) (dj := 150) (b := true) rfl rfl rfl (ev_hit hN97 rfl) ?_
             refine op_eql (ev_hit hN97 rfl) (ev_hit hN97 rfl) (fun c157 => ?_) (fun c157 => ?_)
             · -- 157T
              refine op_pick_t (ev_hit hN97 rfl) (ev_hit hN97 rfl) ?_
              refine op_assign (ev_hit hN97 rfl) ?_
              refine reg_nil ?_
              refine hK168 _ _ ?_
              refine wp_ret ?_
              refine ret1 rfl hd97 (ev_hit hN97 rfl) ⟨_, rfl, ?_⟩
              -- path 25F 29F 35F 51F 78F 93T 97F 104F 114F 138T 141T 148T 157T
              exact ⟨hb, rfl⟩
             · -- 157F
              exact absurd (by have := (push_ok (r := bl) hNN (by omega) (by omega)).2.2.2.2; omega) c157
            · -- 148F
             exact absurd (by rw [(push_ok (r := bl) hNN (by omega) (by omega)).2.1]; exact (push_ok (r := bl) hNN (by omega) (by omega)).2.2.2.1.symm) c148
           · -- 141F
            exact absurd (by rw [(push_ok (r := bl) hNN (by omega) (by omega)).2.1]; exact (push_ok (r := bl) hNN (by omega) (by omega)).2.2.1) c141
          · -- 138F
           exact absurd (by exact (push_ok (r := bl) hNN (by omega) (by omega)).1) c138
      · -- 93F
       refine wp_skip ?_
       refine hK79 _ _ ?_
       refine seq_any fun K175 hK175 => ?_
       refine seq_any fun K176 hK176 => ?_
       refine one_reg ?_
       refine op_move (ev_hit hN67 rfl) ?_
       refine op_lss (ev_hit hN67 rfl) rfl (fun c97 => ?_) (fun c97 => ?_)
       · -- 97T
        refine reg_nil ?_
        refine hK176 _ _ ?_
        refine wp_cond_true (ev_hit hN67 rfl) ?_
        refine seq_any fun K177 hK177 => ?_
        refine one_reg ?_
        refine op_assign rfl ?_
        refine reg_nil ?_
        refine hK177 _ _ ?_
        refine wp_ret (then_ret ( ?_))
        refine ret1 rfl hd67 (ev_hit hN67 rfl) ⟨_, rfl, ?_⟩
        -- path 25F 29F 35F 51F 78F 93F 97T
        exact ⟨hb, rfl⟩
       · -- 97F
        refine reg_nil ?_
        refine hK176 _ _ ?_
        refine wp_cond_false (ev_hit hN67 rfl) ?_
        refine wp_skip ?_
        refine hK175 _ _ ?_
        refine seq_any fun K178 hK178 => ?_
        refine one_reg ?_
        obtain ⟨N, hN⟩ : ∃ N : Nat, (leftL Lb Lb.length - 4) = (N : Int) := ⟨_, (Int.toNat_of_nonneg (by omega)).symm⟩
        have hNN : leftL Lb (max Lb.length (freeL Lb + 1)) = (N : Int) := (left_dense hTb (by rw [← he3]; simpa using c93)).trans hN
        refine op_move ((ev_hit hN67 rfl).trans (congrArg (Value.int .i64) (show _ = ((N : Nat) : Int) by omega))) ?_
        refine op_min (r := ((min N 200 : Nat) : Int)) (ev_hit hN67 rfl) rfl (by omega) ?_
        refine op_make (n := (min N 200)) (y' := .const undef) slt22 (ev_hit hN67 rfl) (ev_hit hN67 rfl) rfl (by omega) (by omega) hb.size ?_
        intro v181 w179 hO182 E180 lo183
        have dj184 : DJ v181 u76 := fun k hk hg => by have q1 := lo183 k hk; have q2 := (hO76.lt k hg).2; omega
        have z_w179 := E180.size
        have hrs := hrs.keep0 E180
        have hrd := hrd.keep0 E180
        have hO60 := hO60.keep0 E180
        have hx76 := hx76.keep0 E180
        have hO76 := hO76.keep0 E180
        have hb := below_step0 hb E180 hb.size
        have hO182 : Own w179 w.heap.size 5 1 v181 (min N 200) (((List.replicate (min N 200) 0 : By)).map u8v) := by exact hO182.cast rfl (zeros_u8 _)
        refine op_assign (ev_hit hN67 rfl) ?_
        refine reg_nil ?_
        refine hK178 _ _ ?_
        refine seq_any fun K185 hK185 => ?_
        refine seq_any fun K186 hK186 => ?_
        refine one_reg ?_
        refine op_assign rfl ?_
        refine reg_nil ?_
        refine hK186 _ _ ?_
        refine wp_block ?_
        refine loop_m (fun mz_ az_ w' => ∃ (i4 : Nat) (bl : By), mz_ = (min N 200) - i4 ∧ (az_.tmps.getD 5 undef = (ptr p11 0)) ∧ (az_.tmps.getD 12 undef = (Value.int .i64 ((leftL Lb (Lb : List By).length) - 4))) ∧ (az_.tmps.getD 13 undef = v181) ∧ (az_.tmps.getD 14 undef = (Value.int .i64 ((i4 : Nat) : Int))) ∧ (i4 ≤ (min N 200)) ∧ (bl.length = (min N 200)) ∧ (Below w.heap.size w w') ∧ (w179.heap.size ≤ w'.heap.size) ∧ (RdC w' 0 w.heap.size 1 vs sizes.length (sizes.map u8v)) ∧ (RdC w' 0 w.heap.size 1 vd drops.length (drops.map u8v)) ∧ (Own w' w.heap.size 3 1 v60 (slotsI Lb Lb.length).length ((slotsI Lb Lb.length).map (Value.int .i64))) ∧ (Bx w' p11 50 [u76]) ∧ (Own w' w.heap.size 5 1 u76 n76 (bs76.map u8v)) ∧ (Own w' w.heap.size 5 1 v181 (min N 200) (bl.map u8v))) _ hN67 hd67 ⟨0, (List.replicate (min N 200) 0 : By), rfl, (sl_base hN67 rfl s67_5), (sl_hit hN67 rfl), (sl_hit hN67 rfl), (sl_hit hN67 rfl), Nat.zero_le _, List.length_replicate, hb, (Nat.le_refl _), hrs, hrd, hO60, hx76, hO76, hO182⟩ ?_
        rintro _ a187 w187 hN187 hd187 ⟨i4, bl, rfl, s187_5, s187_12, s187_13, s187_14, hi4, hbl, hb, zl_w187, hrs, hrd, hO60, hx76, hO76, hO188⟩
        have z_w187 := hb.size
        refine seq_any fun K189 hK189 => ?_
        refine seq_any fun K190 hK190 => ?_
        refine one_reg ?_
        refine op_move (ev_base hN187 rfl s187_14) ?_
        refine op_move (ev_base hN187 rfl s187_13) ?_
        refine op_len_rd Try.underlying22 (ev_hit hN187 rfl) hO188.rdw ?_
        refine op_lss (ev_hit hN187 rfl) (ev_hit hN187 rfl) (fun c104 => ?_) (fun c104 => ?_)
        · -- 104T
         refine reg_nil ?_
         refine hK190 _ _ ?_
         refine wp_cond_true (ev_hit hN187 rfl) ?_
         refine wp_skip ?_
         refine hK189 _ _ ?_
         refine seq_any fun K191 hK191 => ?_
         refine wp_block ?_
         refine one_reg ?_
         refine op_move (ev_base hN187 rfl s187_13) ?_
         refine op_move (ev_base hN187 rfl s187_14) ?_
         refine op_move (ev_base hN187 rfl s187_14) ?_
         refine op_mul (ev_hit hN187 rfl) rfl (mul64 (by omega)) ?_
         refine op_conv (r := ((UInt8.ofNat (i4 * 7)).toNat : Int)) (ev_hit hN187 rfl) us3 Try.underlying5 conv_u8 ?_
         refine op_index_own (i := i4) slt22 (ev_hit hN187 rfl) hO188 (ev_hit hN187 rfl) (by omega) (by omega) ?_
         intro b192 o193 lo_b192 hA194
         have hA194 : AtV v181 (i4) b192 o193 := by simpa using hA194
         have hP197 := hO188
         refine op_store_own (vs := [(Value.int .u8 ((UInt8.ofNat (i4 * 7)).toNat : Int))]) size5 (ev_hit hN187 rfl) (ev_hit hN187 rfl) rfl rfl rfl hP197 hA194 (by simp; omega) ?_
         intro w195 hO198 E196
         have z_w195 := E196.size
         have hrs := hrs.keepO hP197 E196 (by omega)
         have hrd := hrd.keepO hP197 E196 (by omega)
         have hO60 := hO60.keepT hP197 E196 (by decide)
         have hx76 := hx76.keepO hP197 E196 (by decide)
         have hO76 := hO76.keepD E196 dj184.symm
         have hb := below_stepO hb hP197 E196 hb.size (by omega)
         have hO198 : Own w195 w.heap.size 5 1 v181 (min N 200) (((bl.set i4 (UInt8.ofNat (i4 * 7)))).map u8v) := by exact hO198.cast rfl (set_u8 (by omega))
         refine reg_nil ?_
         refine hK191 _ _ ?_
         refine one_reg ?_
         refine op_move (ev_base hN187 rfl s187_14) ?_
         refine op_add (ev_hit hN187 rfl) rfl (add64 (by omega)) ?_
         refine op_assign (ev_hit hN187 rfl) ?_
         refine reg_nil ?_
         -- round 25F 29F 35F 51F 78F 93F 97F 104T
         exact loop_next _ hN187 hd187 ⟨i4 + 1, _, rfl, (sl_base hN187 rfl s187_5), (sl_base hN187 rfl s187_12), (sl_base hN187 rfl s187_13), (sl_hit hN187 rfl).trans (congrArg (Value.int .i64) (by omega)), (by omega), (by simp only [List.length_set]; exact hbl), hb, (by omega), hrs, hrd, hO60, hx76, hO76, hO198⟩ (by omega)
        · -- 104F
         refine reg_nil ?_
         refine hK190 _ _ ?_
         refine wp_cond_false (ev_hit hN187 rfl) ?_
         refine wp_exit (then_exit (then_exit (blk_hit ?_)))
         refine hK185 _ _ ?_
         refine seq_any fun K199 hK199 => ?_
         refine seq_any fun K200 hK200 => ?_
         refine one_reg ?_
         refine op_move (ev_base hN187 rfl s187_12) ?_
         refine op_lss (ev_hit hN187 rfl) rfl (fun c114 => ?_) (fun c114 => ?_)
         · -- 114T
          refine reg_nil ?_
          refine hK200 _ _ ?_
          refine wp_cond_true (ev_hit hN187 rfl) ?_
          refine seq_any fun K201 hK201 => ?_
          refine one_reg ?_
          refine op_move (ev_base hN187 rfl s187_5) ?_
          refine op_move ((ev_base hN187 rfl s187_12).trans (congrArg (Value.int .i64) (show _ = ((N : Nat) : Int) by omega))) ?_
          refine op_add (ev_hit hN187 rfl) rfl (add64 (by omega)) ?_
          refine op_make (n := (N + 1)) (y' := .const undef) slt22 (ev_hit hN187 rfl) (ev_hit hN187 rfl) rfl (by omega) (by omega) hb.size ?_
          intro v204 w202 hO205 E203 lo206
          have dj207 : DJ v204 u76 := fun k hk hg => by have q1 := lo206 k hk; have q2 := (hO76.lt k hg).2; omega
          have dj208 : DJ v204 v181 := fun k hk hg => by have q1 := lo206 k hk; have q2 := (hO188.lt k hg).2; omega
          have z_w202 := E203.size
          have hrs := hrs.keep0 E203
          have hrd := hrd.keep0 E203
          have hO60 := hO60.keep0 E203
          have hx76 := hx76.keep0 E203
          have hO76 := hO76.keep0 E203
          have hO188 := hO188.keep0 E203
          have hb := below_step0 hb E203 hb.size
          have hO205 : Own w202 w.heap.size 5 1 v204 (N + 1) (((List.replicate (N + 1) 0 : By)).map u8v) := by exact hO205.cast rfl (zeros_u8 _)
          obtain ⟨L209, B209, hrx209, hbx209, hax209⟩ := hO205.rdx
          have hln209 : (List.replicate (N + 1) 0 : By).length = (N + 1) := by first | rfl | assumption | omega | simp
          have hrx209 := hrx209.cast hln209.symm rfl
          refine op_fn (vs := [(ptr p11 0), v204]) ok11 ⟨(ev_hit hN187 rfl), ⟨(ev_hit hN187 rfl), trivial⟩⟩ (put_ret Lb bs76 n76 _ _ _ _ (by omega) hx76 hO76 hP76 ((List.replicate (N + 1) 0 : By) : By) _ _ _ hrx209 (pg_apart hax209 (hO205.neB hx76 (by decide)) dj207) hbx209) ?_
          rintro _ w212 ⟨E213, rfl, u211, n211, bs211, hx211, hO211, hP211, ro211⟩
          have dj214 : DJ v181 u211 := DJ.stepP ro211 dj184 (hO188.neB hx76 (by decide)) (fun k hk => (hO188.lt k hk).2)
          have dj215 : DJ v204 u211 := DJ.stepP ro211 dj207 (hO205.neB hx76 (by decide)) (fun k hk => (hO205.lt k hk).2)
          have hrs := hrs.keepP hx76 hO76 E213 (by omega) (by omega)
          have hrd := hrd.keepP hx76 hO76 E213 (by omega) (by omega)
          have hO60 := hO60.keepP hx76 hO76 E213 (by decide) (.inl (by decide))
          have hO188 := hO188.keepP hx76 hO76 E213 (by decide) (.inr dj184)
          have hO205 := hO205.keepP hx76 hO76 E213 (by decide) (.inr dj207)
          have z_w212 := E213.size
          have hb := below_stepR hb E213 hb.size (by omega) hO76 (by omega)
          have hfi_211 := hP211.fits
          have hpk_210 := putK_rng Lb ((List.replicate (N + 1) 0 : By) : By)
          refine op_move (ev_hit hN187 rfl) ?_
          refine op_extract (ev_hit hN187 rfl) rfl ?_
          refine op_extract (ev_hit hN187 rfl) rfl ?_
          refine op_assign (ev_hit hN187 rfl) ?_
          refine op_assign (ev_hit hN187 rfl) ?_
          refine reg_nil ?_
          refine hK201 _ _ ?_
          refine seq_any fun K216 hK216 => ?_
          refine one_reg ?_
          refine op_move (ev_hit hN187 rfl) ?_
          refine op_neq (ev_hit hN187 rfl) rfl (fun c124 => ?_) (fun c124 => ?_)
          · -- 124T
           exact absurd (push_full hNN (by omega) List.length_replicate).1 c124
          · -- 124F
           refine reg_nil ?_
           refine hK216 _ _ ?_
           refine wp_cond_false (ev_hit hN187 rfl) ?_
           refine wp_skip ?_
           refine hK199 _ _ ?_
           refine seq_any fun K217 hK217 => ?_
           refine one_reg ?_
           have hpf := (push_full hNN (by omega) (List.length_replicate (a := (0 : UInt8)))).2
           refine op_move (ev_base hN187 rfl s187_5) ?_
           refine op_move (ev_base hN187 rfl s187_13) ?_
           obtain ⟨L218, B218, hrx218, hbx218, hax218⟩ := hO188.rdx
           have hln218 : bl.length = (min N 200) := by first | rfl | assumption | omega | simp
           have hrx218 := hrx218.cast hln218.symm rfl
           refine op_fn (vs := [(ptr p11 0), v181]) ok11 ⟨(ev_hit hN187 rfl), ⟨(ev_hit hN187 rfl), trivial⟩⟩ (put_ret (putN Lb (List.replicate (N + 1) 0 : By)) bs211 n211 _ _ _ _ (by omega) hx211 hO211 hP211 (bl : By) _ _ _ hrx218 (pg_apart hax218 (hO188.neB hx211 (by decide)) dj214) hbx218) ?_
           rintro _ w221 ⟨E222, rfl, u220, n220, bs220, hx220, hO220, hP220, ro220⟩
           have dj223 : DJ v181 u220 := DJ.stepP ro220 dj214 (hO188.neB hx211 (by decide)) (fun k hk => (hO188.lt k hk).2)
           have dj224 : DJ v204 u220 := DJ.stepP ro220 dj215 (hO205.neB hx211 (by decide)) (fun k hk => (hO205.lt k hk).2)
           have hrs := hrs.keepP hx211 hO211 E222 (by omega) (by omega)
           have hrd := hrd.keepP hx211 hO211 E222 (by omega) (by omega)
           have hO60 := hO60.keepP hx211 hO211 E222 (by decide) (.inl (by decide))
           have hO188 := hO188.keepP hx211 hO211 E222 (by decide) (.inr dj214)
           have hO205 := hO205.keepP hx211 hO211 E222 (by decide) (.inr dj215)
           have z_w221 := E222.size
           have hb := below_stepR hb E222 hb.size (by omega) hO211 (by omega)
           have hfi_220 := hP220.fits
           have hpk_219 := putK_rng (putN Lb (List.replicate (N + 1) 0 : By)) (bl : By)
           refine op_move (ev_hit hN187 rfl) ?_
           refine op_extract (ev_hit hN187 rfl) rfl ?_
           refine op_extract (ev_hit hN187 rfl) rfl ?_
           refine op_assign (ev_hit hN187 rfl) ?_
           refine op_assign (ev_hit hN187 rfl) ?_
           refine reg_nil ?_
           refine hK217 _ _ ?_
           refine seq_any fun K225 hK225 => ?_
           refine one_reg ?_
           refine op_move (ev_base hN187 rfl s187_5) ?_
           refine op_move (ev_hit hN187 rfl) ?_
           refine op_fn (vs := [(ptr p11 0), (Value.int .i64 (putK (putN Lb (List.replicate (N + 1) 0 : By)) bl))]) ok15 ⟨(ev_hit hN187 rfl), ⟨(ev_hit hN187 rfl), trivial⟩⟩ (get_ret (putN (putN Lb (List.replicate (N + 1) 0 : By)) bl) bs220 n220 _ _ _ _ (by omega) hx220 hO220 hP220 (putK (putN Lb (List.replicate (N + 1) 0 : By)) bl) (by omega)) ?_
           rintro _ w228 ⟨E229, v226, rfl, hO226, u227, n227, bs227, hx227, hO227, hP227, ro227, dx227⟩
           have dj230 : DJ v226 v181 := fun k hk hg => by have q1 := (hO226.lt k hk).1; have q2 := (hO188.lt k hg).2; omega
           have dj231 : DJ v226 v204 := fun k hk hg => by have q1 := (hO226.lt k hk).1; have q2 := (hO205.lt k hg).2; omega
           have dj232 : DJ v226 u220 := fun k hk hg => by have q1 := (hO226.lt k hk).1; have q2 := (hO220.lt k hg).2; omega
           have dj233 : DJ v181 u227 := DJ.stepP ro227 dj223 (hO188.neB hx220 (by decide)) (fun k hk => (hO188.lt k hk).2)
           have dj234 : DJ v204 u227 := DJ.stepP ro227 dj224 (hO205.neB hx220 (by decide)) (fun k hk => (hO205.lt k hk).2)
           have hrs := hrs.keepP hx220 hO220 E229 (by omega) (by omega)
           have hrd := hrd.keepP hx220 hO220 E229 (by omega) (by omega)
           have hO60 := hO60.keepP hx220 hO220 E229 (by decide) (.inl (by decide))
           have hO188 := hO188.keepP hx220 hO220 E229 (by decide) (.inr dj223)
           have hO205 := hO205.keepP hx220 hO220 E229 (by decide) (.inr dj224)
           have z_w228 := E229.size
           have hb := below_stepR hb E229 hb.size (by omega) hO220 (by omega)
           have hO226 := hO226.mono (base' := w.heap.size) (by omega)
           have hfi_227 := hP227.fits
           refine op_move (ev_hit hN187 rfl) ?_
           refine op_extract (ev_hit hN187 rfl) rfl ?_
           refine op_extract (ev_hit hN187 rfl) rfl ?_
           refine op_assign (ev_hit hN187 rfl) ?_
           refine op_assign (ev_hit hN187 rfl) ?_
           refine reg_nil ?_
           refine hK225 _ _ ?_
           refine seq_any fun K235 hK235 => ?_
           refine one_reg ?_
           refine op_move (ev_hit hN187 rfl) ?_
           refine op_eql (ev_hit hN187 rfl) rfl (fun c138 => ?_) (fun c138 => ?_)
           · -- 138T
            refine op_move (ev_hit hN187 rfl) ?_
            refine g_true (j := 2) (dj := 139) (b := true) rfl rfl rfl (ev_hit hN187 rfl) ?_
            refine op_move (ev_hit hN187 rfl) ?_
            refine g_true (j := 2) (dj := 139) (b := true) rfl rfl rfl (ev_hit hN187 rfl) ?_
            refine op_eql (ev_hit hN187 rfl) rfl (fun c141 => ?_) (fun c141 => ?_)
            · -- 141T
             refine op_pick_t (ev_hit hN187 rfl) (ev_hit hN187 rfl) ?_
             refine op_move (ev_hit hN187 rfl) ?_
             refine g_true (j := 6) (dj := 143) (b := true) rfl rfl rfl (ev_hit hN187 rfl) ?_
             refine op_move (ev_base hN187 rfl s187_13) ?_
             refine g_true (j := 6) (dj := 143) (b := true) rfl rfl rfl (ev_hit hN187 rfl) ?_
             refine op_str_of (bl := bl) Try.underlying22 Try.underlying5 Try.underlying9 (ev_hit hN187 rfl) hO188.rdw ?_
             refine g_true (j := 6) (dj := 143) (b := true) rfl rfl rfl (ev_hit hN187 rfl) ?_
             refine op_move (ev_hit hN187 rfl) ?_
             refine g_true (j := 6) (dj := 143) (b := true) rfl rfl rfl (ev_hit hN187 rfl) ?_
             refine op_str_of (bl := (getL (putN (putN Lb (List.replicate (N + 1) 0 : By)) bl) (putK (putN Lb (List.replicate (N + 1) 0 : By)) bl))) Try.underlying22 Try.underlying5 Try.underlying9 (ev_hit hN187 rfl) hO226.rdw ?_
             refine g_true (j := 6) (dj := 143) (b := true) rfl rfl rfl (ev_hit hN187 rfl) ?_
             refine op_seql (ev_hit hN187 rfl) (ev_hit hN187 rfl) (fun c148 => ?_) (fun c148 => ?_)
             · -- 148T
              refine op_pick_t (ev_hit hN187 rfl) (ev_hit hN187 rfl) ?_
              refine op_move (ev_hit hN187 rfl) ?_
              refine g_true (j := 13) (dj := 150) (b := true) rfl rfl rfl (ev_hit hN187 rfl) ?_
              refine op_move (ev_base hN187 rfl s187_5) ?_
              refine g_true (j := 13) (dj := 150) (b := true) rfl rfl rfl (ev_hit hN187 rfl) ?_
              refine op_fn (vs := [(ptr p11 0)]) ok14 ⟨(ev_hit hN187 rfl), trivial⟩ (free_ret (putN (putN Lb (List.replicate (N + 1) 0 : By)) bl) bs227 n227 _ _ _ _ (by omega) hx227 hO227 hP227 ) ?_
              rintro _ w238 ⟨E239, rfl, u237, n237, bs237, hx237, hO237, hP237, ro237⟩
              have dj240 : DJ v181 u237 := DJ.stepP ro237 dj233 (hO188.neB hx227 (by decide)) (fun k hk => (hO188.lt k hk).2)
              have dj241 : DJ v204 u237 := DJ.stepP ro237 dj234 (hO205.neB hx227 (by decide)) (fun k hk => (hO205.lt k hk).2)
              have dj242 : DJ v226 u237 := DJ.stepP ro237 dx227 (hO226.neB hx227 (by decide)) (fun k hk => (hO226.lt k hk).2)
              have hrs := hrs.keepP hx227 hO227 E239 (by omega) (by omega)
              have hrd := hrd.keepP hx227 hO227 E239 (by omega) (by omega)
              have hO60 := hO60.keepP hx227 hO227 E239 (by decide) (.inl (by decide))
              have hO188 := hO188.keepP hx227 hO227 E239 (by decide) (.inr dj233)
              have hO205 := hO205.keepP hx227 hO227 E239 (by decide) (.inr dj234)
              have hO226 := hO226.keepP hx227 hO227 E239 (by decide) (.inr dx227)
              have z_w238 := E239.size
              have hb := below_stepR hb E239 hb.size (by omega) hO227 (by omega)
              have hfi_237 := hP237.fits
              have hlr_236 := hP227.left
              refine g_true (j := 13) (dj := 150) (b := true) rfl rfl rfl (ev_hit hN187 rfl) ?_
              refine op_move (ev_base hN187 rfl s187_12) ?_
              refine g_true (j := 13) (dj := 150) (b := true) rfl rfl rfl (ev_hit hN187 rfl) ?_
              refine op_move (ev_base hN187 rfl s187_13) ?_
              refine g_true (j := 13) (dj := 150) (b := true) rfl rfl rfl (ev_hit hN187 rfl) ?_
              refine op_len_rd Try.underlying22 (ev_hit hN187 rfl) hO188.rdw ?_
              refine g_true (j := 13) (dj := 150) (b := true) rfl rfl rfl (ev_hit hN187 rfl) ?_
              refine op_sub (ev_hit hN187 rfl) (ev_hit hN187 rfl) (sub64 (by omega)) ?_
              refine g_true (j := 13) (dj := 150) (b := true) rfl rfl rfl (ev_hit hN187 rfl) ?_
              refine op_eql (ev_hit hN187 rfl) (ev_hit hN187 rfl) (fun c157 => ?_) (fun c157 => ?_)
              · -- 157T
               refine op_pick_t (ev_hit hN187 rfl) (ev_hit hN187 rfl) ?_
               refine op_assign (ev_hit hN187 rfl) ?_
               refine reg_nil ?_
               refine hK235 _ _ ?_
               refine wp_ret ?_
               refine ret1 rfl hd187 (ev_hit hN187 rfl) ⟨_, rfl, ?_⟩
               -- path 25F 29F 35F 51F 78F 93F 97F 104F 114T 124F 138T 141T 148T 157T
               exact ⟨hb, rfl⟩
              · -- 157F
               exact absurd (by rw [hpf]; have := (push_ok (r := bl) hNN (by omega) (by omega)).2.2.2.2; omega) c157
             · -- 148F
              exact absurd (by rw [hpf]; rw [(push_ok (r := bl) hNN (by omega) (by omega)).2.1]; exact (push_ok (r := bl) hNN (by omega) (by omega)).2.2.2.1.symm) c148
            · -- 141F
             exact absurd (by rw [hpf]; rw [(push_ok (r := bl) hNN (by omega) (by omega)).2.1]; exact (push_ok (r := bl) hNN (by omega) (by omega)).2.2.1) c141
           · -- 138F
            exact absurd (by rw [hpf]; exact (push_ok (r := bl) hNN (by omega) (by omega)).1) c138
         · -- 114F
          refine reg_nil ?_
          refine hK200 _ _ ?_
          refine wp_cond_false (ev_hit hN187 rfl) ?_
          refine wp_skip ?_
          refine hK199 _ _ ?_
          refine seq_any fun K243 hK243 => ?_
          refine one_reg ?_
          have hpf : True := trivial
          refine op_move (ev_base hN187 rfl s187_5) ?_
          refine op_move (ev_base hN187 rfl s187_13) ?_
          obtain ⟨L244, B244, hrx244, hbx244, hax244⟩ := hO188.rdx
          have hln244 : bl.length = (min N 200) := by first | rfl | assumption | omega | simp
          have hrx244 := hrx244.cast hln244.symm rfl
          refine op_fn (vs := [(ptr p11 0), v181]) ok11 ⟨(ev_hit hN187 rfl), ⟨(ev_hit hN187 rfl), trivial⟩⟩ (put_ret Lb bs76 n76 _ _ _ _ (by omega) hx76 hO76 hP76 (bl : By) _ _ _ hrx244 (pg_apart hax244 (hO188.neB hx76 (by decide)) dj184) hbx244) ?_
          rintro _ w247 ⟨E248, rfl, u246, n246, bs246, hx246, hO246, hP246, ro246⟩
          have dj249 : DJ v181 u246 := DJ.stepP ro246 dj184 (hO188.neB hx76 (by decide)) (fun k hk => (hO188.lt k hk).2)
          have hrs := hrs.keepP hx76 hO76 E248 (by omega) (by omega)
          have hrd := hrd.keepP hx76 hO76 E248 (by omega) (by omega)
          have hO60 := hO60.keepP hx76 hO76 E248 (by decide) (.inl (by decide))
          have hO188 := hO188.keepP hx76 hO76 E248 (by decide) (.inr dj184)
          have z_w247 := E248.size
          have hb := below_stepR hb E248 hb.size (by omega) hO76 (by omega)
          have hfi_246 := hP246.fits
          have hpk_245 := putK_rng Lb (bl : By)
          refine op_move (ev_hit hN187 rfl) ?_
          refine op_extract (ev_hit hN187 rfl) rfl ?_
          refine op_extract (ev_hit hN187 rfl) rfl ?_
          refine op_assign (ev_hit hN187 rfl) ?_
          refine op_assign (ev_hit hN187 rfl) ?_
          refine reg_nil ?_
          refine hK243 _ _ ?_
          refine seq_any fun K250 hK250 => ?_
          refine one_reg ?_
          refine op_move (ev_base hN187 rfl s187_5) ?_
          refine op_move (ev_hit hN187 rfl) ?_
          refine op_fn (vs := [(ptr p11 0), (Value.int .i64 (putK Lb bl))]) ok15 ⟨(ev_hit hN187 rfl), ⟨(ev_hit hN187 rfl), trivial⟩⟩ (get_ret (putN Lb bl) bs246 n246 _ _ _ _ (by omega) hx246 hO246 hP246 (putK Lb bl) (by omega)) ?_
          rintro _ w253 ⟨E254, v251, rfl, hO251, u252, n252, bs252, hx252, hO252, hP252, ro252, dx252⟩
          have dj255 : DJ v251 v181 := fun k hk hg => by have q1 := (hO251.lt k hk).1; have q2 := (hO188.lt k hg).2; omega
          have dj256 : DJ v251 u246 := fun k hk hg => by have q1 := (hO251.lt k hk).1; have q2 := (hO246.lt k hg).2; omega
          have dj257 : DJ v181 u252 := DJ.stepP ro252 dj249 (hO188.neB hx246 (by decide)) (fun k hk => (hO188.lt k hk).2)
          have hrs := hrs.keepP hx246 hO246 E254 (by omega) (by omega)
          have hrd := hrd.keepP hx246 hO246 E254 (by omega) (by omega)
          have hO60 := hO60.keepP hx246 hO246 E254 (by decide) (.inl (by decide))
          have hO188 := hO188.keepP hx246 hO246 E254 (by decide) (.inr dj249)
          have z_w253 := E254.size
          have hb := below_stepR hb E254 hb.size (by omega) hO246 (by omega)
          have hO251 := hO251.mono (base' := w.heap.size) (by omega)
          have hfi_252 := hP252.fits
          refine op_move (ev_hit hN187 rfl) ?_
          refine op_extract (ev_hit hN187 rfl) rfl ?_
          refine op_extract (ev_hit hN187 rfl) rfl ?_
          refine op_assign (ev_hit hN187 rfl) ?_
          refine op_assign (ev_hit hN187 rfl) ?_
          refine reg_nil ?_
          refine hK250 _ _ ?_
          refine seq_any fun K258 hK258 => ?_
          refine one_reg ?_
          refine op_move (ev_hit hN187 rfl) ?_
          refine op_eql (ev_hit hN187 rfl) rfl (fun c138 => ?_) (fun c138 => ?_)
          · -- 138T
           refine op_move (ev_hit hN187 rfl) ?_
           refine g_true (j := 2) (dj := 139) (b := true) rfl rfl rfl (ev_hit hN187 rfl) ?_
           refine op_move (ev_hit hN187 rfl) ?_
           refine g_true (j := 2) (dj := 139) (b := true) rfl rfl rfl (ev_hit hN187 rfl) ?_
           refine op_eql (ev_hit hN187 rfl) rfl (fun c141 => ?_) (fun c141 => ?_)
           · -- 141T
            refine op_pick_t (ev_hit hN187 rfl) (ev_hit hN187 rfl) ?_
            refine op_move (ev_hit hN187 rfl) ?_
            refine g_true (j := 6) (dj := 143) (b := true) rfl rfl rfl (ev_hit hN187 rfl) ?_
            refine op_move (ev_base hN187 rfl s187_13) ?_
            refine g_true (j := 6) (dj := 143) (b := true) rfl rfl rfl (ev_hit hN187 rfl) ?_
            refine op_str_of (bl := bl) Try.underlying22 Try.underlying5 Try.underlying9 (ev_hit hN187 rfl) hO188.rdw ?_
            refine g_true (j := 6) (dj := 143) (b := true) rfl rfl rfl (ev_hit hN187 rfl) ?_
            refine op_move (ev_hit hN187 rfl) ?_
            refine g_true (j := 6) (dj := 143) (b := true) rfl rfl rfl (ev_hit hN187 rfl) ?_
            refine op_str_of (bl := (getL (putN Lb bl) (putK Lb bl))) Try.underlying22 Try.underlying5 Try.underlying9 (ev_hit hN187 rfl) hO251.rdw ?_
            refine g_true (j := 6) (dj := 143) (b := true) rfl rfl rfl (ev_hit hN187 rfl) ?_
            refine op_seql (ev_hit hN187 rfl) (ev_hit hN187 rfl) (fun c148 => ?_) (fun c148 => ?_)
            · -- 148T
             refine op_pick_t (ev_hit hN187 rfl) (ev_hit hN187 rfl) ?_
             refine op_move (ev_hit hN187 rfl) ?_
             refine g_true (j := 13) (dj := 150) (b := true) rfl rfl rfl (ev_hit hN187 rfl) ?_
             refine op_move (ev_base hN187 rfl s187_5) ?_
             refine g_true (j := 13) (dj := 150) (b := true) rfl rfl rfl (ev_hit hN187 rfl) ?_
             refine op_fn (vs := [(ptr p11 0)]) ok14 ⟨(ev_hit hN187 rfl), trivial⟩ (free_ret (putN Lb bl) bs252 n252 _ _ _ _ (by omega) hx252 hO252 hP252 ) ?_
             rintro _ w261 ⟨E262, rfl, u260, n260, bs260, hx260, hO260, hP260, ro260⟩
             have dj263 : DJ v181 u260 := DJ.stepP ro260 dj257 (hO188.neB hx252 (by decide)) (fun k hk => (hO188.lt k hk).2)
             have dj264 : DJ v251 u260 := DJ.stepP ro260 dx252 (hO251.neB hx252 (by decide)) (fun k hk => (hO251.lt k hk).2)
             have hrs := hrs.keepP hx252 hO252 E262 (by omega) (by omega)
             have hrd := hrd.keepP hx252 hO252 E262 (by omega) (by omega)
             have hO60 := hO60.keepP hx252 hO252 E262 (by decide) (.inl (by decide))
             have hO188 := hO188.keepP hx252 hO252 E262 (by decide) (.inr dj257)
             have hO251 := hO251.keepP hx252 hO252 E262 (by decide) (.inr dx252)
             have z_w261 := E262.size
             have hb := below_stepR hb E262 hb.size (by omega) hO252 (by omega)
             have hfi_260 := hP260.fits
             have hlr_259 := hP252.left
             refine g_true (j := 13) (dj := 150) (b := true) rfl rfl rfl (ev_hit hN187 rfl) ?_
             refine op_move (ev_base hN187 rfl s187_12) ?_
             refine g_true (j := 13) (dj := 150) (b := true) rfl rfl rfl (ev_hit hN187 rfl) ?_
             refine op_move (ev_base hN187 rfl s187_13) ?_
             refine g_true (j := 13) (dj := 150) (b := true) rfl rfl rfl (ev_hit hN187 rfl) ?_
             refine op_len_rd Try.underlying22 (ev_hit hN187 rfl) hO188.rdw ?_
             refine g_true (j := 13) (dj := 150) (b := true) rfl rfl rfl (ev_hit hN187 rfl) ?_
             refine op_sub (ev_hit hN187 rfl) (ev_hit hN187 rfl) (sub64 (by omega)) ?_
             refine g_true (j := 13) (dj := 150) (b := true) rfl rfl rfl (ev_hit hN187 rfl) ?_
             refine op_eql (ev_hit hN187 rfl) (ev_hit hN187 rfl) (fun c157 => ?_) (fun c157 => ?_)
             · -- 157T
              refine op_pick_t (ev_hit hN187 rfl) (ev_hit hN187 rfl) ?_
              refine op_assign (ev_hit hN187 rfl) ?_
              refine reg_nil ?_
              refine hK258 _ _ ?_
              refine wp_ret ?_
              refine ret1 rfl hd187 (ev_hit hN187 rfl) ⟨_, rfl, ?_⟩
              -- path 25F 29F 35F 51F 78F 93F 97F 104F 114F 138T 141T 148T 157T
              exact ⟨hb, rfl⟩
             · -- 157F
              exact absurd (by have := (push_ok (r := bl) hNN (by omega) (by omega)).2.2.2.2; omega) c157
            · -- 148F
             exact absurd (by rw [(push_ok (r := bl) hNN (by omega) (by omega)).2.1]; exact (push_ok (r := bl) hNN (by omega) (by omega)).2.2.2.1.symm) c148
           · -- 141F
            exact absurd (by rw [(push_ok (r := bl) hNN (by omega) (by omega)).2.1]; exact (push_ok (r := bl) hNN (by omega) (by omega)).2.2.1) c141
          · -- 138F
           exact absurd (by exact (push_ok (r := bl) hNN (by omega) (by omega)).1) c138

end Go.Proofs.Ytdhpalioifjfbaa

/- What the arguments of the laws are, told by their types. -/
namespace Go.Proofs.Ytdhpalioifjfbaa
open Go.Gx Go.RowKit
theorem rd_le {w : World} {L B sz n : Nat} {v : Value} {cs : List Value} (h : RdC w L B sz v n cs) : n ≤ 9223372036854775807 := by obtain ⟨_, _, _, _, hq, hm, _⟩ := h; exact Nat.le_trans hq hm
theorem cells5 : Try.prog.cellsOf 5 = 1 := by kernel_rfl
theorem flat_u8v (l : List UInt8) : l.flatMap (fun c => [u8v c]) = l.map u8v := by induction l with | nil => rfl | cons c l ih => simp [ih]
theorem dec22 {H : Type} {enc : TypeId × Value → H} {w : World} {base : Nat} {spare : Nat → Bool} {held : Bool} : Dec enc Try.prog w base spare held 22 (fun p : Value × List UInt8 => [p.1]) (fun p => RdC w 0 w.heap.size 1 p.1 p.2.length (p.2.map u8v)) :=
  (Dec.slice Try.underlying22 (by rw [cells5]; decide) (Dec.u8 Try.underlying5) (fun _ _ => by rw [cells5]; rfl)).map fun p hp => ⟨p, rfl, by have hq := hp.1; rwa [cells5, flat_u8v] at hq⟩
end Go.Proofs.Ytdhpalioifjfbaa
