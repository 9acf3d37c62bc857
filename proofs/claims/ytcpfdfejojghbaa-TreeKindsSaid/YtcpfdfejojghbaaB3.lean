/- Walks, written by a program: what each function of the translation hands back. -/
import Derived.Test.YtcpfdfejojghbaaB2
namespace Go.Proofs.Ytcpfdfejojghbaa
open Go.Gx Go.RowKit
attribute [local irreducible] wpList wpStill Code.wp Calls
open Go.Bt
theorem halvesLsI {p : Nat} {pv : Value} {D : List (DP (Int))} {w : World} (hx : Bx w p 115 [pv, .slice none 0 0, .slice none 0 0]) (op : Own w 0 51 2 pv D.length (D.flatMap cI)) (h6 : D.length ≤ 6) : Ret Try.prog 86 #[(ptr p 0)] w (fun v' w' => v' = .tuple #[.slice none 0 0, .pointer none] ∧ w' = w) := by
 refine enter (N := 104) Try.func86 rfl rfl (by simp) fun a0 hN hd hA => ?_
 have s0 : a0.tmps.getD 0 undef = (ptr p 0) := hA 0 (by simp)
 clear hA
 refine seq_any fun K1 hK1 => one_reg (op_assign rfl (op_assign rfl ?_))
 refine reg_nil (hK1 _ _ (seq_any fun K3 hK3 => seq_any fun K4 hK4 => one_reg (op_move (ev_base hN rfl s0) (op_fn (vs := [(ptr p 0)]) ok52 ⟨(ev_hit hN rfl), trivial⟩ (Ret.flip (sizeLI hx op)) ?_))))
 rintro _ _ ⟨rfl, rfl⟩
 refine op_leq (ev_hit hN rfl) rfl (fun c10 => ?_) (fun c10 => ?_)
 · -- 10T
  refine reg_nil (hK4 _ _ (wp_cond_true (ev_hit hN rfl) ?_))
  refine seq_any fun K5 hK5 => one_reg (op_assign rfl (op_assign rfl (reg_nil (hK5 _ _ (wp_ret (then_ret ( ?_)))))))
  refine ret2 rfl hd (ev_hit hN rfl) (ev_hit hN rfl) ⟨_, rfl, ?_⟩
  exact ⟨rfl, rfl⟩
 · -- 10F
  exfalso; omega

theorem halvesNsI {p : Nat} {kv cv : Value} {K : List DK} {P : List Nat} {w : World} (hx : Bx w p 115 [.slice none 0 0, kv, cv]) (ok : Own w 0 27 1 kv K.length (K.flatMap cK)) (oc : Own w 0 69 1 cv P.length (P.flatMap cN)) (hP : P.length = K.length + 1) (h6 : K.length ≤ 6) : Ret Try.prog 86 #[(ptr p 0)] w (fun v' w' => v' = .tuple #[.slice none 0 0, .pointer none] ∧ w' = w) := by
 refine enter (N := 104) Try.func86 rfl rfl (by simp) fun a0 hN hd hA => ?_
 have s0 : a0.tmps.getD 0 undef = (ptr p 0) := hA 0 (by simp)
 clear hA
 refine seq_any fun K1 hK1 => one_reg (op_assign rfl (op_assign rfl ?_))
 refine reg_nil (hK1 _ _ (seq_any fun K3 hK3 => seq_any fun K4 hK4 => one_reg (op_move (ev_base hN rfl s0) (op_fn (vs := [(ptr p 0)]) ok52 ⟨(ev_hit hN rfl), trivial⟩ (Ret.flip (sizeNI hx ok oc (by omega) (by omega))) ?_))))
 rintro _ _ ⟨rfl, rfl⟩
 refine op_leq (ev_hit hN rfl) rfl (fun c10 => ?_) (fun c10 => ?_)
 · -- 10T
  refine reg_nil (hK4 _ _ (wp_cond_true (ev_hit hN rfl) ?_))
  refine seq_any fun K5 hK5 => one_reg (op_assign rfl (op_assign rfl (reg_nil (hK5 _ _ (wp_ret (then_ret ( ?_)))))))
  refine ret2 rfl hd (ev_hit hN rfl) (ev_hit hN rfl) ⟨_, rfl, ?_⟩
  exact ⟨rfl, rfl⟩
 · -- 10F
  exfalso; omega

theorem halvesLbI {p : Nat} {pv : Value} {D : List (DP (Int))} {w : World} (hx : Bx w p 115 [pv, .slice none 0 0, .slice none 0 0]) (op : Own w 0 51 2 pv D.length (D.flatMap cI)) (ks : ∀ x9 ∈ D.map pk, Own w 0 5 1 x9.1 x9.2.length (x9.2.map u8v)) (h6 : 6 < D.length) (hn : D.length ≤ 1000) : Ret Try.prog 86 #[(ptr p 0)] w (fun v' w' => Gr w w' (fun y => y = p) ∧ ∃ q qv, v' = .tuple #[((D.drop (D.length - 3)).getD 0 default).1, ptr q 0] ∧ Bx w' p 115 [hiV pv (D.length - 3), .slice none 0 0, .slice none 0 0] ∧ Own w' 0 51 2 (hiV pv (D.length - 3)) (D.take (D.length - 3)).length ((D.take (D.length - 3)).flatMap cI) ∧ w.heap.size ≤ q ∧ Bx w' q 115 [qv, .slice none 0 0, .slice none 0 0] ∧ Own w' w.heap.size 51 2 qv (D.drop (D.length - 3)).length ((D.drop (D.length - 3)).flatMap cI)) := by
 have hi_p := hx.lt
 obtain ⟨cp, hcp1, hcp2, hcp3⟩ := op.cap
 have hb := Gr.refl w (fun y => y = p)
 refine enter (N := 104) Try.func86 rfl rfl (by simp) fun a0 hN hd hA => ?_
 have s0 : a0.tmps.getD 0 undef = (ptr p 0) := hA 0 (by simp)
 clear hA
 refine seq_any fun K4 hK4 => one_reg (op_assign rfl (op_assign rfl ?_))
 refine reg_nil (hK4 _ _ (seq_any fun K5 hK5 => seq_any fun K7 hK7 => one_reg (op_move (ev_base hN rfl s0) (op_fn (vs := [(ptr p 0)]) ok52 ⟨(ev_hit hN rfl), trivial⟩ (Ret.flip (sizeLI hx op)) ?_))))
 rintro _ _ ⟨rfl, rfl⟩
 refine op_leq (ev_hit hN rfl) rfl (fun c10 => ?_) (fun c10 => ?_)
 · -- 10T
  exfalso; omega
 · -- 10F
  refine reg_nil (hK7 _ _ (wp_cond_false (ev_hit hN rfl) ?_))
  refine wp_skip ?_
  refine hK5 _ _ (seq_any fun K11 hK11 => one_reg (op_build (pv := []) (v := (Value.agg #[(Value.slice none 0 0), (Value.slice none 0 0), (Value.slice none 0 0)])) trivial (by kernel_rfl) ?_))
  refine op_box (cs := [(Value.slice none 0 0), (Value.slice none 0 0), (Value.slice none 0 0)]) (ev_hit hN rfl) rfl ?_
  intro w12 b13 lo_b13 hi_b13 hB15 E14
  have z_w12 := E14.size
  have hx := hx.keep0 E14
  have op := op.keep0 E14
  have ks := all9 ks fun _ h => h.keep0 E14
  have hb := hb.step0 E14
  refine op_assign (ev_hit hN rfl) ?_
  refine reg_nil (hK11 _ _ (seq_any fun K16 hK16 => seq_any fun K17 hK17 => one_reg (op_move (ev_base hN rfl s0) (op_fn (vs := [(ptr p 0)]) ok81 ⟨(ev_hit hN rfl), trivial⟩ (Ret.flip (leafLI hx op)) ?_))))
  rintro _ _ ⟨rfl, rfl⟩
  refine reg_nil (hK17 _ _ (wp_cond_true (ev_hit hN rfl) ?_))
  refine seq_any fun K18 hK18 => one_reg (op_move (ev_base hN rfl s0) (op_nil (ev_hit hN rfl) (op_field fld115_0 (ev_hit hN rfl) (op_load1 (v := pv) one48 (ev_hit hN rfl) (hx.cell rfl) (op_len_rd Try.underlying48 (ev_hit hN rfl) op.rdw ?_)))))
  refine op_sub (r := ((D.length - 3 : Nat) : Int)) (ev_hit hN rfl) rfl ((sub64 (by omega)).trans (by omega)) ?_
  refine op_assign (ev_hit hN rfl) ?_
  refine reg_nil (hK18 _ _ (seq_any fun K19 hK19 => one_reg ?_))
  refine op_move (ev_hit hN rfl) (op_move (ev_base hN rfl s0) (op_nil (ev_hit hN rfl) (op_field fld115_0 (ev_hit hN rfl) (op_load1 (v := pv) one48 (ev_hit hN rfl) (hx.cell rfl) (op_move (ev_hit hN rfl) (op_slice_cutS (k := (D.length - 3)) slt48 (ev_hit hN rfl) op (ev_hit hN rfl) (by omega) (by omega) ?_))))))
  refine op_fn (vs := [(cutS 2 pv (D.length - 3))]) ok89 ⟨(ev_hit hN rfl), trivial⟩ (clPI (RdC.mono (((op.cutO (k := (D.length - 3)) (by omega)).rdw).cast (by simp) (flat_drop cI_len _ _)) (Nat.zero_le _) (Nat.le_refl _)) (by simp; omega) (one_pI ks (fun _ h => List.mem_of_mem_drop h))) ?_
  rintro v20 w21 ⟨E22, hO20⟩
  have E22 := grown_of_below E22
  have z_w21 := E22.size
  have hx := hx.keep0 E22
  have op := op.keep0 E22
  have hB15 := hB15.keep0 E22
  have hb := hb.step0 E22
  have hO20 := hO20.mono (base' := w.heap.size) (by omega)
  skip
  refine op_nil (ev_hit hN rfl) (op_field fld115_0 (ev_hit hN rfl) ?_)
  have hB15_old := hB15
  refine op_store (vs := [v20]) (cs' := [v20, (Value.slice none 0 0), (Value.slice none 0 0)]) size48 (ev_hit hN rfl) (ev_hit hN rfl) hO20.cl rfl (by simp only [List.all_cons, List.all_nil, Bool.true_and, Bool.and_true, hO20.one]; try rfl) hB15 (Nat.le_of_ble_eq_true rfl) rfl ?_
  intro w23 hB15 E24
  have z_w23 := E24.size
  have hx := hx.keep E24 (by simp; omega)
  have op := op.keepX hB15_old E24 (by decide)
  have hO20 := hO20.keepX hB15_old E24 (by decide)
  have hb := hb.step1 E24 (by omega)
  refine reg_nil (hK19 _ _ (seq_any fun K25 hK25 => one_reg ?_))
  refine op_move (ev_base hN rfl s0) (op_move (ev_base hN rfl s0) (op_nil (ev_hit hN rfl) (op_field fld115_0 (ev_hit hN rfl) (op_load1 (v := pv) one48 (ev_hit hN rfl) (hx.cell rfl) (op_move (ev_hit hN rfl) (op_slice_hiC (m := (D.length - 3)) slt48 (ev_hit hN rfl) hcp3 (ev_hit hN rfl) (by omega) (by omega) ?_))))))
  refine op_nil (ev_hit hN rfl) (op_field fld115_0 (ev_hit hN rfl) ?_)
  have hx_old := hx
  refine op_store (vs := [(hiV pv (D.length - 3))]) (cs' := [(hiV pv (D.length - 3)), (Value.slice none 0 0), (Value.slice none 0 0)]) size48 (ev_hit hN rfl) (ev_hit hN rfl) (own_cl (op.hiCut (k := (D.length - 3)) (by omega))) rfl (by simp only [List.all_cons, List.all_nil, Bool.true_and, Bool.and_true, (own_one (op.hiCut (k := (D.length - 3)) (by omega)))]; try rfl) hx (Nat.le_of_ble_eq_true rfl) rfl ?_
  intro w26 hx E28
  have z_w26 := E28.size
  have op := op.keepX hx_old E28 (by decide)
  have hO20 := hO20.keepX hx_old E28 (by decide)
  have hB15 := hB15.keep E28 (by simp; omega)
  have hb := hb.stepB E28 rfl
  refine reg_nil (hK25 _ _ ?_)
  refine seq_any fun K29 hK29 => one_reg (op_move (ev_hit hN rfl) (op_nil (ev_hit hN rfl) (op_field fld115_0 (ev_hit hN rfl) (op_load1 (v := v20) one48 (ev_hit hN rfl) (hB15.cell rfl) (op_index_rd slt48 (ev_hit hN rfl) hO20.rdw rfl (by omega) (by first | omega | (simp only [List.length_drop, List.length_take]; omega)) ?_)))))
  intro b30 o31 h0b30 h1b30 hc32
  refine op_field fld51_0 (ev_hit hN rfl) (op_load1 (v := ((D.drop (D.length - 3)).getD 0 default).1) one27 (ev_hit hN rfl) (hc32 0 (((D.drop (D.length - 3)).getD 0 default).1) (by decide) ((el_pI (i := 0) (by omega) (by first | omega | (simp only [List.length_drop, List.length_take]; omega))) 0 (((D.drop (D.length - 3)).getD 0 default).1) rfl)) (op_move (ev_hit hN rfl) (op_assign (ev_hit hN rfl) ?_)))
  refine op_assign (ev_hit hN rfl) ?_
  refine reg_nil (hK29 _ _ (wp_ret (then_ret ( ?_))))
  refine ret2 rfl hd (ev_hit hN rfl) (ev_hit hN rfl) ⟨_, rfl, ?_⟩
  exact ⟨hb, b13, v20, rfl, hx, (op.hiCut (k := (D.length - 3)) (by omega)).cast (by simp) (flat_take cI_len _ _), by omega, hB15, hO20⟩

theorem halvesNbI {p : Nat} {kv cv : Value} {K : List DK} {P : List Nat} {w : World} (hx : Bx w p 115 [.slice none 0 0, kv, cv]) (ok : Own w 0 27 1 kv K.length (K.flatMap cK)) (oc : Own w 0 69 1 cv P.length (P.flatMap cN)) (ks : ∀ x9 ∈ K, Own w 0 5 1 x9.1 x9.2.length (x9.2.map u8v)) (hP : P.length = K.length + 1) (h6 : 6 < K.length) (hn : K.length ≤ 900) : Ret Try.prog 86 #[(ptr p 0)] w (fun v' w' => Gr w w' (fun y => y = p) ∧ ∃ q qk qc, v' = .tuple #[(K.getD (K.length / 2) default).1, ptr q 0] ∧ Bx w' p 115 [.slice none 0 0, hiV kv (K.length / 2), hiV cv ((K.length / 2) + 1)] ∧ Own w' 0 27 1 (hiV kv (K.length / 2)) (K.take (K.length / 2)).length ((K.take (K.length / 2)).flatMap cK) ∧ Own w' 0 69 1 (hiV cv ((K.length / 2) + 1)) (P.take ((K.length / 2) + 1)).length ((P.take ((K.length / 2) + 1)).flatMap cN) ∧ w.heap.size ≤ q ∧ Bx w' q 115 [.slice none 0 0, qk, qc] ∧ Own w' w.heap.size 27 1 qk (K.drop ((K.length / 2) + 1)).length ((K.drop ((K.length / 2) + 1)).flatMap cK) ∧ Own w' w.heap.size 69 1 qc (P.drop ((K.length / 2) + 1)).length ((P.drop ((K.length / 2) + 1)).flatMap cN)) := by
 have hi_p := hx.lt
 obtain ⟨ck, hck1, hck2, hck3⟩ := ok.cap
 obtain ⟨cc, hcc1, hcc2, hcc3⟩ := oc.cap
 have hb := Gr.refl w (fun y => y = p)
 refine enter (N := 104) Try.func86 rfl rfl (by simp) fun a0 hN hd hA => ?_
 have s0 : a0.tmps.getD 0 undef = (ptr p 0) := hA 0 (by simp)
 clear hA
 refine seq_any fun K5 hK5 => one_reg (op_assign rfl (op_assign rfl ?_))
 refine reg_nil (hK5 _ _ (seq_any fun K11 hK11 => seq_any fun K12 hK12 => one_reg (op_move (ev_base hN rfl s0) (op_fn (vs := [(ptr p 0)]) ok52 ⟨(ev_hit hN rfl), trivial⟩ (Ret.flip (sizeNI hx ok oc (by omega) (by omega))) ?_))))
 rintro _ _ ⟨rfl, rfl⟩
 refine op_leq (ev_hit hN rfl) rfl (fun c10 => ?_) (fun c10 => ?_)
 · -- 10T
  exfalso; omega
 · -- 10F
  refine reg_nil (hK12 _ _ (wp_cond_false (ev_hit hN rfl) ?_))
  refine wp_skip ?_
  refine hK11 _ _ (seq_any fun K13 hK13 => one_reg (op_build (pv := []) (v := (Value.agg #[(Value.slice none 0 0), (Value.slice none 0 0), (Value.slice none 0 0)])) trivial (by kernel_rfl) ?_))
  refine op_box (cs := [(Value.slice none 0 0), (Value.slice none 0 0), (Value.slice none 0 0)]) (ev_hit hN rfl) rfl ?_
  intro w14 b15 lo_b15 hi_b15 hB17 E16
  have z_w14 := E16.size
  have hx := hx.keep0 E16
  have ok := ok.keep0 E16
  have oc := oc.keep0 E16
  have ks := all9 ks fun _ h => h.keep0 E16
  have hb := hb.step0 E16
  refine op_assign (ev_hit hN rfl) ?_
  refine reg_nil (hK13 _ _ (seq_any fun K18 hK18 => seq_any fun K19 hK19 => one_reg (op_move (ev_base hN rfl s0) (op_fn (vs := [(ptr p 0)]) ok81 ⟨(ev_hit hN rfl), trivial⟩ (Ret.flip (leafNI hx ok oc (by omega) (by omega))) ?_))))
  rintro _ _ ⟨rfl, rfl⟩
  refine reg_nil (hK19 _ _ (wp_cond_false (ev_hit hN rfl) ?_))
  refine wp_skip ?_
  refine hK18 _ _ ?_
  refine seq_any fun K20 hK20 => one_reg (op_move (ev_base hN rfl s0) (op_nil (ev_hit hN rfl) (op_field fld115_1 (ev_hit hN rfl) (op_load1 (v := kv) one90 (ev_hit hN rfl) (hx.cell rfl) (op_len_rd Try.underlying90 (ev_hit hN rfl) ok.rdw ?_)))))
  refine op_quo (r := ((K.length / 2 : Nat) : Int)) (ev_hit hN rfl) rfl (by decide) (by rw [IntKind.wrap_i64, Int.tdiv_eq_ediv_of_nonneg (by omega)]; omega) ?_
  refine op_assign (ev_hit hN rfl) ?_
  refine reg_nil (hK20 _ _ (seq_any fun K21 hK21 => ?_))
  refine one_reg (op_move (ev_base hN rfl s0) (op_nil (ev_hit hN rfl) (op_field fld115_1 (ev_hit hN rfl) (op_load1 (v := kv) one90 (ev_hit hN rfl) (hx.cell rfl) (op_move (ev_hit hN rfl) (op_index_rd slt90 (ev_hit hN rfl) ok.rdw (ev_hit hN rfl) (by omega) (by omega) ?_))))))
  intro b22 o23 h0b22 h1b22 hc24
  refine op_load1 (v := (K.getD (K.length / 2) default).1) one27 (ev_hit hN rfl) (by have := hc24 0 (K.getD (K.length / 2) default).1 (by decide) (el_kd (i := (K.length / 2)) (by omega) (by first | omega | (simp only [List.length_drop, List.length_take]; omega))); simpa using this) (op_assign (ev_hit hN rfl) ?_)
  refine reg_nil (hK21 _ _ (seq_any fun K25 hK25 => reg_split (hd := [_, _, _, _, _, _, _, _, _, _, _, _, _, _, _, _, _, _, _, _, _]) (tl := _) 21 mixed (by kernel_rfl) rfl rfl ?_))
  refine any_env (φ := phiV [(fun uz => uz = (ptr b15 0)), (fun uz => uz = (ptr b15 0)), (fun uz => uz = (ptr p 0)), (fun uz => uz = (ptr p 0)), (fun uz => uz = (ptr p 1)), (fun uz => uz = kv), (fun uz => uz = (Value.int .i64 ((K.length / 2 : Nat) : Int))), (fun uz => uz = (Value.int .i64 (((K.length / 2 : Nat) : Int) + 1))), (fun uz => uz = (cutS 1 kv ((K.length / 2) + 1))), (fun _ => True), (fun uz => uz = (ptr p 0)), (fun uz => uz = (ptr p 0)), (fun uz => uz = (ptr p 2)), (fun uz => uz = cv), (fun uz => uz = (Value.int .i64 ((K.length / 2 : Nat) : Int))), (fun uz => uz = (Value.int .i64 (((K.length / 2 : Nat) : Int) + 1))), (fun uz => uz = (cutS 1 cv ((K.length / 2) + 1))), (fun _ => True), (fun uz => uz = (ptr b15 0)), (fun uz => uz = (ptr b15 1)), (fun _ => True)]) (G := fun w' => Bx w' p 115 [(Value.slice none 0 0), kv, cv]) [9, 17, 20] (by kernel_rfl) (by kernel_rfl) (by kernel_rfl) (by kernel_rfl) hN (fun w1 w2 E h => h.keep0 E) hx (ObEs.cons ?_ (ObEs.cons ?_ (ObEs.cons ?_ (ObEs.cons ?_ (ObEs.cons ?_ (ObEs.cons ?_ (ObEs.cons ?_ (ObEs.cons ?_ (ObEs.cons ?_ (ObEs.pass rfl (ObEs.cons ?_ (ObEs.cons ?_ (ObEs.cons ?_ (ObEs.cons ?_ (ObEs.cons ?_ (ObEs.cons ?_ (ObEs.cons ?_ (ObEs.pass rfl (ObEs.cons ?_ (ObEs.cons ?_ (ObEs.pass rfl (ObEs.nil)))))))))))))))))))))) (by simp only [putsL_defers]) ?_
  ·
   intro eA aA wA hNA hGA hbsA hdpA
   have qA_4 := (hbsA 4 rfl).trans (sl_hit hN rfl)
   refine op_move (ev_base hNA rfl qA_4) ?_
   exact obE_end rfl rfl rfl
  ·
   intro eA aA wA hNA hGA hbsA hdpA
   have qA_4 := (hbsA 4 rfl).trans (sl_hit hN rfl)
   refine op_move (ev_base hNA rfl qA_4) ?_
   exact obE_end rfl rfl rfl
  ·
   intro eA aA wA hNA hGA hbsA hdpA
   have qA_0 := (hbsA 0 rfl).trans (sl_base hN rfl s0)
   refine op_move (ev_base hNA rfl qA_0) ?_
   exact obE_end rfl rfl rfl
  ·
   intro eA aA wA hNA hGA hbsA hdpA
   have qA_63 : Sl aA 63 (ptr p 0) := (hdpA 2 _ 63 (by kernel_rfl) rfl rfl).2 rfl
   refine op_nil (ev_base hNA rfl qA_63) ?_
   exact obE_end rfl rfl rfl
  ·
   intro eA aA wA hNA hGA hbsA hdpA
   have qA_64 : Sl aA 64 (ptr p 0) := (hdpA 3 _ 64 (by kernel_rfl) rfl rfl).2 rfl
   refine op_field fld115_1 (ev_base hNA rfl qA_64) ?_
   exact obE_end rfl rfl rfl
  ·
   intro eA aA wA hNA hGA hbsA hdpA
   have qA_65 : Sl aA 65 (ptr p 1) := (hdpA 4 _ 65 (by kernel_rfl) rfl rfl).2 rfl
   refine op_load1 (v := kv) one90 (ev_base hNA rfl qA_65) (hGA.cell rfl) ?_
   exact obE_end rfl rfl rfl
  ·
   intro eA aA wA hNA hGA hbsA hdpA
   have qA_6 := (hbsA 6 rfl).trans (sl_hit hN rfl)
   refine op_move (ev_base hNA rfl qA_6) ?_
   exact obE_end rfl rfl rfl
  ·
   intro eA aA wA hNA hGA hbsA hdpA
   have qA_67 : Sl aA 67 (Value.int .i64 ((K.length / 2 : Nat) : Int)) := (hdpA 6 _ 67 (by kernel_rfl) rfl rfl).2 rfl
   refine op_add (ev_base hNA rfl qA_67) rfl (add64 (by omega)) ?_
   exact obE_end rfl rfl rfl
  ·
   intro eA aA wA hNA hGA hbsA hdpA
   have qA_66 : Sl aA 66 kv := (hdpA 5 _ 66 (by kernel_rfl) rfl rfl).2 rfl
   have qA_68 : Sl aA 68 (Value.int .i64 (((K.length / 2 : Nat) : Int) + 1)) := (hdpA 7 _ 68 (by kernel_rfl) rfl rfl).2 rfl
   refine op_slice_cutS (k := (K.length / 2) + 1) slt90 (ev_base hNA rfl qA_66) ok (ev_base hNA rfl qA_68) (by omega) (by omega) ?_
   exact obE_end rfl rfl rfl
  ·
   intro eA aA wA hNA hGA hbsA hdpA
   have qA_0 := (hbsA 0 rfl).trans (sl_base hN rfl s0)
   refine op_move (ev_base hNA rfl qA_0) ?_
   exact obE_end rfl rfl rfl
  ·
   intro eA aA wA hNA hGA hbsA hdpA
   have qA_71 : Sl aA 71 (ptr p 0) := (hdpA 10 _ 71 (by kernel_rfl) rfl rfl).2 rfl
   refine op_nil (ev_base hNA rfl qA_71) ?_
   exact obE_end rfl rfl rfl
  ·
   intro eA aA wA hNA hGA hbsA hdpA
   have qA_72 : Sl aA 72 (ptr p 0) := (hdpA 11 _ 72 (by kernel_rfl) rfl rfl).2 rfl
   refine op_field fld115_2 (ev_base hNA rfl qA_72) ?_
   exact obE_end rfl rfl rfl
  ·
   intro eA aA wA hNA hGA hbsA hdpA
   have qA_73 : Sl aA 73 (ptr p 2) := (hdpA 12 _ 73 (by kernel_rfl) rfl rfl).2 rfl
   refine op_load1 (v := cv) one113 (ev_base hNA rfl qA_73) (hGA.cell rfl) ?_
   exact obE_end rfl rfl rfl
  ·
   intro eA aA wA hNA hGA hbsA hdpA
   have qA_6 := (hbsA 6 rfl).trans (sl_hit hN rfl)
   refine op_move (ev_base hNA rfl qA_6) ?_
   exact obE_end rfl rfl rfl
  ·
   intro eA aA wA hNA hGA hbsA hdpA
   have qA_75 : Sl aA 75 (Value.int .i64 ((K.length / 2 : Nat) : Int)) := (hdpA 14 _ 75 (by kernel_rfl) rfl rfl).2 rfl
   refine op_add (ev_base hNA rfl qA_75) rfl (add64 (by omega)) ?_
   exact obE_end rfl rfl rfl
  ·
   intro eA aA wA hNA hGA hbsA hdpA
   have qA_74 : Sl aA 74 cv := (hdpA 13 _ 74 (by kernel_rfl) rfl rfl).2 rfl
   have qA_76 : Sl aA 76 (Value.int .i64 (((K.length / 2 : Nat) : Int) + 1)) := (hdpA 15 _ 76 (by kernel_rfl) rfl rfl).2 rfl
   refine op_slice_cutS (k := (K.length / 2) + 1) slt113 (ev_base hNA rfl qA_74) oc (ev_base hNA rfl qA_76) (by omega) (by omega) ?_
   exact obE_end rfl rfl rfl
  ·
   intro eA aA wA hNA hGA hbsA hdpA
   have qA_61 : Sl aA 61 (ptr b15 0) := (hdpA 0 _ 61 (by kernel_rfl) rfl rfl).2 rfl
   refine op_nil (ev_base hNA rfl qA_61) ?_
   exact obE_end rfl rfl rfl
  ·
   intro eA aA wA hNA hGA hbsA hdpA
   have qA_79 : Sl aA 79 (ptr b15 0) := (hdpA 18 _ 79 (by kernel_rfl) rfl rfl).2 rfl
   refine op_field fld115_1 (ev_base hNA rfl qA_79) ?_
   exact obE_end rfl rfl rfl
  ·
   intro w26 E26 _ a26 hN26 hbs26 hdp26 o_ ho_; obtain rfl := Option.some.inj ho_
   have z_w26 := E26.size
   have hx := hx.keep0 E26
   have ok := ok.keep0 E26
   have oc := oc.keep0 E26
   have ks := all9 ks fun _ h => h.keep0 E26
   have hB17 := hB17.keep0 E26
   have hb := hb.step0 E26
   have q26_69 : Sl a26 69 (cutS 1 kv ((K.length / 2) + 1)) := (hdp26 8 _ 69 (by kernel_rfl) rfl rfl).2 rfl
   refine op_fn (vs := [(cutS 1 kv ((K.length / 2) + 1))]) ok90 ⟨(ev_base hN26 rfl q26_69), trivial⟩ (clK (RdC.mono (((ok.cutO (k := (K.length / 2) + 1) (by omega)).rdw).cast (by simp) (flat_drop cK_len _ _)) (Nat.zero_le _) (Nat.le_refl _)) (by simp; omega) (one_kd ks (fun _ h => List.mem_of_mem_drop h))) ?_
   rintro v28 w29 ⟨E30, hO28⟩
   have E30 := grown_of_below E30
   have z_w29 := E30.size
   have hx := hx.keep0 E30
   have ok := ok.keep0 E30
   have oc := oc.keep0 E30
   have hB17 := hB17.keep0 E30
   have hb := hb.step0 E30
   have hO28 := hO28.mono (base' := w.heap.size) (by omega)
   skip
   refine ke_end rfl (by decide) rfl hx ?_
   intro w31 E31 _ a31 hN31 hbs31 hdp31 o_ ho_; obtain rfl := Option.some.inj ho_
   have z_w31 := E31.size
   have hx := hx.keep0 E31
   have ok := ok.keep0 E31
   have oc := oc.keep0 E31
   have hB17 := hB17.keep0 E31
   have hO28 := hO28.keep0 E31
   have hb := hb.step0 E31
   have q31_77 : Sl a31 77 (cutS 1 cv ((K.length / 2) + 1)) := (hdp31 16 _ 77 (by kernel_rfl) rfl rfl).2 rfl
   refine op_fn (vs := [(cutS 1 cv ((K.length / 2) + 1))]) ok119 ⟨(ev_base hN31 rfl q31_77), trivial⟩ (clNI (RdC.mono (((oc.cutO (k := (K.length / 2) + 1) (by omega)).rdw).cast (by simp) (flat_drop cN_len _ _)) (Nat.zero_le _) (Nat.le_refl _)) (by simp; omega)) ?_
   rintro v32 w33 ⟨E34, hO32⟩
   have E34 := grown_of_below E34
   have z_w33 := E34.size
   have hx := hx.keep0 E34
   have ok := ok.keep0 E34
   have oc := oc.keep0 E34
   have hB17 := hB17.keep0 E34
   have hO28 := hO28.keep0 E34
   have hb := hb.step0 E34
   have hO32 := hO32.mono (base' := w.heap.size) (by omega)
   skip
   refine ke_end rfl (by decide) rfl hx ?_
   intro w35 E35 _ a35 hN35 hbs35 hdp35 o_ ho_; obtain rfl := Option.some.inj ho_
   have z_w35 := E35.size
   have hx := hx.keep0 E35
   have ok := ok.keep0 E35
   have oc := oc.keep0 E35
   have hB17 := hB17.keep0 E35
   have hO28 := hO28.keep0 E35
   have hO32 := hO32.keep0 E35
   have hb := hb.step0 E35
   have q35_80 : Sl a35 80 (ptr b15 1) := (hdp35 19 _ 80 (by kernel_rfl) rfl rfl).2 rfl
   have q35_70 : Sl a35 70 v28 := (Option.some.inj ((hdp35 9 _ 70 (by kernel_rfl) rfl rfl).1 0 rfl)).symm
   have hB17_old := hB17
   refine op_store (vs := [v28]) (cs' := [(Value.slice none 0 0), v28, (Value.slice none 0 0)]) size90 (ev_base hN35 rfl q35_80) (ev_base hN35 rfl q35_70) hO28.cl rfl (by simp only [List.all_cons, List.all_nil, Bool.true_and, Bool.and_true, hO28.one]; try rfl) hB17 (Nat.le_of_ble_eq_true rfl) rfl ?_
   intro w36 hB17 E37
   have z_w36 := E37.size
   have hx := hx.keep E37 (by simp; omega)
   have ok := ok.keepX hB17_old E37 (by decide)
   have oc := oc.keepX hB17_old E37 (by decide)
   have hO28 := hO28.keepX hB17_old E37 (by decide)
   have hO32 := hO32.keepX hB17_old E37 (by decide)
   have hb := hb.step1 E37 (by omega)
   refine ke_end0 rfl hx ?_
   intro w38 E38 a38 hN38 hd38 hbs38 hph38
   have hd38 := hd38.trans ((by simp only [putsL_defers] : _ = _).trans hd)
   have z_w38 := E38.size
   have hx := hx.keep0 E38
   have ok := ok.keep0 E38
   have oc := oc.keep0 E38
   have hO28 := hO28.keep0 E38
   have hO32 := hO32.keep0 E38
   have hB17 := hB17.keep0 E38
   have hb := hb.step0 E38
   have s38_0 := (hbs38 0 rfl).trans (sl_base hN rfl s0)
   have s38_4 := (hbs38 4 rfl).trans (sl_hit hN rfl)
   have s38_6 := (hbs38 6 rfl).trans (sl_hit hN rfl)
   have s38_7 := (hbs38 7 rfl).trans (sl_hit hN rfl)
   have s38_62 : Sl a38 62 (ptr b15 0) := (hph38 1 _ 62 rfl rfl).2 rfl
   have s38_78 : Sl a38 78 v32 := (Option.some.inj ((hph38 17 _ 78 rfl rfl).1 1 rfl)).symm
   refine split_end ?_
   refine from_seq (tl := [_, _, _]) (by decide) (by kernel_rfl) rfl ?_
   refine op_nil (ev_base hN38 rfl s38_62) (op_field fld115_2 (ev_hit hN38 rfl) ?_)
   have hB17_old := hB17
   refine op_store (vs := [v32]) (cs' := [(Value.slice none 0 0), v28, v32]) size113 (ev_hit hN38 rfl) (ev_base hN38 rfl s38_78) hO32.cl rfl (by simp only [List.all_cons, List.all_nil, Bool.true_and, Bool.and_true, hO32.one]; try rfl) hB17 (Nat.le_of_ble_eq_true rfl) rfl ?_
   intro w39 hB17 E40
   have z_w39 := E40.size
   have hx := hx.keep E40 (by simp; omega)
   have ok := ok.keepX hB17_old E40 (by decide)
   have oc := oc.keepX hB17_old E40 (by decide)
   have hO28 := hO28.keepX hB17_old E40 (by decide)
   have hO32 := hO32.keepX hB17_old E40 (by decide)
   have hb := hb.step1 E40 (by omega)
   refine reg_nil (hK25 _ _ (seq_any fun K41 hK41 => reg_split (hd := [_, _, _, _, _, _, _, _, _, _, _, _, _, _, _, _, _, _]) (tl := _) 18 mixed (by kernel_rfl) rfl rfl ?_))
   refine any_envk (φ := phiV [(fun uz => uz = (ptr p 0)), (fun uz => uz = (ptr p 0)), (fun uz => uz = (ptr p 0)), (fun uz => uz = (ptr p 0)), (fun uz => uz = (ptr p 1)), (fun uz => uz = kv), (fun uz => uz = (Value.int .i64 ((K.length / 2 : Nat) : Int))), (fun uz => uz = (hiV kv (K.length / 2))), (fun uz => uz = (ptr p 0)), (fun uz => uz = (ptr p 0)), (fun uz => uz = (ptr p 2)), (fun uz => uz = cv), (fun uz => uz = (Value.int .i64 ((K.length / 2 : Nat) : Int))), (fun uz => uz = (Value.int .i64 (((K.length / 2 : Nat) : Int) + 1))), (fun uz => uz = (hiV cv ((K.length / 2) + 1))), (fun uz => uz = (ptr p 0)), (fun uz => uz = (ptr p 1)), (fun _ => True)]) (G := fun c9 w' => c9 ≤ 0 → (Bx w' p 115 [(Value.slice none 0 0), kv, cv])) [17] (by kernel_rfl) (by kernel_rfl) (by kernel_rfl) (by kernel_rfl) hN38 (fun _ w1 w2 E h hc9 => (h hc9).keep0 E) (fun _ => hx) (ObKs.cons ?_ (ObKs.cons ?_ (ObKs.cons ?_ (ObKs.cons ?_ (ObKs.cons ?_ (ObKs.cons ?_ (ObKs.cons ?_ (ObKs.cons ?_ (ObKs.cons ?_ (ObKs.cons ?_ (ObKs.cons ?_ (ObKs.cons ?_ (ObKs.cons ?_ (ObKs.cons ?_ (ObKs.cons ?_ (ObKs.cons ?_ (ObKs.cons ?_ (ObKs.pass rfl (ObKs.nil))))))))))))))))))) (by simp only [putsL_defers]) ?_
   ·
    intro eA aA wA hNA hckA hGA hbsA hdpA
    have qA_0 := (hbsA 0 rfl).trans (sl_base hN38 rfl s38_0)
    refine op_move (ev_base hNA rfl qA_0) ?_
    exact obK_end rfl rfl rfl
   ·
    intro eA aA wA hNA hckA hGA hbsA hdpA
    have qA_0 := (hbsA 0 rfl).trans (sl_base hN38 rfl s38_0)
    refine op_move (ev_base hNA rfl qA_0) ?_
    exact obK_end rfl rfl rfl
   ·
    intro eA aA wA hNA hckA hGA hbsA hdpA
    have qA_0 := (hbsA 0 rfl).trans (sl_base hN38 rfl s38_0)
    refine op_move (ev_base hNA rfl qA_0) ?_
    exact obK_end rfl rfl rfl
   ·
    intro eA aA wA hNA hckA hGA hbsA hdpA
    have qA_85 : Sl aA 85 (ptr p 0) := (hdpA 2 _ 85 (by kernel_rfl) rfl rfl).2 rfl
    refine op_nil (ev_base hNA rfl qA_85) ?_
    exact obK_end rfl rfl rfl
   ·
    intro eA aA wA hNA hckA hGA hbsA hdpA
    have qA_86 : Sl aA 86 (ptr p 0) := (hdpA 3 _ 86 (by kernel_rfl) rfl rfl).2 rfl
    refine op_field fld115_1 (ev_base hNA rfl qA_86) ?_
    exact obK_end rfl rfl rfl
   ·
    intro eA aA wA hNA hckA hGA hbsA hdpA
    have qA_87 : Sl aA 87 (ptr p 1) := (hdpA 4 _ 87 (by kernel_rfl) rfl rfl).2 rfl
    have hGA := hGA (hckA 0 17 rfl (by kernel_rfl))
    refine op_load1 (v := kv) one90 (ev_base hNA rfl qA_87) (hGA.cell rfl) ?_
    exact obK_end rfl rfl rfl
   ·
    intro eA aA wA hNA hckA hGA hbsA hdpA
    have qA_6 := (hbsA 6 rfl).trans (sl_base hN38 rfl s38_6)
    refine op_move (ev_base hNA rfl qA_6) ?_
    exact obK_end rfl rfl rfl
   ·
    intro eA aA wA hNA hckA hGA hbsA hdpA
    have qA_88 : Sl aA 88 kv := (hdpA 5 _ 88 (by kernel_rfl) rfl rfl).2 rfl
    have qA_89 : Sl aA 89 (Value.int .i64 ((K.length / 2 : Nat) : Int)) := (hdpA 6 _ 89 (by kernel_rfl) rfl rfl).2 rfl
    refine op_slice_hiC (m := (K.length / 2)) slt90 (ev_base hNA rfl qA_88) hck3 (ev_base hNA rfl qA_89) (by omega) (by omega) ?_
    exact obK_end rfl rfl rfl
   ·
    intro eA aA wA hNA hckA hGA hbsA hdpA
    have qA_0 := (hbsA 0 rfl).trans (sl_base hN38 rfl s38_0)
    refine op_move (ev_base hNA rfl qA_0) ?_
    exact obK_end rfl rfl rfl
   ·
    intro eA aA wA hNA hckA hGA hbsA hdpA
    have qA_91 : Sl aA 91 (ptr p 0) := (hdpA 8 _ 91 (by kernel_rfl) rfl rfl).2 rfl
    refine op_nil (ev_base hNA rfl qA_91) ?_
    exact obK_end rfl rfl rfl
   ·
    intro eA aA wA hNA hckA hGA hbsA hdpA
    have qA_92 : Sl aA 92 (ptr p 0) := (hdpA 9 _ 92 (by kernel_rfl) rfl rfl).2 rfl
    refine op_field fld115_2 (ev_base hNA rfl qA_92) ?_
    exact obK_end rfl rfl rfl
   ·
    intro eA aA wA hNA hckA hGA hbsA hdpA
    have qA_93 : Sl aA 93 (ptr p 2) := (hdpA 10 _ 93 (by kernel_rfl) rfl rfl).2 rfl
    have hGA := hGA (hckA 0 17 rfl (by kernel_rfl))
    refine op_load1 (v := cv) one113 (ev_base hNA rfl qA_93) (hGA.cell rfl) ?_
    exact obK_end rfl rfl rfl
   ·
    intro eA aA wA hNA hckA hGA hbsA hdpA
    have qA_6 := (hbsA 6 rfl).trans (sl_base hN38 rfl s38_6)
    refine op_move (ev_base hNA rfl qA_6) ?_
    exact obK_end rfl rfl rfl
   ·
    intro eA aA wA hNA hckA hGA hbsA hdpA
    have qA_95 : Sl aA 95 (Value.int .i64 ((K.length / 2 : Nat) : Int)) := (hdpA 12 _ 95 (by kernel_rfl) rfl rfl).2 rfl
    refine op_add (ev_base hNA rfl qA_95) rfl (add64 (by omega)) ?_
    exact obK_end rfl rfl rfl
   ·
    intro eA aA wA hNA hckA hGA hbsA hdpA
    have qA_94 : Sl aA 94 cv := (hdpA 11 _ 94 (by kernel_rfl) rfl rfl).2 rfl
    have qA_96 : Sl aA 96 (Value.int .i64 (((K.length / 2 : Nat) : Int) + 1)) := (hdpA 13 _ 96 (by kernel_rfl) rfl rfl).2 rfl
    refine op_slice_hiC (m := (K.length / 2) + 1) slt113 (ev_base hNA rfl qA_94) hcc3 (ev_base hNA rfl qA_96) (by omega) (by omega) ?_
    exact obK_end rfl rfl rfl
   ·
    intro eA aA wA hNA hckA hGA hbsA hdpA
    have qA_83 : Sl aA 83 (ptr p 0) := (hdpA 0 _ 83 (by kernel_rfl) rfl rfl).2 rfl
    refine op_nil (ev_base hNA rfl qA_83) ?_
    exact obK_end rfl rfl rfl
   ·
    intro eA aA wA hNA hckA hGA hbsA hdpA
    have qA_98 : Sl aA 98 (ptr p 0) := (hdpA 15 _ 98 (by kernel_rfl) rfl rfl).2 rfl
    refine op_field fld115_1 (ev_base hNA rfl qA_98) ?_
    exact obK_end rfl rfl rfl
   ·
    intro w42 E42 _ a42 hN42 hbs42 hdp42 o_ ho_; obtain rfl := Option.some.inj ho_
    have z_w42 := E42.size
    have hx := hx.keep0 E42
    have ok := ok.keep0 E42
    have oc := oc.keep0 E42
    have hO28 := hO28.keep0 E42
    have hO32 := hO32.keep0 E42
    have hB17 := hB17.keep0 E42
    have hb := hb.step0 E42
    have q42_99 : Sl a42 99 (ptr p 1) := (hdp42 16 _ 99 (by kernel_rfl) rfl rfl).2 rfl
    have q42_90 : Sl a42 90 (hiV kv (K.length / 2)) := (hdp42 7 _ 90 (by kernel_rfl) rfl rfl).2 rfl
    have hx_old := hx
    refine op_store (vs := [(hiV kv (K.length / 2))]) (cs' := [(Value.slice none 0 0), (hiV kv (K.length / 2)), cv]) size90 (ev_base hN42 rfl q42_99) (ev_base hN42 rfl q42_90) (own_cl (ok.hiCut (k := (K.length / 2)) (by omega))) rfl (by simp only [List.all_cons, List.all_nil, Bool.true_and, Bool.and_true, (own_one (ok.hiCut (k := (K.length / 2)) (by omega)))]; try rfl) hx (Nat.le_of_ble_eq_true rfl) rfl ?_
    intro w43 hx E44
    have z_w43 := E44.size
    have ok := ok.keepX hx_old E44 (by decide)
    have oc := oc.keepX hx_old E44 (by decide)
    have hO28 := hO28.keepX hx_old E44 (by decide)
    have hO32 := hO32.keepX hx_old E44 (by decide)
    have hB17 := hB17.keep E44 (by simp; omega)
    have hb := hb.stepB E44 rfl
    refine kk_end0 rfl (fun h => absurd h (by simp)) ?_
    intro w45 E45 a45 hN45 hd45 hbs45 hph45
    have hd45 := hd45.trans ((by simp only [putsL_defers] : _ = _).trans hd38)
    have z_w45 := E45.size
    have ok := ok.keep0 E45
    have oc := oc.keep0 E45
    have hO28 := hO28.keep0 E45
    have hO32 := hO32.keep0 E45
    have hB17 := hB17.keep0 E45
    have hx := hx.keep0 E45
    have hb := hb.step0 E45
    have s45_4 := (hbs45 4 rfl).trans (sl_base hN38 rfl s38_4)
    have s45_7 := (hbs45 7 rfl).trans (sl_base hN38 rfl s38_7)
    have s45_84 : Sl a45 84 (ptr p 0) := (hph45 1 _ 84 rfl rfl).2 rfl
    have s45_97 : Sl a45 97 (hiV cv ((K.length / 2) + 1)) := (hph45 14 _ 97 rfl rfl).2 rfl
    refine split_end ?_
    refine from_seq (tl := [_, _, _]) (by decide) (by kernel_rfl) rfl ?_
    refine op_nil (ev_base hN45 rfl s45_84) (op_field fld115_2 (ev_hit hN45 rfl) ?_)
    have hx_old := hx
    refine op_store (vs := [(hiV cv ((K.length / 2) + 1))]) (cs' := [(Value.slice none 0 0), (hiV kv (K.length / 2)), (hiV cv ((K.length / 2) + 1))]) size113 (ev_hit hN45 rfl) (ev_base hN45 rfl s45_97) (own_cl (oc.hiCut (k := (K.length / 2) + 1) (by omega))) rfl (by simp only [List.all_cons, List.all_nil, Bool.true_and, Bool.and_true, (own_one (oc.hiCut (k := (K.length / 2) + 1) (by omega)))]; try rfl) hx (Nat.le_of_ble_eq_true rfl) rfl ?_
    intro w46 hx E47
    have z_w46 := E47.size
    have ok := ok.keepX hx_old E47 (by decide)
    have oc := oc.keepX hx_old E47 (by decide)
    have hO28 := hO28.keepX hx_old E47 (by decide)
    have hO32 := hO32.keepX hx_old E47 (by decide)
    have hB17 := hB17.keep E47 (by simp; omega)
    have hb := hb.stepB E47 rfl
    refine reg_nil (hK41 _ _ (seq_any fun K48 hK48 => one_reg (op_move (ev_base hN45 rfl s45_7) (op_move (ev_base hN45 rfl s45_4) (op_assign (ev_hit hN45 rfl) ?_)))))
    refine op_assign (ev_hit hN45 rfl) ?_
    refine reg_nil (hK48 _ _ (wp_ret ?_))
    refine ret2 rfl hd45 (ev_hit hN45 rfl) (ev_hit hN45 rfl) ⟨_, rfl, ?_⟩
    exact ⟨hb, b15, v28, v32, rfl, hx, (ok.hiCut (k := (K.length / 2)) (by omega)).cast (by simp; omega) (flat_take cK_len _ _), (oc.hiCut (k := (K.length / 2) + 1) (by omega)).cast (by simp; omega) (flat_take cN_len _ _), by omega, hB17, hO28, hO32⟩

theorem halvesLsS {p : Nat} {pv : Value} {D : List (DP (List UInt8))} {w : World} (hx : Bx w p 93 [pv, .slice none 0 0, .slice none 0 0]) (op : Own w 0 98 2 pv D.length (D.flatMap cS)) (h6 : D.length ≤ 6) : Ret Try.prog 69 #[(ptr p 0)] w (fun v' w' => v' = .tuple #[.slice none 0 0, .pointer none] ∧ w' = w) := by
 refine enter (N := 104) Try.func69 rfl rfl (by simp) fun a0 hN hd hA => ?_
 have s0 : a0.tmps.getD 0 undef = (ptr p 0) := hA 0 (by simp)
 clear hA
 refine seq_any fun K1 hK1 => one_reg (op_assign rfl (op_assign rfl ?_))
 refine reg_nil (hK1 _ _ (seq_any fun K3 hK3 => seq_any fun K4 hK4 => one_reg (op_move (ev_base hN rfl s0) (op_fn (vs := [(ptr p 0)]) ok42 ⟨(ev_hit hN rfl), trivial⟩ (Ret.flip (sizeLS hx op)) ?_))))
 rintro _ _ ⟨rfl, rfl⟩
 refine op_leq (ev_hit hN rfl) rfl (fun c10 => ?_) (fun c10 => ?_)
 · -- 10T
  refine reg_nil (hK4 _ _ (wp_cond_true (ev_hit hN rfl) ?_))
  refine seq_any fun K5 hK5 => one_reg (op_assign rfl (op_assign rfl (reg_nil (hK5 _ _ (wp_ret (then_ret ( ?_)))))))
  refine ret2 rfl hd (ev_hit hN rfl) (ev_hit hN rfl) ⟨_, rfl, ?_⟩
  exact ⟨rfl, rfl⟩
 · -- 10F
  exfalso; omega

theorem halvesNsS {p : Nat} {kv cv : Value} {K : List DK} {P : List Nat} {w : World} (hx : Bx w p 93 [.slice none 0 0, kv, cv]) (ok : Own w 0 27 1 kv K.length (K.flatMap cK)) (oc : Own w 0 86 1 cv P.length (P.flatMap cN)) (hP : P.length = K.length + 1) (h6 : K.length ≤ 6) : Ret Try.prog 69 #[(ptr p 0)] w (fun v' w' => v' = .tuple #[.slice none 0 0, .pointer none] ∧ w' = w) := by
 refine enter (N := 104) Try.func69 rfl rfl (by simp) fun a0 hN hd hA => ?_
 have s0 : a0.tmps.getD 0 undef = (ptr p 0) := hA 0 (by simp)
 clear hA
 refine seq_any fun K1 hK1 => one_reg (op_assign rfl (op_assign rfl ?_))
 refine reg_nil (hK1 _ _ (seq_any fun K3 hK3 => seq_any fun K4 hK4 => one_reg (op_move (ev_base hN rfl s0) (op_fn (vs := [(ptr p 0)]) ok42 ⟨(ev_hit hN rfl), trivial⟩ (Ret.flip (sizeNS hx ok oc (by omega) (by omega))) ?_))))
 rintro _ _ ⟨rfl, rfl⟩
 refine op_leq (ev_hit hN rfl) rfl (fun c10 => ?_) (fun c10 => ?_)
 · -- 10T
  refine reg_nil (hK4 _ _ (wp_cond_true (ev_hit hN rfl) ?_))
  refine seq_any fun K5 hK5 => one_reg (op_assign rfl (op_assign rfl (reg_nil (hK5 _ _ (wp_ret (then_ret ( ?_)))))))
  refine ret2 rfl hd (ev_hit hN rfl) (ev_hit hN rfl) ⟨_, rfl, ?_⟩
  exact ⟨rfl, rfl⟩
 · -- 10F
  exfalso; omega

theorem halvesLbS {p : Nat} {pv : Value} {D : List (DP (List UInt8))} {w : World} (hx : Bx w p 93 [pv, .slice none 0 0, .slice none 0 0]) (op : Own w 0 98 2 pv D.length (D.flatMap cS)) (ks : ∀ x9 ∈ D.map pk, Own w 0 5 1 x9.1 x9.2.length (x9.2.map u8v)) (h6 : 6 < D.length) (hn : D.length ≤ 1000) : Ret Try.prog 69 #[(ptr p 0)] w (fun v' w' => Gr w w' (fun y => y = p) ∧ ∃ q qv, v' = .tuple #[((D.drop (D.length - 3)).getD 0 default).1, ptr q 0] ∧ Bx w' p 93 [hiV pv (D.length - 3), .slice none 0 0, .slice none 0 0] ∧ Own w' 0 98 2 (hiV pv (D.length - 3)) (D.take (D.length - 3)).length ((D.take (D.length - 3)).flatMap cS) ∧ w.heap.size ≤ q ∧ Bx w' q 93 [qv, .slice none 0 0, .slice none 0 0] ∧ Own w' w.heap.size 98 2 qv (D.drop (D.length - 3)).length ((D.drop (D.length - 3)).flatMap cS)) := by
 have hi_p := hx.lt
 obtain ⟨cp, hcp1, hcp2, hcp3⟩ := op.cap
 have hb := Gr.refl w (fun y => y = p)
 refine enter (N := 104) Try.func69 rfl rfl (by simp) fun a0 hN hd hA => ?_
 have s0 : a0.tmps.getD 0 undef = (ptr p 0) := hA 0 (by simp)
 clear hA
 refine seq_any fun K4 hK4 => one_reg (op_assign rfl (op_assign rfl ?_))
 refine reg_nil (hK4 _ _ (seq_any fun K5 hK5 => seq_any fun K7 hK7 => one_reg (op_move (ev_base hN rfl s0) (op_fn (vs := [(ptr p 0)]) ok42 ⟨(ev_hit hN rfl), trivial⟩ (Ret.flip (sizeLS hx op)) ?_))))
 rintro _ _ ⟨rfl, rfl⟩
 refine op_leq (ev_hit hN rfl) rfl (fun c10 => ?_) (fun c10 => ?_)
 · -- 10T
  exfalso; omega
 · -- 10F
  refine reg_nil (hK7 _ _ (wp_cond_false (ev_hit hN rfl) ?_))
  refine wp_skip ?_
  refine hK5 _ _ (seq_any fun K11 hK11 => one_reg (op_build (pv := []) (v := (Value.agg #[(Value.slice none 0 0), (Value.slice none 0 0), (Value.slice none 0 0)])) trivial (by kernel_rfl) ?_))
  refine op_box (cs := [(Value.slice none 0 0), (Value.slice none 0 0), (Value.slice none 0 0)]) (ev_hit hN rfl) rfl ?_
  intro w12 b13 lo_b13 hi_b13 hB15 E14
  have z_w12 := E14.size
  have hx := hx.keep0 E14
  have op := op.keep0 E14
  have ks := all9 ks fun _ h => h.keep0 E14
  have hb := hb.step0 E14
  refine op_assign (ev_hit hN rfl) ?_
  refine reg_nil (hK11 _ _ (seq_any fun K16 hK16 => seq_any fun K17 hK17 => one_reg (op_move (ev_base hN rfl s0) (op_fn (vs := [(ptr p 0)]) ok63 ⟨(ev_hit hN rfl), trivial⟩ (Ret.flip (leafLS hx op)) ?_))))
  rintro _ _ ⟨rfl, rfl⟩
  refine reg_nil (hK17 _ _ (wp_cond_true (ev_hit hN rfl) ?_))
  refine seq_any fun K18 hK18 => one_reg (op_move (ev_base hN rfl s0) (op_nil (ev_hit hN rfl) (op_field fld93_0 (ev_hit hN rfl) (op_load1 (v := pv) one89 (ev_hit hN rfl) (hx.cell rfl) (op_len_rd Try.underlying89 (ev_hit hN rfl) op.rdw ?_)))))
  refine op_sub (r := ((D.length - 3 : Nat) : Int)) (ev_hit hN rfl) rfl ((sub64 (by omega)).trans (by omega)) ?_
  refine op_assign (ev_hit hN rfl) ?_
  refine reg_nil (hK18 _ _ (seq_any fun K19 hK19 => one_reg ?_))
  refine op_move (ev_hit hN rfl) (op_move (ev_base hN rfl s0) (op_nil (ev_hit hN rfl) (op_field fld93_0 (ev_hit hN rfl) (op_load1 (v := pv) one89 (ev_hit hN rfl) (hx.cell rfl) (op_move (ev_hit hN rfl) (op_slice_cutS (k := (D.length - 3)) slt89 (ev_hit hN rfl) op (ev_hit hN rfl) (by omega) (by omega) ?_))))))
  refine op_fn (vs := [(cutS 2 pv (D.length - 3))]) ok103 ⟨(ev_hit hN rfl), trivial⟩ (clPS (RdC.mono (((op.cutO (k := (D.length - 3)) (by omega)).rdw).cast (by simp) (flat_drop cS_len _ _)) (Nat.zero_le _) (Nat.le_refl _)) (by simp; omega) (one_pS ks (fun _ h => List.mem_of_mem_drop h))) ?_
  rintro v20 w21 ⟨E22, hO20⟩
  have E22 := grown_of_below E22
  have z_w21 := E22.size
  have hx := hx.keep0 E22
  have op := op.keep0 E22
  have hB15 := hB15.keep0 E22
  have hb := hb.step0 E22
  have hO20 := hO20.mono (base' := w.heap.size) (by omega)
  skip
  refine op_nil (ev_hit hN rfl) (op_field fld93_0 (ev_hit hN rfl) ?_)
  have hB15_old := hB15
  refine op_store (vs := [v20]) (cs' := [v20, (Value.slice none 0 0), (Value.slice none 0 0)]) size89 (ev_hit hN rfl) (ev_hit hN rfl) hO20.cl rfl (by simp only [List.all_cons, List.all_nil, Bool.true_and, Bool.and_true, hO20.one]; try rfl) hB15 (Nat.le_of_ble_eq_true rfl) rfl ?_
  intro w23 hB15 E24
  have z_w23 := E24.size
  have hx := hx.keep E24 (by simp; omega)
  have op := op.keepX hB15_old E24 (by decide)
  have hO20 := hO20.keepX hB15_old E24 (by decide)
  have hb := hb.step1 E24 (by omega)
  refine reg_nil (hK19 _ _ (seq_any fun K25 hK25 => one_reg ?_))
  refine op_move (ev_base hN rfl s0) (op_move (ev_base hN rfl s0) (op_nil (ev_hit hN rfl) (op_field fld93_0 (ev_hit hN rfl) (op_load1 (v := pv) one89 (ev_hit hN rfl) (hx.cell rfl) (op_move (ev_hit hN rfl) (op_slice_hiC (m := (D.length - 3)) slt89 (ev_hit hN rfl) hcp3 (ev_hit hN rfl) (by omega) (by omega) ?_))))))
  refine op_nil (ev_hit hN rfl) (op_field fld93_0 (ev_hit hN rfl) ?_)
  have hx_old := hx
  refine op_store (vs := [(hiV pv (D.length - 3))]) (cs' := [(hiV pv (D.length - 3)), (Value.slice none 0 0), (Value.slice none 0 0)]) size89 (ev_hit hN rfl) (ev_hit hN rfl) (own_cl (op.hiCut (k := (D.length - 3)) (by omega))) rfl (by simp only [List.all_cons, List.all_nil, Bool.true_and, Bool.and_true, (own_one (op.hiCut (k := (D.length - 3)) (by omega)))]; try rfl) hx (Nat.le_of_ble_eq_true rfl) rfl ?_
  intro w26 hx E28
  have z_w26 := E28.size
  have op := op.keepX hx_old E28 (by decide)
  have hO20 := hO20.keepX hx_old E28 (by decide)
  have hB15 := hB15.keep E28 (by simp; omega)
  have hb := hb.stepB E28 rfl
  refine reg_nil (hK25 _ _ ?_)
  refine seq_any fun K29 hK29 => one_reg (op_move (ev_hit hN rfl) (op_nil (ev_hit hN rfl) (op_field fld93_0 (ev_hit hN rfl) (op_load1 (v := v20) one89 (ev_hit hN rfl) (hB15.cell rfl) (op_index_rd slt89 (ev_hit hN rfl) hO20.rdw rfl (by omega) (by first | omega | (simp only [List.length_drop, List.length_take]; omega)) ?_)))))
  intro b30 o31 h0b30 h1b30 hc32
  refine op_field fld98_0 (ev_hit hN rfl) (op_load1 (v := ((D.drop (D.length - 3)).getD 0 default).1) one27 (ev_hit hN rfl) (hc32 0 (((D.drop (D.length - 3)).getD 0 default).1) (by decide) ((el_pS (i := 0) (by omega) (by first | omega | (simp only [List.length_drop, List.length_take]; omega))) 0 (((D.drop (D.length - 3)).getD 0 default).1) rfl)) (op_move (ev_hit hN rfl) (op_assign (ev_hit hN rfl) ?_)))
  refine op_assign (ev_hit hN rfl) ?_
  refine reg_nil (hK29 _ _ (wp_ret (then_ret ( ?_))))
  refine ret2 rfl hd (ev_hit hN rfl) (ev_hit hN rfl) ⟨_, rfl, ?_⟩
  exact ⟨hb, b13, v20, rfl, hx, (op.hiCut (k := (D.length - 3)) (by omega)).cast (by simp) (flat_take cS_len _ _), by omega, hB15, hO20⟩

theorem halvesNbS {p : Nat} {kv cv : Value} {K : List DK} {P : List Nat} {w : World} (hx : Bx w p 93 [.slice none 0 0, kv, cv]) (ok : Own w 0 27 1 kv K.length (K.flatMap cK)) (oc : Own w 0 86 1 cv P.length (P.flatMap cN)) (ks : ∀ x9 ∈ K, Own w 0 5 1 x9.1 x9.2.length (x9.2.map u8v)) (hP : P.length = K.length + 1) (h6 : 6 < K.length) (hn : K.length ≤ 900) : Ret Try.prog 69 #[(ptr p 0)] w (fun v' w' => Gr w w' (fun y => y = p) ∧ ∃ q qk qc, v' = .tuple #[(K.getD (K.length / 2) default).1, ptr q 0] ∧ Bx w' p 93 [.slice none 0 0, hiV kv (K.length / 2), hiV cv ((K.length / 2) + 1)] ∧ Own w' 0 27 1 (hiV kv (K.length / 2)) (K.take (K.length / 2)).length ((K.take (K.length / 2)).flatMap cK) ∧ Own w' 0 86 1 (hiV cv ((K.length / 2) + 1)) (P.take ((K.length / 2) + 1)).length ((P.take ((K.length / 2) + 1)).flatMap cN) ∧ w.heap.size ≤ q ∧ Bx w' q 93 [.slice none 0 0, qk, qc] ∧ Own w' w.heap.size 27 1 qk (K.drop ((K.length / 2) + 1)).length ((K.drop ((K.length / 2) + 1)).flatMap cK) ∧ Own w' w.heap.size 86 1 qc (P.drop ((K.length / 2) + 1)).length ((P.drop ((K.length / 2) + 1)).flatMap cN)) := by
 have hi_p := hx.lt
 obtain ⟨ck, hck1, hck2, hck3⟩ := ok.cap
 obtain ⟨cc, hcc1, hcc2, hcc3⟩ := oc.cap
 have hb := Gr.refl w (fun y => y = p)
 refine enter (N := 104) Try.func69 rfl rfl (by simp) fun a0 hN hd hA => ?_
 have s0 : a0.tmps.getD 0 undef = (ptr p 0) := hA 0 (by simp)
 clear hA
 refine seq_any fun K5 hK5 => one_reg (op_assign rfl (op_assign rfl ?_))
 refine reg_nil (hK5 _ _ (seq_any fun K11 hK11 => seq_any fun K12 hK12 => one_reg (op_move (ev_base hN rfl s0) (op_fn (vs := [(ptr p 0)]) ok42 ⟨(ev_hit hN rfl), trivial⟩ (Ret.flip (sizeNS hx ok oc (by omega) (by omega))) ?_))))
 rintro _ _ ⟨rfl, rfl⟩
 refine op_leq (ev_hit hN rfl) rfl (fun c10 => ?_) (fun c10 => ?_)
 · -- 10T
  exfalso; omega
 · -- 10F
  refine reg_nil (hK12 _ _ (wp_cond_false (ev_hit hN rfl) ?_))
  refine wp_skip ?_
  refine hK11 _ _ (seq_any fun K13 hK13 => one_reg (op_build (pv := []) (v := (Value.agg #[(Value.slice none 0 0), (Value.slice none 0 0), (Value.slice none 0 0)])) trivial (by kernel_rfl) ?_))
  refine op_box (cs := [(Value.slice none 0 0), (Value.slice none 0 0), (Value.slice none 0 0)]) (ev_hit hN rfl) rfl ?_
  intro w14 b15 lo_b15 hi_b15 hB17 E16
  have z_w14 := E16.size
  have hx := hx.keep0 E16
  have ok := ok.keep0 E16
  have oc := oc.keep0 E16
  have ks := all9 ks fun _ h => h.keep0 E16
  have hb := hb.step0 E16
  refine op_assign (ev_hit hN rfl) ?_
  refine reg_nil (hK13 _ _ (seq_any fun K18 hK18 => seq_any fun K19 hK19 => one_reg (op_move (ev_base hN rfl s0) (op_fn (vs := [(ptr p 0)]) ok63 ⟨(ev_hit hN rfl), trivial⟩ (Ret.flip (leafNS hx ok oc (by omega) (by omega))) ?_))))
  rintro _ _ ⟨rfl, rfl⟩
  refine reg_nil (hK19 _ _ (wp_cond_false (ev_hit hN rfl) ?_))
  refine wp_skip ?_
  refine hK18 _ _ ?_
  refine seq_any fun K20 hK20 => one_reg (op_move (ev_base hN rfl s0) (op_nil (ev_hit hN rfl) (op_field fld93_1 (ev_hit hN rfl) (op_load1 (v := kv) one90 (ev_hit hN rfl) (hx.cell rfl) (op_len_rd Try.underlying90 (ev_hit hN rfl) ok.rdw ?_)))))
  refine op_quo (r := ((K.length / 2 : Nat) : Int)) (ev_hit hN rfl) rfl (by decide) (by rw [IntKind.wrap_i64, Int.tdiv_eq_ediv_of_nonneg (by omega)]; omega) ?_
  refine op_assign (ev_hit hN rfl) ?_
  refine reg_nil (hK20 _ _ (seq_any fun K21 hK21 => ?_))
  refine one_reg (op_move (ev_base hN rfl s0) (op_nil (ev_hit hN rfl) (op_field fld93_1 (ev_hit hN rfl) (op_load1 (v := kv) one90 (ev_hit hN rfl) (hx.cell rfl) (op_move (ev_hit hN rfl) (op_index_rd slt90 (ev_hit hN rfl) ok.rdw (ev_hit hN rfl) (by omega) (by omega) ?_))))))
  intro b22 o23 h0b22 h1b22 hc24
  refine op_load1 (v := (K.getD (K.length / 2) default).1) one27 (ev_hit hN rfl) (by have := hc24 0 (K.getD (K.length / 2) default).1 (by decide) (el_kd (i := (K.length / 2)) (by omega) (by first | omega | (simp only [List.length_drop, List.length_take]; omega))); simpa using this) (op_assign (ev_hit hN rfl) ?_)
  refine reg_nil (hK21 _ _ (seq_any fun K25 hK25 => reg_split (hd := [_, _, _, _, _, _, _, _, _, _, _, _, _, _, _, _, _, _, _, _, _]) (tl := _) 21 mixed (by kernel_rfl) rfl rfl ?_))
  refine any_env (φ := phiV [(fun uz => uz = (ptr b15 0)), (fun uz => uz = (ptr b15 0)), (fun uz => uz = (ptr p 0)), (fun uz => uz = (ptr p 0)), (fun uz => uz = (ptr p 1)), (fun uz => uz = kv), (fun uz => uz = (Value.int .i64 ((K.length / 2 : Nat) : Int))), (fun uz => uz = (Value.int .i64 (((K.length / 2 : Nat) : Int) + 1))), (fun uz => uz = (cutS 1 kv ((K.length / 2) + 1))), (fun _ => True), (fun uz => uz = (ptr p 0)), (fun uz => uz = (ptr p 0)), (fun uz => uz = (ptr p 2)), (fun uz => uz = cv), (fun uz => uz = (Value.int .i64 ((K.length / 2 : Nat) : Int))), (fun uz => uz = (Value.int .i64 (((K.length / 2 : Nat) : Int) + 1))), (fun uz => uz = (cutS 1 cv ((K.length / 2) + 1))), (fun _ => True), (fun uz => uz = (ptr b15 0)), (fun uz => uz = (ptr b15 1)), (fun _ => True)]) (G := fun w' => Bx w' p 93 [(Value.slice none 0 0), kv, cv]) [9, 17, 20] (by kernel_rfl) (by kernel_rfl) (by kernel_rfl) (by kernel_rfl) hN (fun w1 w2 E h => h.keep0 E) hx (ObEs.cons ?_ (ObEs.cons ?_ (ObEs.cons ?_ (ObEs.cons ?_ (ObEs.cons ?_ (ObEs.cons ?_ (ObEs.cons ?_ (ObEs.cons ?_ (ObEs.cons ?_ (ObEs.pass rfl (ObEs.cons ?_ (ObEs.cons ?_ (ObEs.cons ?_ (ObEs.cons ?_ (ObEs.cons ?_ (ObEs.cons ?_ (ObEs.cons ?_ (ObEs.pass rfl (ObEs.cons ?_ (ObEs.cons ?_ (ObEs.pass rfl (ObEs.nil)))))))))))))))))))))) (by simp only [putsL_defers]) ?_
  ·
   intro eA aA wA hNA hGA hbsA hdpA
   have qA_4 := (hbsA 4 rfl).trans (sl_hit hN rfl)
   refine op_move (ev_base hNA rfl qA_4) ?_
   exact obE_end rfl rfl rfl
  ·
   intro eA aA wA hNA hGA hbsA hdpA
   have qA_4 := (hbsA 4 rfl).trans (sl_hit hN rfl)
   refine op_move (ev_base hNA rfl qA_4) ?_
   exact obE_end rfl rfl rfl
  ·
   intro eA aA wA hNA hGA hbsA hdpA
   have qA_0 := (hbsA 0 rfl).trans (sl_base hN rfl s0)
   refine op_move (ev_base hNA rfl qA_0) ?_
   exact obE_end rfl rfl rfl
  ·
   intro eA aA wA hNA hGA hbsA hdpA
   have qA_63 : Sl aA 63 (ptr p 0) := (hdpA 2 _ 63 (by kernel_rfl) rfl rfl).2 rfl
   refine op_nil (ev_base hNA rfl qA_63) ?_
   exact obE_end rfl rfl rfl
  ·
   intro eA aA wA hNA hGA hbsA hdpA
   have qA_64 : Sl aA 64 (ptr p 0) := (hdpA 3 _ 64 (by kernel_rfl) rfl rfl).2 rfl
   refine op_field fld93_1 (ev_base hNA rfl qA_64) ?_
   exact obE_end rfl rfl rfl
  ·
   intro eA aA wA hNA hGA hbsA hdpA
   have qA_65 : Sl aA 65 (ptr p 1) := (hdpA 4 _ 65 (by kernel_rfl) rfl rfl).2 rfl
   refine op_load1 (v := kv) one90 (ev_base hNA rfl qA_65) (hGA.cell rfl) ?_
   exact obE_end rfl rfl rfl
  ·
   intro eA aA wA hNA hGA hbsA hdpA
   have qA_6 := (hbsA 6 rfl).trans (sl_hit hN rfl)
   refine op_move (ev_base hNA rfl qA_6) ?_
   exact obE_end rfl rfl rfl
  ·
   intro eA aA wA hNA hGA hbsA hdpA
   have qA_67 : Sl aA 67 (Value.int .i64 ((K.length / 2 : Nat) : Int)) := (hdpA 6 _ 67 (by kernel_rfl) rfl rfl).2 rfl
   refine op_add (ev_base hNA rfl qA_67) rfl (add64 (by omega)) ?_
   exact obE_end rfl rfl rfl
  ·
   intro eA aA wA hNA hGA hbsA hdpA
   have qA_66 : Sl aA 66 kv := (hdpA 5 _ 66 (by kernel_rfl) rfl rfl).2 rfl
   have qA_68 : Sl aA 68 (Value.int .i64 (((K.length / 2 : Nat) : Int) + 1)) := (hdpA 7 _ 68 (by kernel_rfl) rfl rfl).2 rfl
   refine op_slice_cutS (k := (K.length / 2) + 1) slt90 (ev_base hNA rfl qA_66) ok (ev_base hNA rfl qA_68) (by omega) (by omega) ?_
   exact obE_end rfl rfl rfl
  ·
   intro eA aA wA hNA hGA hbsA hdpA
   have qA_0 := (hbsA 0 rfl).trans (sl_base hN rfl s0)
   refine op_move (ev_base hNA rfl qA_0) ?_
   exact obE_end rfl rfl rfl
  ·
   intro eA aA wA hNA hGA hbsA hdpA
   have qA_71 : Sl aA 71 (ptr p 0) := (hdpA 10 _ 71 (by kernel_rfl) rfl rfl).2 rfl
   refine op_nil (ev_base hNA rfl qA_71) ?_
   exact obE_end rfl rfl rfl
  ·
   intro eA aA wA hNA hGA hbsA hdpA
   have qA_72 : Sl aA 72 (ptr p 0) := (hdpA 11 _ 72 (by kernel_rfl) rfl rfl).2 rfl
   refine op_field fld93_2 (ev_base hNA rfl qA_72) ?_
   exact obE_end rfl rfl rfl
  ·
   intro eA aA wA hNA hGA hbsA hdpA
   have qA_73 : Sl aA 73 (ptr p 2) := (hdpA 12 _ 73 (by kernel_rfl) rfl rfl).2 rfl
   refine op_load1 (v := cv) one91 (ev_base hNA rfl qA_73) (hGA.cell rfl) ?_
   exact obE_end rfl rfl rfl
  ·
   intro eA aA wA hNA hGA hbsA hdpA
   have qA_6 := (hbsA 6 rfl).trans (sl_hit hN rfl)
   refine op_move (ev_base hNA rfl qA_6) ?_
   exact obE_end rfl rfl rfl
  ·
   intro eA aA wA hNA hGA hbsA hdpA
   have qA_75 : Sl aA 75 (Value.int .i64 ((K.length / 2 : Nat) : Int)) := (hdpA 14 _ 75 (by kernel_rfl) rfl rfl).2 rfl
   refine op_add (ev_base hNA rfl qA_75) rfl (add64 (by omega)) ?_
   exact obE_end rfl rfl rfl
  ·
   intro eA aA wA hNA hGA hbsA hdpA
   have qA_74 : Sl aA 74 cv := (hdpA 13 _ 74 (by kernel_rfl) rfl rfl).2 rfl
   have qA_76 : Sl aA 76 (Value.int .i64 (((K.length / 2 : Nat) : Int) + 1)) := (hdpA 15 _ 76 (by kernel_rfl) rfl rfl).2 rfl
   refine op_slice_cutS (k := (K.length / 2) + 1) slt91 (ev_base hNA rfl qA_74) oc (ev_base hNA rfl qA_76) (by omega) (by omega) ?_
   exact obE_end rfl rfl rfl
  ·
   intro eA aA wA hNA hGA hbsA hdpA
   have qA_61 : Sl aA 61 (ptr b15 0) := (hdpA 0 _ 61 (by kernel_rfl) rfl rfl).2 rfl
   refine op_nil (ev_base hNA rfl qA_61) ?_
   exact obE_end rfl rfl rfl
  ·
   intro eA aA wA hNA hGA hbsA hdpA
   have qA_79 : Sl aA 79 (ptr b15 0) := (hdpA 18 _ 79 (by kernel_rfl) rfl rfl).2 rfl
   refine op_field fld93_1 (ev_base hNA rfl qA_79) ?_
   exact obE_end rfl rfl rfl
  ·
   intro w26 E26 _ a26 hN26 hbs26 hdp26 o_ ho_; obtain rfl := Option.some.inj ho_
   have z_w26 := E26.size
   have hx := hx.keep0 E26
   have ok := ok.keep0 E26
   have oc := oc.keep0 E26
   have ks := all9 ks fun _ h => h.keep0 E26
   have hB17 := hB17.keep0 E26
   have hb := hb.step0 E26
   have q26_69 : Sl a26 69 (cutS 1 kv ((K.length / 2) + 1)) := (hdp26 8 _ 69 (by kernel_rfl) rfl rfl).2 rfl
   refine op_fn (vs := [(cutS 1 kv ((K.length / 2) + 1))]) ok90 ⟨(ev_base hN26 rfl q26_69), trivial⟩ (clK (RdC.mono (((ok.cutO (k := (K.length / 2) + 1) (by omega)).rdw).cast (by simp) (flat_drop cK_len _ _)) (Nat.zero_le _) (Nat.le_refl _)) (by simp; omega) (one_kd ks (fun _ h => List.mem_of_mem_drop h))) ?_
   rintro v28 w29 ⟨E30, hO28⟩
   have E30 := grown_of_below E30
   have z_w29 := E30.size
   have hx := hx.keep0 E30
   have ok := ok.keep0 E30
   have oc := oc.keep0 E30
   have hB17 := hB17.keep0 E30
   have hb := hb.step0 E30
   have hO28 := hO28.mono (base' := w.heap.size) (by omega)
   skip
   refine ke_end rfl (by decide) rfl hx ?_
   intro w31 E31 _ a31 hN31 hbs31 hdp31 o_ ho_; obtain rfl := Option.some.inj ho_
   have z_w31 := E31.size
   have hx := hx.keep0 E31
   have ok := ok.keep0 E31
   have oc := oc.keep0 E31
   have hB17 := hB17.keep0 E31
   have hO28 := hO28.keep0 E31
   have hb := hb.step0 E31
   have q31_77 : Sl a31 77 (cutS 1 cv ((K.length / 2) + 1)) := (hdp31 16 _ 77 (by kernel_rfl) rfl rfl).2 rfl
   refine op_fn (vs := [(cutS 1 cv ((K.length / 2) + 1))]) ok104 ⟨(ev_base hN31 rfl q31_77), trivial⟩ (clNS (RdC.mono (((oc.cutO (k := (K.length / 2) + 1) (by omega)).rdw).cast (by simp) (flat_drop cN_len _ _)) (Nat.zero_le _) (Nat.le_refl _)) (by simp; omega)) ?_
   rintro v32 w33 ⟨E34, hO32⟩
   have E34 := grown_of_below E34
   have z_w33 := E34.size
   have hx := hx.keep0 E34
   have ok := ok.keep0 E34
   have oc := oc.keep0 E34
   have hB17 := hB17.keep0 E34
   have hO28 := hO28.keep0 E34
   have hb := hb.step0 E34
   have hO32 := hO32.mono (base' := w.heap.size) (by omega)
   skip
   refine ke_end rfl (by decide) rfl hx ?_
   intro w35 E35 _ a35 hN35 hbs35 hdp35 o_ ho_; obtain rfl := Option.some.inj ho_
   have z_w35 := E35.size
   have hx := hx.keep0 E35
   have ok := ok.keep0 E35
   have oc := oc.keep0 E35
   have hB17 := hB17.keep0 E35
   have hO28 := hO28.keep0 E35
   have hO32 := hO32.keep0 E35
   have hb := hb.step0 E35
   have q35_80 : Sl a35 80 (ptr b15 1) := (hdp35 19 _ 80 (by kernel_rfl) rfl rfl).2 rfl
   have q35_70 : Sl a35 70 v28 := (Option.some.inj ((hdp35 9 _ 70 (by kernel_rfl) rfl rfl).1 0 rfl)).symm
   have hB17_old := hB17
   refine op_store (vs := [v28]) (cs' := [(Value.slice none 0 0), v28, (Value.slice none 0 0)]) size90 (ev_base hN35 rfl q35_80) (ev_base hN35 rfl q35_70) hO28.cl rfl (by simp only [List.all_cons, List.all_nil, Bool.true_and, Bool.and_true, hO28.one]; try rfl) hB17 (Nat.le_of_ble_eq_true rfl) rfl ?_
   intro w36 hB17 E37
   have z_w36 := E37.size
   have hx := hx.keep E37 (by simp; omega)
   have ok := ok.keepX hB17_old E37 (by decide)
   have oc := oc.keepX hB17_old E37 (by decide)
   have hO28 := hO28.keepX hB17_old E37 (by decide)
   have hO32 := hO32.keepX hB17_old E37 (by decide)
   have hb := hb.step1 E37 (by omega)
   refine ke_end0 rfl hx ?_
   intro w38 E38 a38 hN38 hd38 hbs38 hph38
   have hd38 := hd38.trans ((by simp only [putsL_defers] : _ = _).trans hd)
   have z_w38 := E38.size
   have hx := hx.keep0 E38
   have ok := ok.keep0 E38
   have oc := oc.keep0 E38
   have hO28 := hO28.keep0 E38
   have hO32 := hO32.keep0 E38
   have hB17 := hB17.keep0 E38
   have hb := hb.step0 E38
   have s38_0 := (hbs38 0 rfl).trans (sl_base hN rfl s0)
   have s38_4 := (hbs38 4 rfl).trans (sl_hit hN rfl)
   have s38_6 := (hbs38 6 rfl).trans (sl_hit hN rfl)
   have s38_7 := (hbs38 7 rfl).trans (sl_hit hN rfl)
   have s38_62 : Sl a38 62 (ptr b15 0) := (hph38 1 _ 62 rfl rfl).2 rfl
   have s38_78 : Sl a38 78 v32 := (Option.some.inj ((hph38 17 _ 78 rfl rfl).1 1 rfl)).symm
   refine split_end ?_
   refine from_seq (tl := [_, _, _]) (by decide) (by kernel_rfl) rfl ?_
   refine op_nil (ev_base hN38 rfl s38_62) (op_field fld93_2 (ev_hit hN38 rfl) ?_)
   have hB17_old := hB17
   refine op_store (vs := [v32]) (cs' := [(Value.slice none 0 0), v28, v32]) size91 (ev_hit hN38 rfl) (ev_base hN38 rfl s38_78) hO32.cl rfl (by simp only [List.all_cons, List.all_nil, Bool.true_and, Bool.and_true, hO32.one]; try rfl) hB17 (Nat.le_of_ble_eq_true rfl) rfl ?_
   intro w39 hB17 E40
   have z_w39 := E40.size
   have hx := hx.keep E40 (by simp; omega)
   have ok := ok.keepX hB17_old E40 (by decide)
   have oc := oc.keepX hB17_old E40 (by decide)
   have hO28 := hO28.keepX hB17_old E40 (by decide)
   have hO32 := hO32.keepX hB17_old E40 (by decide)
   have hb := hb.step1 E40 (by omega)
   refine reg_nil (hK25 _ _ (seq_any fun K41 hK41 => reg_split (hd := [_, _, _, _, _, _, _, _, _, _, _, _, _, _, _, _, _, _]) (tl := _) 18 mixed (by kernel_rfl) rfl rfl ?_))
   refine any_envk (φ := phiV [(fun uz => uz = (ptr p 0)), (fun uz => uz = (ptr p 0)), (fun uz => uz = (ptr p 0)), (fun uz => uz = (ptr p 0)), (fun uz => uz = (ptr p 1)), (fun uz => uz = kv), (fun uz => uz = (Value.int .i64 ((K.length / 2 : Nat) : Int))), (fun uz => uz = (hiV kv (K.length / 2))), (fun uz => uz = (ptr p 0)), (fun uz => uz = (ptr p 0)), (fun uz => uz = (ptr p 2)), (fun uz => uz = cv), (fun uz => uz = (Value.int .i64 ((K.length / 2 : Nat) : Int))), (fun uz => uz = (Value.int .i64 (((K.length / 2 : Nat) : Int) + 1))), (fun uz => uz = (hiV cv ((K.length / 2) + 1))), (fun uz => uz = (ptr p 0)), (fun uz => uz = (ptr p 1)), (fun _ => True)]) (G := fun c9 w' => c9 ≤ 0 → (Bx w' p 93 [(Value.slice none 0 0), kv, cv])) [17] (by kernel_rfl) (by kernel_rfl) (by kernel_rfl) (by kernel_rfl) hN38 (fun _ w1 w2 E h hc9 => (h hc9).keep0 E) (fun _ => hx) (ObKs.cons ?_ (ObKs.cons ?_ (ObKs.cons ?_ (ObKs.cons ?_ (ObKs.cons ?_ (ObKs.cons ?_ (ObKs.cons ?_ (ObKs.cons ?_ (ObKs.cons ?_ (ObKs.cons ?_ (ObKs.cons ?_ (ObKs.cons ?_ (ObKs.cons ?_ (ObKs.cons ?_ (ObKs.cons ?_ (ObKs.cons ?_ (ObKs.cons ?_ (ObKs.pass rfl (ObKs.nil))))))))))))))))))) (by simp only [putsL_defers]) ?_
   ·
    intro eA aA wA hNA hckA hGA hbsA hdpA
    have qA_0 := (hbsA 0 rfl).trans (sl_base hN38 rfl s38_0)
    refine op_move (ev_base hNA rfl qA_0) ?_
    exact obK_end rfl rfl rfl
   ·
    intro eA aA wA hNA hckA hGA hbsA hdpA
    have qA_0 := (hbsA 0 rfl).trans (sl_base hN38 rfl s38_0)
    refine op_move (ev_base hNA rfl qA_0) ?_
    exact obK_end rfl rfl rfl
   ·
    intro eA aA wA hNA hckA hGA hbsA hdpA
    have qA_0 := (hbsA 0 rfl).trans (sl_base hN38 rfl s38_0)
    refine op_move (ev_base hNA rfl qA_0) ?_
    exact obK_end rfl rfl rfl
   ·
    intro eA aA wA hNA hckA hGA hbsA hdpA
    have qA_85 : Sl aA 85 (ptr p 0) := (hdpA 2 _ 85 (by kernel_rfl) rfl rfl).2 rfl
    refine op_nil (ev_base hNA rfl qA_85) ?_
    exact obK_end rfl rfl rfl
   ·
    intro eA aA wA hNA hckA hGA hbsA hdpA
    have qA_86 : Sl aA 86 (ptr p 0) := (hdpA 3 _ 86 (by kernel_rfl) rfl rfl).2 rfl
    refine op_field fld93_1 (ev_base hNA rfl qA_86) ?_
    exact obK_end rfl rfl rfl
   ·
    intro eA aA wA hNA hckA hGA hbsA hdpA
    have qA_87 : Sl aA 87 (ptr p 1) := (hdpA 4 _ 87 (by kernel_rfl) rfl rfl).2 rfl
    have hGA := hGA (hckA 0 17 rfl (by kernel_rfl))
    refine op_load1 (v := kv) one90 (ev_base hNA rfl qA_87) (hGA.cell rfl) ?_
    exact obK_end rfl rfl rfl
   ·
    intro eA aA wA hNA hckA hGA hbsA hdpA
    have qA_6 := (hbsA 6 rfl).trans (sl_base hN38 rfl s38_6)
    refine op_move (ev_base hNA rfl qA_6) ?_
    exact obK_end rfl rfl rfl
   ·
    intro eA aA wA hNA hckA hGA hbsA hdpA
    have qA_88 : Sl aA 88 kv := (hdpA 5 _ 88 (by kernel_rfl) rfl rfl).2 rfl
    have qA_89 : Sl aA 89 (Value.int .i64 ((K.length / 2 : Nat) : Int)) := (hdpA 6 _ 89 (by kernel_rfl) rfl rfl).2 rfl
    refine op_slice_hiC (m := (K.length / 2)) slt90 (ev_base hNA rfl qA_88) hck3 (ev_base hNA rfl qA_89) (by omega) (by omega) ?_
    exact obK_end rfl rfl rfl
   ·
    intro eA aA wA hNA hckA hGA hbsA hdpA
    have qA_0 := (hbsA 0 rfl).trans (sl_base hN38 rfl s38_0)
    refine op_move (ev_base hNA rfl qA_0) ?_
    exact obK_end rfl rfl rfl
   ·
    intro eA aA wA hNA hckA hGA hbsA hdpA
    have qA_91 : Sl aA 91 (ptr p 0) := (hdpA 8 _ 91 (by kernel_rfl) rfl rfl).2 rfl
    refine op_nil (ev_base hNA rfl qA_91) ?_
    exact obK_end rfl rfl rfl
   ·
    intro eA aA wA hNA hckA hGA hbsA hdpA
    have qA_92 : Sl aA 92 (ptr p 0) := (hdpA 9 _ 92 (by kernel_rfl) rfl rfl).2 rfl
    refine op_field fld93_2 (ev_base hNA rfl qA_92) ?_
    exact obK_end rfl rfl rfl
   ·
    intro eA aA wA hNA hckA hGA hbsA hdpA
    have qA_93 : Sl aA 93 (ptr p 2) := (hdpA 10 _ 93 (by kernel_rfl) rfl rfl).2 rfl
    have hGA := hGA (hckA 0 17 rfl (by kernel_rfl))
    refine op_load1 (v := cv) one91 (ev_base hNA rfl qA_93) (hGA.cell rfl) ?_
    exact obK_end rfl rfl rfl
   ·
    intro eA aA wA hNA hckA hGA hbsA hdpA
    have qA_6 := (hbsA 6 rfl).trans (sl_base hN38 rfl s38_6)
    refine op_move (ev_base hNA rfl qA_6) ?_
    exact obK_end rfl rfl rfl
   ·
    intro eA aA wA hNA hckA hGA hbsA hdpA
    have qA_95 : Sl aA 95 (Value.int .i64 ((K.length / 2 : Nat) : Int)) := (hdpA 12 _ 95 (by kernel_rfl) rfl rfl).2 rfl
    refine op_add (ev_base hNA rfl qA_95) rfl (add64 (by omega)) ?_
    exact obK_end rfl rfl rfl
   ·
    intro eA aA wA hNA hckA hGA hbsA hdpA
    have qA_94 : Sl aA 94 cv := (hdpA 11 _ 94 (by kernel_rfl) rfl rfl).2 rfl
    have qA_96 : Sl aA 96 (Value.int .i64 (((K.length / 2 : Nat) : Int) + 1)) := (hdpA 13 _ 96 (by kernel_rfl) rfl rfl).2 rfl
    refine op_slice_hiC (m := (K.length / 2) + 1) slt91 (ev_base hNA rfl qA_94) hcc3 (ev_base hNA rfl qA_96) (by omega) (by omega) ?_
    exact obK_end rfl rfl rfl
   ·
    intro eA aA wA hNA hckA hGA hbsA hdpA
    have qA_83 : Sl aA 83 (ptr p 0) := (hdpA 0 _ 83 (by kernel_rfl) rfl rfl).2 rfl
    refine op_nil (ev_base hNA rfl qA_83) ?_
    exact obK_end rfl rfl rfl
   ·
    intro eA aA wA hNA hckA hGA hbsA hdpA
    have qA_98 : Sl aA 98 (ptr p 0) := (hdpA 15 _ 98 (by kernel_rfl) rfl rfl).2 rfl
    refine op_field fld93_1 (ev_base hNA rfl qA_98) ?_
    exact obK_end rfl rfl rfl
   ·
    intro w43 E43 _ a43 hN43 hbs43 hdp43 o_ ho_; obtain rfl := Option.some.inj ho_
    have z_w43 := E43.size
    have hx := hx.keep0 E43
    have ok := ok.keep0 E43
    have oc := oc.keep0 E43
    have hO28 := hO28.keep0 E43
    have hO32 := hO32.keep0 E43
    have hB17 := hB17.keep0 E43
    have hb := hb.step0 E43
    have q43_99 : Sl a43 99 (ptr p 1) := (hdp43 16 _ 99 (by kernel_rfl) rfl rfl).2 rfl
    have q43_90 : Sl a43 90 (hiV kv (K.length / 2)) := (hdp43 7 _ 90 (by kernel_rfl) rfl rfl).2 rfl
    have hx_old := hx
    refine op_store (vs := [(hiV kv (K.length / 2))]) (cs' := [(Value.slice none 0 0), (hiV kv (K.length / 2)), cv]) size90 (ev_base hN43 rfl q43_99) (ev_base hN43 rfl q43_90) (own_cl (ok.hiCut (k := (K.length / 2)) (by omega))) rfl (by simp only [List.all_cons, List.all_nil, Bool.true_and, Bool.and_true, (own_one (ok.hiCut (k := (K.length / 2)) (by omega)))]; try rfl) hx (Nat.le_of_ble_eq_true rfl) rfl ?_
    intro w44 hx E45
    have z_w44 := E45.size
    have ok := ok.keepX hx_old E45 (by decide)
    have oc := oc.keepX hx_old E45 (by decide)
    have hO28 := hO28.keepX hx_old E45 (by decide)
    have hO32 := hO32.keepX hx_old E45 (by decide)
    have hB17 := hB17.keep E45 (by simp; omega)
    have hb := hb.stepB E45 rfl
    refine kk_end0 rfl (fun h => absurd h (by simp)) ?_
    intro w46 E46 a46 hN46 hd46 hbs46 hph46
    have hd46 := hd46.trans ((by simp only [putsL_defers] : _ = _).trans hd38)
    have z_w46 := E46.size
    have ok := ok.keep0 E46
    have oc := oc.keep0 E46
    have hO28 := hO28.keep0 E46
    have hO32 := hO32.keep0 E46
    have hB17 := hB17.keep0 E46
    have hx := hx.keep0 E46
    have hb := hb.step0 E46
    have s46_4 := (hbs46 4 rfl).trans (sl_base hN38 rfl s38_4)
    have s46_7 := (hbs46 7 rfl).trans (sl_base hN38 rfl s38_7)
    have s46_84 : Sl a46 84 (ptr p 0) := (hph46 1 _ 84 rfl rfl).2 rfl
    have s46_97 : Sl a46 97 (hiV cv ((K.length / 2) + 1)) := (hph46 14 _ 97 rfl rfl).2 rfl
    refine split_end ?_
    refine from_seq (tl := [_, _, _]) (by decide) (by kernel_rfl) rfl ?_
    refine op_nil (ev_base hN46 rfl s46_84) (op_field fld93_2 (ev_hit hN46 rfl) ?_)
    have hx_old := hx
    refine op_store (vs := [(hiV cv ((K.length / 2) + 1))]) (cs' := [(Value.slice none 0 0), (hiV kv (K.length / 2)), (hiV cv ((K.length / 2) + 1))]) size91 (ev_hit hN46 rfl) (ev_base hN46 rfl s46_97) (own_cl (oc.hiCut (k := (K.length / 2) + 1) (by omega))) rfl (by simp only [List.all_cons, List.all_nil, Bool.true_and, Bool.and_true, (own_one (oc.hiCut (k := (K.length / 2) + 1) (by omega)))]; try rfl) hx (Nat.le_of_ble_eq_true rfl) rfl ?_
    intro w47 hx E48
    have z_w47 := E48.size
    have ok := ok.keepX hx_old E48 (by decide)
    have oc := oc.keepX hx_old E48 (by decide)
    have hO28 := hO28.keepX hx_old E48 (by decide)
    have hO32 := hO32.keepX hx_old E48 (by decide)
    have hB17 := hB17.keep E48 (by simp; omega)
    have hb := hb.stepB E48 rfl
    refine reg_nil (hK41 _ _ (seq_any fun K49 hK49 => one_reg (op_move (ev_base hN46 rfl s46_7) (op_move (ev_base hN46 rfl s46_4) (op_assign (ev_hit hN46 rfl) ?_)))))
    refine op_assign (ev_hit hN46 rfl) ?_
    refine reg_nil (hK49 _ _ (wp_ret ?_))
    refine ret2 rfl hd46 (ev_hit hN46 rfl) (ev_hit hN46 rfl) ⟨_, rfl, ?_⟩
    exact ⟨hb, b15, v28, v32, rfl, hx, (ok.hiCut (k := (K.length / 2)) (by omega)).cast (by simp; omega) (flat_take cK_len _ _), (oc.hiCut (k := (K.length / 2) + 1) (by omega)).cast (by simp; omega) (flat_take cN_len _ _), by omega, hB17, hO28, hO32⟩

theorem halvesLsA {p : Nat} {pv : Value} {D : List (DP (Int × Int))} {w : World} (hx : Bx w p 105 [pv, .slice none 0 0, .slice none 0 0]) (op : Own w 0 109 3 pv D.length (D.flatMap cA)) (h6 : D.length ≤ 6) : Ret Try.prog 75 #[(ptr p 0)] w (fun v' w' => v' = .tuple #[.slice none 0 0, .pointer none] ∧ w' = w) := by
 refine enter (N := 104) Try.func75 rfl rfl (by simp) fun a0 hN hd hA => ?_
 have s0 : a0.tmps.getD 0 undef = (ptr p 0) := hA 0 (by simp)
 clear hA
 refine seq_any fun K1 hK1 => one_reg (op_assign rfl (op_assign rfl ?_))
 refine reg_nil (hK1 _ _ (seq_any fun K3 hK3 => seq_any fun K4 hK4 => one_reg (op_move (ev_base hN rfl s0) (op_fn (vs := [(ptr p 0)]) ok80 ⟨(ev_hit hN rfl), trivial⟩ (Ret.flip (sizeLA hx op)) ?_))))
 rintro _ _ ⟨rfl, rfl⟩
 refine op_leq (ev_hit hN rfl) rfl (fun c10 => ?_) (fun c10 => ?_)
 · -- 10T
  refine reg_nil (hK4 _ _ (wp_cond_true (ev_hit hN rfl) ?_))
  refine seq_any fun K5 hK5 => one_reg (op_assign rfl (op_assign rfl (reg_nil (hK5 _ _ (wp_ret (then_ret ( ?_)))))))
  refine ret2 rfl hd (ev_hit hN rfl) (ev_hit hN rfl) ⟨_, rfl, ?_⟩
  exact ⟨rfl, rfl⟩
 · -- 10F
  exfalso; omega

theorem halvesNsA {p : Nat} {kv cv : Value} {K : List DK} {P : List Nat} {w : World} (hx : Bx w p 105 [.slice none 0 0, kv, cv]) (ok : Own w 0 27 1 kv K.length (K.flatMap cK)) (oc : Own w 0 99 1 cv P.length (P.flatMap cN)) (hP : P.length = K.length + 1) (h6 : K.length ≤ 6) : Ret Try.prog 75 #[(ptr p 0)] w (fun v' w' => v' = .tuple #[.slice none 0 0, .pointer none] ∧ w' = w) := by
 refine enter (N := 104) Try.func75 rfl rfl (by simp) fun a0 hN hd hA => ?_
 have s0 : a0.tmps.getD 0 undef = (ptr p 0) := hA 0 (by simp)
 clear hA
 refine seq_any fun K1 hK1 => one_reg (op_assign rfl (op_assign rfl ?_))
 refine reg_nil (hK1 _ _ (seq_any fun K3 hK3 => seq_any fun K4 hK4 => one_reg (op_move (ev_base hN rfl s0) (op_fn (vs := [(ptr p 0)]) ok80 ⟨(ev_hit hN rfl), trivial⟩ (Ret.flip (sizeNA hx ok oc (by omega) (by omega))) ?_))))
 rintro _ _ ⟨rfl, rfl⟩
 refine op_leq (ev_hit hN rfl) rfl (fun c10 => ?_) (fun c10 => ?_)
 · -- 10T
  refine reg_nil (hK4 _ _ (wp_cond_true (ev_hit hN rfl) ?_))
  refine seq_any fun K5 hK5 => one_reg (op_assign rfl (op_assign rfl (reg_nil (hK5 _ _ (wp_ret (then_ret ( ?_)))))))
  refine ret2 rfl hd (ev_hit hN rfl) (ev_hit hN rfl) ⟨_, rfl, ?_⟩
  exact ⟨rfl, rfl⟩
 · -- 10F
  exfalso; omega

theorem halvesLbA {p : Nat} {pv : Value} {D : List (DP (Int × Int))} {w : World} (hx : Bx w p 105 [pv, .slice none 0 0, .slice none 0 0]) (op : Own w 0 109 3 pv D.length (D.flatMap cA)) (ks : ∀ x9 ∈ D.map pk, Own w 0 5 1 x9.1 x9.2.length (x9.2.map u8v)) (h6 : 6 < D.length) (hn : D.length ≤ 1000) : Ret Try.prog 75 #[(ptr p 0)] w (fun v' w' => Gr w w' (fun y => y = p) ∧ ∃ q qv, v' = .tuple #[((D.drop (D.length - 3)).getD 0 default).1, ptr q 0] ∧ Bx w' p 105 [hiV pv (D.length - 3), .slice none 0 0, .slice none 0 0] ∧ Own w' 0 109 3 (hiV pv (D.length - 3)) (D.take (D.length - 3)).length ((D.take (D.length - 3)).flatMap cA) ∧ w.heap.size ≤ q ∧ Bx w' q 105 [qv, .slice none 0 0, .slice none 0 0] ∧ Own w' w.heap.size 109 3 qv (D.drop (D.length - 3)).length ((D.drop (D.length - 3)).flatMap cA)) := by
 have hi_p := hx.lt
 obtain ⟨cp, hcp1, hcp2, hcp3⟩ := op.cap
 have hb := Gr.refl w (fun y => y = p)
 refine enter (N := 104) Try.func75 rfl rfl (by simp) fun a0 hN hd hA => ?_
 have s0 : a0.tmps.getD 0 undef = (ptr p 0) := hA 0 (by simp)
 clear hA
 refine seq_any fun K4 hK4 => one_reg (op_assign rfl (op_assign rfl ?_))
 refine reg_nil (hK4 _ _ (seq_any fun K5 hK5 => seq_any fun K7 hK7 => one_reg (op_move (ev_base hN rfl s0) (op_fn (vs := [(ptr p 0)]) ok80 ⟨(ev_hit hN rfl), trivial⟩ (Ret.flip (sizeLA hx op)) ?_))))
 rintro _ _ ⟨rfl, rfl⟩
 refine op_leq (ev_hit hN rfl) rfl (fun c10 => ?_) (fun c10 => ?_)
 · -- 10T
  exfalso; omega
 · -- 10F
  refine reg_nil (hK7 _ _ (wp_cond_false (ev_hit hN rfl) ?_))
  refine wp_skip ?_
  refine hK5 _ _ (seq_any fun K11 hK11 => one_reg (op_build (pv := []) (v := (Value.agg #[(Value.slice none 0 0), (Value.slice none 0 0), (Value.slice none 0 0)])) trivial (by kernel_rfl) ?_))
  refine op_box (cs := [(Value.slice none 0 0), (Value.slice none 0 0), (Value.slice none 0 0)]) (ev_hit hN rfl) rfl ?_
  intro w12 b13 lo_b13 hi_b13 hB15 E14
  have z_w12 := E14.size
  have hx := hx.keep0 E14
  have op := op.keep0 E14
  have ks := all9 ks fun _ h => h.keep0 E14
  have hb := hb.step0 E14
  refine op_assign (ev_hit hN rfl) ?_
  refine reg_nil (hK11 _ _ (seq_any fun K16 hK16 => seq_any fun K17 hK17 => one_reg (op_move (ev_base hN rfl s0) (op_fn (vs := [(ptr p 0)]) ok70 ⟨(ev_hit hN rfl), trivial⟩ (Ret.flip (leafLA hx op)) ?_))))
  rintro _ _ ⟨rfl, rfl⟩
  refine reg_nil (hK17 _ _ (wp_cond_true (ev_hit hN rfl) ?_))
  refine seq_any fun K18 hK18 => one_reg (op_move (ev_base hN rfl s0) (op_nil (ev_hit hN rfl) (op_field fld105_0 (ev_hit hN rfl) (op_load1 (v := pv) one102 (ev_hit hN rfl) (hx.cell rfl) (op_len_rd Try.underlying102 (ev_hit hN rfl) op.rdw ?_)))))
  refine op_sub (r := ((D.length - 3 : Nat) : Int)) (ev_hit hN rfl) rfl ((sub64 (by omega)).trans (by omega)) ?_
  refine op_assign (ev_hit hN rfl) ?_
  refine reg_nil (hK18 _ _ (seq_any fun K19 hK19 => one_reg ?_))
  refine op_move (ev_hit hN rfl) (op_move (ev_base hN rfl s0) (op_nil (ev_hit hN rfl) (op_field fld105_0 (ev_hit hN rfl) (op_load1 (v := pv) one102 (ev_hit hN rfl) (hx.cell rfl) (op_move (ev_hit hN rfl) (op_slice_cutS (k := (D.length - 3)) slt102 (ev_hit hN rfl) op (ev_hit hN rfl) (by omega) (by omega) ?_))))))
  refine op_fn (vs := [(cutS 3 pv (D.length - 3))]) ok111 ⟨(ev_hit hN rfl), trivial⟩ (clPA (RdC.mono (((op.cutO (k := (D.length - 3)) (by omega)).rdw).cast (by simp) (flat_drop cA_len _ _)) (Nat.zero_le _) (Nat.le_refl _)) (by simp; omega) (one_pA ks (fun _ h => List.mem_of_mem_drop h))) ?_
  rintro v20 w21 ⟨E22, hO20⟩
  have E22 := grown_of_below E22
  have z_w21 := E22.size
  have hx := hx.keep0 E22
  have op := op.keep0 E22
  have hB15 := hB15.keep0 E22
  have hb := hb.step0 E22
  have hO20 := hO20.mono (base' := w.heap.size) (by omega)
  skip
  refine op_nil (ev_hit hN rfl) (op_field fld105_0 (ev_hit hN rfl) ?_)
  have hB15_old := hB15
  refine op_store (vs := [v20]) (cs' := [v20, (Value.slice none 0 0), (Value.slice none 0 0)]) size102 (ev_hit hN rfl) (ev_hit hN rfl) hO20.cl rfl (by simp only [List.all_cons, List.all_nil, Bool.true_and, Bool.and_true, hO20.one]; try rfl) hB15 (Nat.le_of_ble_eq_true rfl) rfl ?_
  intro w23 hB15 E24
  have z_w23 := E24.size
  have hx := hx.keep E24 (by simp; omega)
  have op := op.keepX hB15_old E24 (by decide)
  have hO20 := hO20.keepX hB15_old E24 (by decide)
  have hb := hb.step1 E24 (by omega)
  refine reg_nil (hK19 _ _ (seq_any fun K25 hK25 => one_reg ?_))
  refine op_move (ev_base hN rfl s0) (op_move (ev_base hN rfl s0) (op_nil (ev_hit hN rfl) (op_field fld105_0 (ev_hit hN rfl) (op_load1 (v := pv) one102 (ev_hit hN rfl) (hx.cell rfl) (op_move (ev_hit hN rfl) (op_slice_hiC (m := (D.length - 3)) slt102 (ev_hit hN rfl) hcp3 (ev_hit hN rfl) (by omega) (by omega) ?_))))))
  refine op_nil (ev_hit hN rfl) (op_field fld105_0 (ev_hit hN rfl) ?_)
  have hx_old := hx
  refine op_store (vs := [(hiV pv (D.length - 3))]) (cs' := [(hiV pv (D.length - 3)), (Value.slice none 0 0), (Value.slice none 0 0)]) size102 (ev_hit hN rfl) (ev_hit hN rfl) (own_cl (op.hiCut (k := (D.length - 3)) (by omega))) rfl (by simp only [List.all_cons, List.all_nil, Bool.true_and, Bool.and_true, (own_one (op.hiCut (k := (D.length - 3)) (by omega)))]; try rfl) hx (Nat.le_of_ble_eq_true rfl) rfl ?_
  intro w26 hx E28
  have z_w26 := E28.size
  have op := op.keepX hx_old E28 (by decide)
  have hO20 := hO20.keepX hx_old E28 (by decide)
  have hB15 := hB15.keep E28 (by simp; omega)
  have hb := hb.stepB E28 rfl
  refine reg_nil (hK25 _ _ ?_)
  refine seq_any fun K29 hK29 => one_reg (op_move (ev_hit hN rfl) (op_nil (ev_hit hN rfl) (op_field fld105_0 (ev_hit hN rfl) (op_load1 (v := v20) one102 (ev_hit hN rfl) (hB15.cell rfl) (op_index_rd slt102 (ev_hit hN rfl) hO20.rdw rfl (by omega) (by first | omega | (simp only [List.length_drop, List.length_take]; omega)) ?_)))))
  intro b30 o31 h0b30 h1b30 hc32
  refine op_field fld109_0 (ev_hit hN rfl) (op_load1 (v := ((D.drop (D.length - 3)).getD 0 default).1) one27 (ev_hit hN rfl) (hc32 0 (((D.drop (D.length - 3)).getD 0 default).1) (by decide) ((el_pA (i := 0) (by omega) (by first | omega | (simp only [List.length_drop, List.length_take]; omega))) 0 (((D.drop (D.length - 3)).getD 0 default).1) rfl)) (op_move (ev_hit hN rfl) (op_assign (ev_hit hN rfl) ?_)))
  refine op_assign (ev_hit hN rfl) ?_
  refine reg_nil (hK29 _ _ (wp_ret (then_ret ( ?_))))
  refine ret2 rfl hd (ev_hit hN rfl) (ev_hit hN rfl) ⟨_, rfl, ?_⟩
  exact ⟨hb, b13, v20, rfl, hx, (op.hiCut (k := (D.length - 3)) (by omega)).cast (by simp) (flat_take cA_len _ _), by omega, hB15, hO20⟩

theorem halvesNbA {p : Nat} {kv cv : Value} {K : List DK} {P : List Nat} {w : World} (hx : Bx w p 105 [.slice none 0 0, kv, cv]) (ok : Own w 0 27 1 kv K.length (K.flatMap cK)) (oc : Own w 0 99 1 cv P.length (P.flatMap cN)) (ks : ∀ x9 ∈ K, Own w 0 5 1 x9.1 x9.2.length (x9.2.map u8v)) (hP : P.length = K.length + 1) (h6 : 6 < K.length) (hn : K.length ≤ 900) : Ret Try.prog 75 #[(ptr p 0)] w (fun v' w' => Gr w w' (fun y => y = p) ∧ ∃ q qk qc, v' = .tuple #[(K.getD (K.length / 2) default).1, ptr q 0] ∧ Bx w' p 105 [.slice none 0 0, hiV kv (K.length / 2), hiV cv ((K.length / 2) + 1)] ∧ Own w' 0 27 1 (hiV kv (K.length / 2)) (K.take (K.length / 2)).length ((K.take (K.length / 2)).flatMap cK) ∧ Own w' 0 99 1 (hiV cv ((K.length / 2) + 1)) (P.take ((K.length / 2) + 1)).length ((P.take ((K.length / 2) + 1)).flatMap cN) ∧ w.heap.size ≤ q ∧ Bx w' q 105 [.slice none 0 0, qk, qc] ∧ Own w' w.heap.size 27 1 qk (K.drop ((K.length / 2) + 1)).length ((K.drop ((K.length / 2) + 1)).flatMap cK) ∧ Own w' w.heap.size 99 1 qc (P.drop ((K.length / 2) + 1)).length ((P.drop ((K.length / 2) + 1)).flatMap cN)) := by
 have hi_p := hx.lt
 obtain ⟨ck, hck1, hck2, hck3⟩ := ok.cap
 obtain ⟨cc, hcc1, hcc2, hcc3⟩ := oc.cap
 have hb := Gr.refl w (fun y => y = p)
 refine enter (N := 104) Try.func75 rfl rfl (by simp) fun a0 hN hd hA => ?_
 have s0 : a0.tmps.getD 0 undef = (ptr p 0) := hA 0 (by simp)
 clear hA
 refine seq_any fun K5 hK5 => one_reg (op_assign rfl (op_assign rfl ?_))
 refine reg_nil (hK5 _ _ (seq_any fun K11 hK11 => seq_any fun K12 hK12 => one_reg (op_move (ev_base hN rfl s0) (op_fn (vs := [(ptr p 0)]) ok80 ⟨(ev_hit hN rfl), trivial⟩ (Ret.flip (sizeNA hx ok oc (by omega) (by omega))) ?_))))
 rintro _ _ ⟨rfl, rfl⟩
 refine op_leq (ev_hit hN rfl) rfl (fun c10 => ?_) (fun c10 => ?_)
 · -- 10T
  exfalso; omega
 · -- 10F
  refine reg_nil (hK12 _ _ (wp_cond_false (ev_hit hN rfl) ?_))
  refine wp_skip ?_
  refine hK11 _ _ (seq_any fun K13 hK13 => one_reg (op_build (pv := []) (v := (Value.agg #[(Value.slice none 0 0), (Value.slice none 0 0), (Value.slice none 0 0)])) trivial (by kernel_rfl) ?_))
  refine op_box (cs := [(Value.slice none 0 0), (Value.slice none 0 0), (Value.slice none 0 0)]) (ev_hit hN rfl) rfl ?_
  intro w14 b15 lo_b15 hi_b15 hB17 E16
  have z_w14 := E16.size
  have hx := hx.keep0 E16
  have ok := ok.keep0 E16
  have oc := oc.keep0 E16
  have ks := all9 ks fun _ h => h.keep0 E16
  have hb := hb.step0 E16
  refine op_assign (ev_hit hN rfl) ?_
  refine reg_nil (hK13 _ _ (seq_any fun K18 hK18 => seq_any fun K19 hK19 => one_reg (op_move (ev_base hN rfl s0) (op_fn (vs := [(ptr p 0)]) ok70 ⟨(ev_hit hN rfl), trivial⟩ (Ret.flip (leafNA hx ok oc (by omega) (by omega))) ?_))))
  rintro _ _ ⟨rfl, rfl⟩
  refine reg_nil (hK19 _ _ (wp_cond_false (ev_hit hN rfl) ?_))
  refine wp_skip ?_
  refine hK18 _ _ ?_
  refine seq_any fun K20 hK20 => one_reg (op_move (ev_base hN rfl s0) (op_nil (ev_hit hN rfl) (op_field fld105_1 (ev_hit hN rfl) (op_load1 (v := kv) one90 (ev_hit hN rfl) (hx.cell rfl) (op_len_rd Try.underlying90 (ev_hit hN rfl) ok.rdw ?_)))))
  refine op_quo (r := ((K.length / 2 : Nat) : Int)) (ev_hit hN rfl) rfl (by decide) (by rw [IntKind.wrap_i64, Int.tdiv_eq_ediv_of_nonneg (by omega)]; omega) ?_
  refine op_assign (ev_hit hN rfl) ?_
  refine reg_nil (hK20 _ _ (seq_any fun K21 hK21 => ?_))
  refine one_reg (op_move (ev_base hN rfl s0) (op_nil (ev_hit hN rfl) (op_field fld105_1 (ev_hit hN rfl) (op_load1 (v := kv) one90 (ev_hit hN rfl) (hx.cell rfl) (op_move (ev_hit hN rfl) (op_index_rd slt90 (ev_hit hN rfl) ok.rdw (ev_hit hN rfl) (by omega) (by omega) ?_))))))
  intro b22 o23 h0b22 h1b22 hc24
  refine op_load1 (v := (K.getD (K.length / 2) default).1) one27 (ev_hit hN rfl) (by have := hc24 0 (K.getD (K.length / 2) default).1 (by decide) (el_kd (i := (K.length / 2)) (by omega) (by first | omega | (simp only [List.length_drop, List.length_take]; omega))); simpa using this) (op_assign (ev_hit hN rfl) ?_)
  refine reg_nil (hK21 _ _ (seq_any fun K25 hK25 => reg_split (hd := [_, _, _, _, _, _, _, _, _, _, _, _, _, _, _, _, _, _, _, _, _]) (tl := _) 21 mixed (by kernel_rfl) rfl rfl ?_))
  refine any_env (φ := phiV [(fun uz => uz = (ptr b15 0)), (fun uz => uz = (ptr b15 0)), (fun uz => uz = (ptr p 0)), (fun uz => uz = (ptr p 0)), (fun uz => uz = (ptr p 1)), (fun uz => uz = kv), (fun uz => uz = (Value.int .i64 ((K.length / 2 : Nat) : Int))), (fun uz => uz = (Value.int .i64 (((K.length / 2 : Nat) : Int) + 1))), (fun uz => uz = (cutS 1 kv ((K.length / 2) + 1))), (fun _ => True), (fun uz => uz = (ptr p 0)), (fun uz => uz = (ptr p 0)), (fun uz => uz = (ptr p 2)), (fun uz => uz = cv), (fun uz => uz = (Value.int .i64 ((K.length / 2 : Nat) : Int))), (fun uz => uz = (Value.int .i64 (((K.length / 2 : Nat) : Int) + 1))), (fun uz => uz = (cutS 1 cv ((K.length / 2) + 1))), (fun _ => True), (fun uz => uz = (ptr b15 0)), (fun uz => uz = (ptr b15 1)), (fun _ => True)]) (G := fun w' => Bx w' p 105 [(Value.slice none 0 0), kv, cv]) [9, 17, 20] (by kernel_rfl) (by kernel_rfl) (by kernel_rfl) (by kernel_rfl) hN (fun w1 w2 E h => h.keep0 E) hx (ObEs.cons ?_ (ObEs.cons ?_ (ObEs.cons ?_ (ObEs.cons ?_ (ObEs.cons ?_ (ObEs.cons ?_ (ObEs.cons ?_ (ObEs.cons ?_ (ObEs.cons ?_ (ObEs.pass rfl (ObEs.cons ?_ (ObEs.cons ?_ (ObEs.cons ?_ (ObEs.cons ?_ (ObEs.cons ?_ (ObEs.cons ?_ (ObEs.cons ?_ (ObEs.pass rfl (ObEs.cons ?_ (ObEs.cons ?_ (ObEs.pass rfl (ObEs.nil)))))))))))))))))))))) (by simp only [putsL_defers]) ?_
  ·
   intro eA aA wA hNA hGA hbsA hdpA
   have qA_4 := (hbsA 4 rfl).trans (sl_hit hN rfl)
   refine op_move (ev_base hNA rfl qA_4) ?_
   exact obE_end rfl rfl rfl
  ·
   intro eA aA wA hNA hGA hbsA hdpA
   have qA_4 := (hbsA 4 rfl).trans (sl_hit hN rfl)
   refine op_move (ev_base hNA rfl qA_4) ?_
   exact obE_end rfl rfl rfl
  ·
   intro eA aA wA hNA hGA hbsA hdpA
   have qA_0 := (hbsA 0 rfl).trans (sl_base hN rfl s0)
   refine op_move (ev_base hNA rfl qA_0) ?_
   exact obE_end rfl rfl rfl
  ·
   intro eA aA wA hNA hGA hbsA hdpA
   have qA_63 : Sl aA 63 (ptr p 0) := (hdpA 2 _ 63 (by kernel_rfl) rfl rfl).2 rfl
   refine op_nil (ev_base hNA rfl qA_63) ?_
   exact obE_end rfl rfl rfl
  ·
   intro eA aA wA hNA hGA hbsA hdpA
   have qA_64 : Sl aA 64 (ptr p 0) := (hdpA 3 _ 64 (by kernel_rfl) rfl rfl).2 rfl
   refine op_field fld105_1 (ev_base hNA rfl qA_64) ?_
   exact obE_end rfl rfl rfl
  ·
   intro eA aA wA hNA hGA hbsA hdpA
   have qA_65 : Sl aA 65 (ptr p 1) := (hdpA 4 _ 65 (by kernel_rfl) rfl rfl).2 rfl
   refine op_load1 (v := kv) one90 (ev_base hNA rfl qA_65) (hGA.cell rfl) ?_
   exact obE_end rfl rfl rfl
  ·
   intro eA aA wA hNA hGA hbsA hdpA
   have qA_6 := (hbsA 6 rfl).trans (sl_hit hN rfl)
   refine op_move (ev_base hNA rfl qA_6) ?_
   exact obE_end rfl rfl rfl
  ·
   intro eA aA wA hNA hGA hbsA hdpA
   have qA_67 : Sl aA 67 (Value.int .i64 ((K.length / 2 : Nat) : Int)) := (hdpA 6 _ 67 (by kernel_rfl) rfl rfl).2 rfl
   refine op_add (ev_base hNA rfl qA_67) rfl (add64 (by omega)) ?_
   exact obE_end rfl rfl rfl
  ·
   intro eA aA wA hNA hGA hbsA hdpA
   have qA_66 : Sl aA 66 kv := (hdpA 5 _ 66 (by kernel_rfl) rfl rfl).2 rfl
   have qA_68 : Sl aA 68 (Value.int .i64 (((K.length / 2 : Nat) : Int) + 1)) := (hdpA 7 _ 68 (by kernel_rfl) rfl rfl).2 rfl
   refine op_slice_cutS (k := (K.length / 2) + 1) slt90 (ev_base hNA rfl qA_66) ok (ev_base hNA rfl qA_68) (by omega) (by omega) ?_
   exact obE_end rfl rfl rfl
  ·
   intro eA aA wA hNA hGA hbsA hdpA
   have qA_0 := (hbsA 0 rfl).trans (sl_base hN rfl s0)
   refine op_move (ev_base hNA rfl qA_0) ?_
   exact obE_end rfl rfl rfl
  ·
   intro eA aA wA hNA hGA hbsA hdpA
   have qA_71 : Sl aA 71 (ptr p 0) := (hdpA 10 _ 71 (by kernel_rfl) rfl rfl).2 rfl
   refine op_nil (ev_base hNA rfl qA_71) ?_
   exact obE_end rfl rfl rfl
  ·
   intro eA aA wA hNA hGA hbsA hdpA
   have qA_72 : Sl aA 72 (ptr p 0) := (hdpA 11 _ 72 (by kernel_rfl) rfl rfl).2 rfl
   refine op_field fld105_2 (ev_base hNA rfl qA_72) ?_
   exact obE_end rfl rfl rfl
  ·
   intro eA aA wA hNA hGA hbsA hdpA
   have qA_73 : Sl aA 73 (ptr p 2) := (hdpA 12 _ 73 (by kernel_rfl) rfl rfl).2 rfl
   refine op_load1 (v := cv) one103 (ev_base hNA rfl qA_73) (hGA.cell rfl) ?_
   exact obE_end rfl rfl rfl
  ·
   intro eA aA wA hNA hGA hbsA hdpA
   have qA_6 := (hbsA 6 rfl).trans (sl_hit hN rfl)
   refine op_move (ev_base hNA rfl qA_6) ?_
   exact obE_end rfl rfl rfl
  ·
   intro eA aA wA hNA hGA hbsA hdpA
   have qA_75 : Sl aA 75 (Value.int .i64 ((K.length / 2 : Nat) : Int)) := (hdpA 14 _ 75 (by kernel_rfl) rfl rfl).2 rfl
   refine op_add (ev_base hNA rfl qA_75) rfl (add64 (by omega)) ?_
   exact obE_end rfl rfl rfl
  ·
   intro eA aA wA hNA hGA hbsA hdpA
   have qA_74 : Sl aA 74 cv := (hdpA 13 _ 74 (by kernel_rfl) rfl rfl).2 rfl
   have qA_76 : Sl aA 76 (Value.int .i64 (((K.length / 2 : Nat) : Int) + 1)) := (hdpA 15 _ 76 (by kernel_rfl) rfl rfl).2 rfl
   refine op_slice_cutS (k := (K.length / 2) + 1) slt103 (ev_base hNA rfl qA_74) oc (ev_base hNA rfl qA_76) (by omega) (by omega) ?_
   exact obE_end rfl rfl rfl
  ·
   intro eA aA wA hNA hGA hbsA hdpA
   have qA_61 : Sl aA 61 (ptr b15 0) := (hdpA 0 _ 61 (by kernel_rfl) rfl rfl).2 rfl
   refine op_nil (ev_base hNA rfl qA_61) ?_
   exact obE_end rfl rfl rfl
  ·
   intro eA aA wA hNA hGA hbsA hdpA
   have qA_79 : Sl aA 79 (ptr b15 0) := (hdpA 18 _ 79 (by kernel_rfl) rfl rfl).2 rfl
   refine op_field fld105_1 (ev_base hNA rfl qA_79) ?_
   exact obE_end rfl rfl rfl
  ·
   intro w26 E26 _ a26 hN26 hbs26 hdp26 o_ ho_; obtain rfl := Option.some.inj ho_
   have z_w26 := E26.size
   have hx := hx.keep0 E26
   have ok := ok.keep0 E26
   have oc := oc.keep0 E26
   have ks := all9 ks fun _ h => h.keep0 E26
   have hB17 := hB17.keep0 E26
   have hb := hb.step0 E26
   have q26_69 : Sl a26 69 (cutS 1 kv ((K.length / 2) + 1)) := (hdp26 8 _ 69 (by kernel_rfl) rfl rfl).2 rfl
   refine op_fn (vs := [(cutS 1 kv ((K.length / 2) + 1))]) ok90 ⟨(ev_base hN26 rfl q26_69), trivial⟩ (clK (RdC.mono (((ok.cutO (k := (K.length / 2) + 1) (by omega)).rdw).cast (by simp) (flat_drop cK_len _ _)) (Nat.zero_le _) (Nat.le_refl _)) (by simp; omega) (one_kd ks (fun _ h => List.mem_of_mem_drop h))) ?_
   rintro v28 w29 ⟨E30, hO28⟩
   have E30 := grown_of_below E30
   have z_w29 := E30.size
   have hx := hx.keep0 E30
   have ok := ok.keep0 E30
   have oc := oc.keep0 E30
   have hB17 := hB17.keep0 E30
   have hb := hb.step0 E30
   have hO28 := hO28.mono (base' := w.heap.size) (by omega)
   skip
   refine ke_end rfl (by decide) rfl hx ?_
   intro w31 E31 _ a31 hN31 hbs31 hdp31 o_ ho_; obtain rfl := Option.some.inj ho_
   have z_w31 := E31.size
   have hx := hx.keep0 E31
   have ok := ok.keep0 E31
   have oc := oc.keep0 E31
   have hB17 := hB17.keep0 E31
   have hO28 := hO28.keep0 E31
   have hb := hb.step0 E31
   have q31_77 : Sl a31 77 (cutS 1 cv ((K.length / 2) + 1)) := (hdp31 16 _ 77 (by kernel_rfl) rfl rfl).2 rfl
   refine op_fn (vs := [(cutS 1 cv ((K.length / 2) + 1))]) ok112 ⟨(ev_base hN31 rfl q31_77), trivial⟩ (clNA (RdC.mono (((oc.cutO (k := (K.length / 2) + 1) (by omega)).rdw).cast (by simp) (flat_drop cN_len _ _)) (Nat.zero_le _) (Nat.le_refl _)) (by simp; omega)) ?_
   rintro v32 w33 ⟨E34, hO32⟩
   have E34 := grown_of_below E34
   have z_w33 := E34.size
   have hx := hx.keep0 E34
   have ok := ok.keep0 E34
   have oc := oc.keep0 E34
   have hB17 := hB17.keep0 E34
   have hO28 := hO28.keep0 E34
   have hb := hb.step0 E34
   have hO32 := hO32.mono (base' := w.heap.size) (by omega)
   skip
   refine ke_end rfl (by decide) rfl hx ?_
   intro w35 E35 _ a35 hN35 hbs35 hdp35 o_ ho_; obtain rfl := Option.some.inj ho_
   have z_w35 := E35.size
   have hx := hx.keep0 E35
   have ok := ok.keep0 E35
   have oc := oc.keep0 E35
   have hB17 := hB17.keep0 E35
   have hO28 := hO28.keep0 E35
   have hO32 := hO32.keep0 E35
   have hb := hb.step0 E35
   have q35_80 : Sl a35 80 (ptr b15 1) := (hdp35 19 _ 80 (by kernel_rfl) rfl rfl).2 rfl
   have q35_70 : Sl a35 70 v28 := (Option.some.inj ((hdp35 9 _ 70 (by kernel_rfl) rfl rfl).1 0 rfl)).symm
   have hB17_old := hB17
   refine op_store (vs := [v28]) (cs' := [(Value.slice none 0 0), v28, (Value.slice none 0 0)]) size90 (ev_base hN35 rfl q35_80) (ev_base hN35 rfl q35_70) hO28.cl rfl (by simp only [List.all_cons, List.all_nil, Bool.true_and, Bool.and_true, hO28.one]; try rfl) hB17 (Nat.le_of_ble_eq_true rfl) rfl ?_
   intro w36 hB17 E37
   have z_w36 := E37.size
   have hx := hx.keep E37 (by simp; omega)
   have ok := ok.keepX hB17_old E37 (by decide)
   have oc := oc.keepX hB17_old E37 (by decide)
   have hO28 := hO28.keepX hB17_old E37 (by decide)
   have hO32 := hO32.keepX hB17_old E37 (by decide)
   have hb := hb.step1 E37 (by omega)
   refine ke_end0 rfl hx ?_
   intro w38 E38 a38 hN38 hd38 hbs38 hph38
   have hd38 := hd38.trans ((by simp only [putsL_defers] : _ = _).trans hd)
   have z_w38 := E38.size
   have hx := hx.keep0 E38
   have ok := ok.keep0 E38
   have oc := oc.keep0 E38
   have hO28 := hO28.keep0 E38
   have hO32 := hO32.keep0 E38
   have hB17 := hB17.keep0 E38
   have hb := hb.step0 E38
   have s38_0 := (hbs38 0 rfl).trans (sl_base hN rfl s0)
   have s38_4 := (hbs38 4 rfl).trans (sl_hit hN rfl)
   have s38_6 := (hbs38 6 rfl).trans (sl_hit hN rfl)
   have s38_7 := (hbs38 7 rfl).trans (sl_hit hN rfl)
   have s38_62 : Sl a38 62 (ptr b15 0) := (hph38 1 _ 62 rfl rfl).2 rfl
   have s38_78 : Sl a38 78 v32 := (Option.some.inj ((hph38 17 _ 78 rfl rfl).1 1 rfl)).symm
   refine split_end ?_
   refine from_seq (tl := [_, _, _]) (by decide) (by kernel_rfl) rfl ?_
   refine op_nil (ev_base hN38 rfl s38_62) (op_field fld105_2 (ev_hit hN38 rfl) ?_)
   have hB17_old := hB17
   refine op_store (vs := [v32]) (cs' := [(Value.slice none 0 0), v28, v32]) size103 (ev_hit hN38 rfl) (ev_base hN38 rfl s38_78) hO32.cl rfl (by simp only [List.all_cons, List.all_nil, Bool.true_and, Bool.and_true, hO32.one]; try rfl) hB17 (Nat.le_of_ble_eq_true rfl) rfl ?_
   intro w39 hB17 E40
   have z_w39 := E40.size
   have hx := hx.keep E40 (by simp; omega)
   have ok := ok.keepX hB17_old E40 (by decide)
   have oc := oc.keepX hB17_old E40 (by decide)
   have hO28 := hO28.keepX hB17_old E40 (by decide)
   have hO32 := hO32.keepX hB17_old E40 (by decide)
   have hb := hb.step1 E40 (by omega)
   refine reg_nil (hK25 _ _ (seq_any fun K41 hK41 => reg_split (hd := [_, _, _, _, _, _, _, _, _, _, _, _, _, _, _, _, _, _]) (tl := _) 18 mixed (by kernel_rfl) rfl rfl ?_))
   refine any_envk (φ := phiV [(fun uz => uz = (ptr p 0)), (fun uz => uz = (ptr p 0)), (fun uz => uz = (ptr p 0)), (fun uz => uz = (ptr p 0)), (fun uz => uz = (ptr p 1)), (fun uz => uz = kv), (fun uz => uz = (Value.int .i64 ((K.length / 2 : Nat) : Int))), (fun uz => uz = (hiV kv (K.length / 2))), (fun uz => uz = (ptr p 0)), (fun uz => uz = (ptr p 0)), (fun uz => uz = (ptr p 2)), (fun uz => uz = cv), (fun uz => uz = (Value.int .i64 ((K.length / 2 : Nat) : Int))), (fun uz => uz = (Value.int .i64 (((K.length / 2 : Nat) : Int) + 1))), (fun uz => uz = (hiV cv ((K.length / 2) + 1))), (fun uz => uz = (ptr p 0)), (fun uz => uz = (ptr p 1)), (fun _ => True)]) (G := fun c9 w' => c9 ≤ 0 → (Bx w' p 105 [(Value.slice none 0 0), kv, cv])) [17] (by kernel_rfl) (by kernel_rfl) (by kernel_rfl) (by kernel_rfl) hN38 (fun _ w1 w2 E h hc9 => (h hc9).keep0 E) (fun _ => hx) (ObKs.cons ?_ (ObKs.cons ?_ (ObKs.cons ?_ (ObKs.cons ?_ (ObKs.cons ?_ (ObKs.cons ?_ (ObKs.cons ?_ (ObKs.cons ?_ (ObKs.cons ?_ (ObKs.cons ?_ (ObKs.cons ?_ (ObKs.cons ?_ (ObKs.cons ?_ (ObKs.cons ?_ (ObKs.cons ?_ (ObKs.cons ?_ (ObKs.cons ?_ (ObKs.pass rfl (ObKs.nil))))))))))))))))))) (by simp only [putsL_defers]) ?_
   ·
    intro eA aA wA hNA hckA hGA hbsA hdpA
    have qA_0 := (hbsA 0 rfl).trans (sl_base hN38 rfl s38_0)
    refine op_move (ev_base hNA rfl qA_0) ?_
    exact obK_end rfl rfl rfl
   ·
    intro eA aA wA hNA hckA hGA hbsA hdpA
    have qA_0 := (hbsA 0 rfl).trans (sl_base hN38 rfl s38_0)
    refine op_move (ev_base hNA rfl qA_0) ?_
    exact obK_end rfl rfl rfl
   ·
    intro eA aA wA hNA hckA hGA hbsA hdpA
    have qA_0 := (hbsA 0 rfl).trans (sl_base hN38 rfl s38_0)
    refine op_move (ev_base hNA rfl qA_0) ?_
    exact obK_end rfl rfl rfl
   ·
    intro eA aA wA hNA hckA hGA hbsA hdpA
    have qA_85 : Sl aA 85 (ptr p 0) := (hdpA 2 _ 85 (by kernel_rfl) rfl rfl).2 rfl
    refine op_nil (ev_base hNA rfl qA_85) ?_
    exact obK_end rfl rfl rfl
   ·
    intro eA aA wA hNA hckA hGA hbsA hdpA
    have qA_86 : Sl aA 86 (ptr p 0) := (hdpA 3 _ 86 (by kernel_rfl) rfl rfl).2 rfl
    refine op_field fld105_1 (ev_base hNA rfl qA_86) ?_
    exact obK_end rfl rfl rfl
   ·
    intro eA aA wA hNA hckA hGA hbsA hdpA
    have qA_87 : Sl aA 87 (ptr p 1) := (hdpA 4 _ 87 (by kernel_rfl) rfl rfl).2 rfl
    have hGA := hGA (hckA 0 17 rfl (by kernel_rfl))
    refine op_load1 (v := kv) one90 (ev_base hNA rfl qA_87) (hGA.cell rfl) ?_
    exact obK_end rfl rfl rfl
   ·
    intro eA aA wA hNA hckA hGA hbsA hdpA
    have qA_6 := (hbsA 6 rfl).trans (sl_base hN38 rfl s38_6)
    refine op_move (ev_base hNA rfl qA_6) ?_
    exact obK_end rfl rfl rfl
   ·
    intro eA aA wA hNA hckA hGA hbsA hdpA
    have qA_88 : Sl aA 88 kv := (hdpA 5 _ 88 (by kernel_rfl) rfl rfl).2 rfl
    have qA_89 : Sl aA 89 (Value.int .i64 ((K.length / 2 : Nat) : Int)) := (hdpA 6 _ 89 (by kernel_rfl) rfl rfl).2 rfl
    refine op_slice_hiC (m := (K.length / 2)) slt90 (ev_base hNA rfl qA_88) hck3 (ev_base hNA rfl qA_89) (by omega) (by omega) ?_
    exact obK_end rfl rfl rfl
   ·
    intro eA aA wA hNA hckA hGA hbsA hdpA
    have qA_0 := (hbsA 0 rfl).trans (sl_base hN38 rfl s38_0)
    refine op_move (ev_base hNA rfl qA_0) ?_
    exact obK_end rfl rfl rfl
   ·
    intro eA aA wA hNA hckA hGA hbsA hdpA
    have qA_91 : Sl aA 91 (ptr p 0) := (hdpA 8 _ 91 (by kernel_rfl) rfl rfl).2 rfl
    refine op_nil (ev_base hNA rfl qA_91) ?_
    exact obK_end rfl rfl rfl
   ·
    intro eA aA wA hNA hckA hGA hbsA hdpA
    have qA_92 : Sl aA 92 (ptr p 0) := (hdpA 9 _ 92 (by kernel_rfl) rfl rfl).2 rfl
    refine op_field fld105_2 (ev_base hNA rfl qA_92) ?_
    exact obK_end rfl rfl rfl
   ·
    intro eA aA wA hNA hckA hGA hbsA hdpA
    have qA_93 : Sl aA 93 (ptr p 2) := (hdpA 10 _ 93 (by kernel_rfl) rfl rfl).2 rfl
    have hGA := hGA (hckA 0 17 rfl (by kernel_rfl))
    refine op_load1 (v := cv) one103 (ev_base hNA rfl qA_93) (hGA.cell rfl) ?_
    exact obK_end rfl rfl rfl
   ·
    intro eA aA wA hNA hckA hGA hbsA hdpA
    have qA_6 := (hbsA 6 rfl).trans (sl_base hN38 rfl s38_6)
    refine op_move (ev_base hNA rfl qA_6) ?_
    exact obK_end rfl rfl rfl
   ·
    intro eA aA wA hNA hckA hGA hbsA hdpA
    have qA_95 : Sl aA 95 (Value.int .i64 ((K.length / 2 : Nat) : Int)) := (hdpA 12 _ 95 (by kernel_rfl) rfl rfl).2 rfl
    refine op_add (ev_base hNA rfl qA_95) rfl (add64 (by omega)) ?_
    exact obK_end rfl rfl rfl
   ·
    intro eA aA wA hNA hckA hGA hbsA hdpA
    have qA_94 : Sl aA 94 cv := (hdpA 11 _ 94 (by kernel_rfl) rfl rfl).2 rfl
    have qA_96 : Sl aA 96 (Value.int .i64 (((K.length / 2 : Nat) : Int) + 1)) := (hdpA 13 _ 96 (by kernel_rfl) rfl rfl).2 rfl
    refine op_slice_hiC (m := (K.length / 2) + 1) slt103 (ev_base hNA rfl qA_94) hcc3 (ev_base hNA rfl qA_96) (by omega) (by omega) ?_
    exact obK_end rfl rfl rfl
   ·
    intro eA aA wA hNA hckA hGA hbsA hdpA
    have qA_83 : Sl aA 83 (ptr p 0) := (hdpA 0 _ 83 (by kernel_rfl) rfl rfl).2 rfl
    refine op_nil (ev_base hNA rfl qA_83) ?_
    exact obK_end rfl rfl rfl
   ·
    intro eA aA wA hNA hckA hGA hbsA hdpA
    have qA_98 : Sl aA 98 (ptr p 0) := (hdpA 15 _ 98 (by kernel_rfl) rfl rfl).2 rfl
    refine op_field fld105_1 (ev_base hNA rfl qA_98) ?_
    exact obK_end rfl rfl rfl
   ·
    intro w42 E42 _ a42 hN42 hbs42 hdp42 o_ ho_; obtain rfl := Option.some.inj ho_
    have z_w42 := E42.size
    have hx := hx.keep0 E42
    have ok := ok.keep0 E42
    have oc := oc.keep0 E42
    have hO28 := hO28.keep0 E42
    have hO32 := hO32.keep0 E42
    have hB17 := hB17.keep0 E42
    have hb := hb.step0 E42
    have q42_99 : Sl a42 99 (ptr p 1) := (hdp42 16 _ 99 (by kernel_rfl) rfl rfl).2 rfl
    have q42_90 : Sl a42 90 (hiV kv (K.length / 2)) := (hdp42 7 _ 90 (by kernel_rfl) rfl rfl).2 rfl
    have hx_old := hx
    refine op_store (vs := [(hiV kv (K.length / 2))]) (cs' := [(Value.slice none 0 0), (hiV kv (K.length / 2)), cv]) size90 (ev_base hN42 rfl q42_99) (ev_base hN42 rfl q42_90) (own_cl (ok.hiCut (k := (K.length / 2)) (by omega))) rfl (by simp only [List.all_cons, List.all_nil, Bool.true_and, Bool.and_true, (own_one (ok.hiCut (k := (K.length / 2)) (by omega)))]; try rfl) hx (Nat.le_of_ble_eq_true rfl) rfl ?_
    intro w43 hx E44
    have z_w43 := E44.size
    have ok := ok.keepX hx_old E44 (by decide)
    have oc := oc.keepX hx_old E44 (by decide)
    have hO28 := hO28.keepX hx_old E44 (by decide)
    have hO32 := hO32.keepX hx_old E44 (by decide)
    have hB17 := hB17.keep E44 (by simp; omega)
    have hb := hb.stepB E44 rfl
    refine kk_end0 rfl (fun h => absurd h (by simp)) ?_
    intro w45 E45 a45 hN45 hd45 hbs45 hph45
    have hd45 := hd45.trans ((by simp only [putsL_defers] : _ = _).trans hd38)
    have z_w45 := E45.size
    have ok := ok.keep0 E45
    have oc := oc.keep0 E45
    have hO28 := hO28.keep0 E45
    have hO32 := hO32.keep0 E45
    have hB17 := hB17.keep0 E45
    have hx := hx.keep0 E45
    have hb := hb.step0 E45
    have s45_4 := (hbs45 4 rfl).trans (sl_base hN38 rfl s38_4)
    have s45_7 := (hbs45 7 rfl).trans (sl_base hN38 rfl s38_7)
    have s45_84 : Sl a45 84 (ptr p 0) := (hph45 1 _ 84 rfl rfl).2 rfl
    have s45_97 : Sl a45 97 (hiV cv ((K.length / 2) + 1)) := (hph45 14 _ 97 rfl rfl).2 rfl
    refine split_end ?_
    refine from_seq (tl := [_, _, _]) (by decide) (by kernel_rfl) rfl ?_
    refine op_nil (ev_base hN45 rfl s45_84) (op_field fld105_2 (ev_hit hN45 rfl) ?_)
    have hx_old := hx
    refine op_store (vs := [(hiV cv ((K.length / 2) + 1))]) (cs' := [(Value.slice none 0 0), (hiV kv (K.length / 2)), (hiV cv ((K.length / 2) + 1))]) size103 (ev_hit hN45 rfl) (ev_base hN45 rfl s45_97) (own_cl (oc.hiCut (k := (K.length / 2) + 1) (by omega))) rfl (by simp only [List.all_cons, List.all_nil, Bool.true_and, Bool.and_true, (own_one (oc.hiCut (k := (K.length / 2) + 1) (by omega)))]; try rfl) hx (Nat.le_of_ble_eq_true rfl) rfl ?_
    intro w46 hx E47
    have z_w46 := E47.size
    have ok := ok.keepX hx_old E47 (by decide)
    have oc := oc.keepX hx_old E47 (by decide)
    have hO28 := hO28.keepX hx_old E47 (by decide)
    have hO32 := hO32.keepX hx_old E47 (by decide)
    have hB17 := hB17.keep E47 (by simp; omega)
    have hb := hb.stepB E47 rfl
    refine reg_nil (hK41 _ _ (seq_any fun K48 hK48 => one_reg (op_move (ev_base hN45 rfl s45_7) (op_move (ev_base hN45 rfl s45_4) (op_assign (ev_hit hN45 rfl) ?_)))))
    refine op_assign (ev_hit hN45 rfl) ?_
    refine reg_nil (hK48 _ _ (wp_ret ?_))
    refine ret2 rfl hd45 (ev_hit hN45 rfl) (ev_hit hN45 rfl) ⟨_, rfl, ?_⟩
    exact ⟨hb, b15, v28, v32, rfl, hx, (ok.hiCut (k := (K.length / 2)) (by omega)).cast (by simp; omega) (flat_take cK_len _ _), (oc.hiCut (k := (K.length / 2) + 1) (by omega)).cast (by simp; omega) (flat_take cN_len _ _), by omega, hB17, hO28, hO32⟩

end Go.Proofs.Ytcpfdfejojghbaa

/- Walks, written by a program: what each function of the translation hands back. -/
namespace Go.Proofs.Ytcpfdfejojghbaa
open Go.Gx Go.RowKit
attribute [local irreducible] wpList wpStill Code.wp Calls
theorem ovl96 {v : Value} {n i base ub m2 : Nat} {cs xs : List Value} {w : World} (hU : Bx w ub 98 xs) (O : Own w base 98 2 v n cs) (hne : v.ownBlock ≠ some ub) (hn0 : 0 < n) : (callFunc 96 #[.slice (some ⟨ub, 0, none⟩) m2 m2, cutS 2 v i]).run Try.prog w = .ok (.value (.bool false)) w :=
  run_ovl (tR := 4) slt89 Try.func96 (by kernel_rfl) (by kernel_rfl) (by kernel_rfl) (by kernel_rfl) hU O hne hn0
theorem ovl99 {v : Value} {n i base ub m2 : Nat} {cs xs : List Value} {w : World} (hU : Bx w ub 27 xs) (O : Own w base 27 1 v n cs) (hne : v.ownBlock ≠ some ub) (hn0 : 0 < n) : (callFunc 99 #[.slice (some ⟨ub, 0, none⟩) m2 m2, cutS 1 v i]).run Try.prog w = .ok (.value (.bool false)) w :=
  run_ovl (tR := 4) slt90 Try.func99 (by kernel_rfl) (by kernel_rfl) (by kernel_rfl) (by kernel_rfl) hU O hne hn0
theorem ovl101 {v : Value} {n i base ub m2 : Nat} {cs xs : List Value} {w : World} (hU : Bx w ub 86 xs) (O : Own w base 86 1 v n cs) (hne : v.ownBlock ≠ some ub) (hn0 : 0 < n) : (callFunc 101 #[.slice (some ⟨ub, 0, none⟩) m2 m2, cutS 1 v i]).run Try.prog w = .ok (.value (.bool false)) w :=
  run_ovl (tR := 4) slt91 Try.func101 (by kernel_rfl) (by kernel_rfl) (by kernel_rfl) (by kernel_rfl) hU O hne hn0
theorem ovl107 {v : Value} {n i base ub m2 : Nat} {cs xs : List Value} {w : World} (hU : Bx w ub 109 xs) (O : Own w base 109 3 v n cs) (hne : v.ownBlock ≠ some ub) (hn0 : 0 < n) : (callFunc 107 #[.slice (some ⟨ub, 0, none⟩) m2 m2, cutS 3 v i]).run Try.prog w = .ok (.value (.bool false)) w :=
  run_ovl (tR := 4) slt102 Try.func107 (by kernel_rfl) (by kernel_rfl) (by kernel_rfl) (by kernel_rfl) hU O hne hn0
theorem ovl109 {v : Value} {n i base ub m2 : Nat} {cs xs : List Value} {w : World} (hU : Bx w ub 99 xs) (O : Own w base 99 1 v n cs) (hne : v.ownBlock ≠ some ub) (hn0 : 0 < n) : (callFunc 109 #[.slice (some ⟨ub, 0, none⟩) m2 m2, cutS 1 v i]).run Try.prog w = .ok (.value (.bool false)) w :=
  run_ovl (tR := 4) slt103 Try.func109 (by kernel_rfl) (by kernel_rfl) (by kernel_rfl) (by kernel_rfl) hU O hne hn0
theorem ovl115 {v : Value} {n i base ub m2 : Nat} {cs xs : List Value} {w : World} (hU : Bx w ub 51 xs) (O : Own w base 51 2 v n cs) (hne : v.ownBlock ≠ some ub) (hn0 : 0 < n) : (callFunc 115 #[.slice (some ⟨ub, 0, none⟩) m2 m2, cutS 2 v i]).run Try.prog w = .ok (.value (.bool false)) w :=
  run_ovl (tR := 4) slt48 Try.func115 (by kernel_rfl) (by kernel_rfl) (by kernel_rfl) (by kernel_rfl) hU O hne hn0
theorem ovl117 {v : Value} {n i base ub m2 : Nat} {cs xs : List Value} {w : World} (hU : Bx w ub 69 xs) (O : Own w base 69 1 v n cs) (hne : v.ownBlock ≠ some ub) (hn0 : 0 < n) : (callFunc 117 #[.slice (some ⟨ub, 0, none⟩) m2 m2, cutS 1 v i]).run Try.prog w = .ok (.value (.bool false)) w :=
  run_ovl (tR := 4) slt113 Try.func117 (by kernel_rfl) (by kernel_rfl) (by kernel_rfl) (by kernel_rfl) hU O hne hn0
end Go.Proofs.Ytcpfdfejojghbaa

/- Walks, written by a program: what each function of the translation hands back. -/
namespace Go.Proofs.Ytcpfdfejojghbaa
open Go.Gx Go.RowKit
attribute [local irreducible] wpList wpStill Code.wp Calls

theorem InsK {n i ub : Nat} {v x0 : Value} {cs : List Value} {w : World} (hO : Own w 0 27 1 v n cs) (hU : Bx w ub 27 [x0]) (h1 : cs.all Value.oneCell' = true) (hx1 : ([x0]).all Value.oneCell' = true) (hi : i ≤ n) (hn : n ≤ 1000) (hne : v.ownBlock ≠ some ub) : Ret Try.prog 67 #[v, (Value.int .i64 ((i : Nat) : Int)), (Value.slice (some ⟨ub, 0, none⟩) 1 1)] w (fun v' w' => w.grownBy w' v.ownBlock ∧ Own w' 0 27 1 v' (n + 1) (cs.take (i * 1) ++ [x0] ++ cs.drop (i * 1)) ∧ (v'.ownBlock = v.ownBlock ∨ ∀ k, v'.ownBlock = some k → w.heap.size ≤ k)) := by
 have h0 : 0 ≤ w.heap.size := Nat.zero_le _
 have hlt := hU.lt
 have hO0 := hO.1
 have hb := grown_refl w v.ownBlock
 refine enter (N := 95) Try.func67 rfl rfl (by simp) fun a0 hN hd hA => ?_
 have s0 : a0.tmps.getD 0 undef = v := hA 0 (by simp)
 have s1 : a0.tmps.getD 1 undef = (Value.int .i64 ((i : Nat) : Int)) := hA 1 (by simp)
 have s2 : a0.tmps.getD 2 undef = (Value.slice (some ⟨ub, 0, none⟩) 1 1) := hA 2 (by simp)
 clear hA
 refine seq_any fun K773 hK773 => one_reg (op_assign rfl ?_)
 refine reg_nil (hK773 _ _ (seq_any fun K774 hK774 => one_reg (op_move (ev_base hN rfl s0) (op_move (ev_base hN rfl s1) (op_slice_cutS (k := i) slt90 (ev_hit hN rfl) hO (ev_hit hN rfl) (by omega) hi ?_)))))
 refine reg_nil (hK774 _ _ (seq_any fun K775 hK775 => one_reg (op_move (ev_base hN rfl s2) (op_len_rd Try.underlying90 (ev_hit hN rfl) (RdC.ofBx (sz := 1) (n := 1) hU rfl (by decide)) ?_))))
 refine op_assign (ev_hit hN rfl) ?_
 refine reg_nil (hK775 _ _ (seq_any fun K776 hK776 => seq_any fun K777 hK777 => one_reg (op_move (ev_hit hN rfl) (op_bin (v := .bool false) (ev_hit hN rfl) rfl (by rw [binOp_eql]; rfl) ?_))))
 refine reg_nil (hK777 _ _ (wp_cond_false (ev_hit hN rfl) ?_))
 refine wp_skip ?_
 refine hK776 _ _ (seq_any fun K778 hK778 => one_reg (op_move (ev_base hN rfl s0) (op_len_rd Try.underlying90 (ev_hit hN rfl) hO.rdw ?_)))
 refine op_assign (ev_hit hN rfl) ?_
 refine reg_nil (hK778 _ _ (seq_any fun K779 hK779 => seq_any fun K780 hK780 => ?_))
 refine one_reg (op_move (ev_base hN rfl s1) (op_move (ev_hit hN rfl) (op_eql (ev_hit hN rfl) (ev_hit hN rfl) (fun c22 => ?_) (fun c22 => ?_))))
 · -- 22T
  refine reg_nil (hK780 _ _ (wp_cond_true (ev_hit hN rfl) ?_))
  refine seq_any fun K781 hK781 => one_reg (op_move (ev_base hN rfl s0) (op_move (ev_base hN rfl s2) ?_))
  have hP787 := hO
  refine op_append slt90 (ev_hit hN rfl) hP787 (ev_hit hN rfl) (Src.ofRd Try.underlying90 (by decide) (RdC.ofBx (sz := 1) (n := 1) hU rfl (by decide)) hx1) (by unfold maxLen; omega) (by omega) (Nat.le_trans (by assumption) hb.size) ?_
  intro v782 w783 hO785 E784 hm786
  have z_w783 := E784.size
  have hb := grow_stepX hb E784 rfl
  have hO785 : Own w783 0 27 1 v782 (n + 1) ((cs ++ [x0])) := by simpa [u8v, sv] using hO785
  have ne_ub_v782 : v782.ownBlock ≠ some ub := ne_step (w1 := w) ⟨E784, hm786⟩ (by omega) hne
  refine op_assign (ev_hit hN rfl) ?_
  refine reg_nil (hK781 _ _ (wp_ret (then_ret ( ?_))))
  refine ret1 rfl hd (ev_hit hN rfl) ⟨_, rfl, ?_⟩
  exact ⟨hb, hO785.cast rfl (by rw [show i = n by omega]; exact (ins_end hO0).symm), hm786⟩
 · -- 22F
  refine reg_nil (hK780 _ _ (wp_cond_false (ev_hit hN rfl) ?_))
  refine wp_skip ?_
  refine hK779 _ _ (seq_any fun K788 hK788 => seq_any fun K789 hK789 => one_reg (op_move (ev_hit hN rfl) (op_move (ev_hit hN rfl) (op_add (ev_hit hN rfl) (ev_hit hN rfl) (add64 (by omega)) ?_))))
  refine op_move (ev_base hN rfl s0) ?_
  obtain ⟨cap790, hcap791_1, hcap791_2, hcap791⟩ := hO.capOf
  have hcap791_3 : cap790 ≤ 9223372036854775807 := hcap791_2
  refine op_cap (c := cap790) Try.underlying90 (by rw [(ev_hit hN rfl)]; exact hcap791) ?_
  refine op_gtr (ev_hit hN rfl) (ev_hit hN rfl) (fun c31 => ?_) (fun c31 => ?_)
  · -- 31T
   refine reg_nil (hK789 _ _ (wp_cond_true (ev_hit hN rfl) ?_))
   refine seq_any fun K792 hK792 => one_reg (op_move (ev_base hN rfl s0) (op_move (ev_base hN rfl s1) (op_slice_hiC (m := i) slt90 (ev_hit hN rfl) hcap791 (ev_hit hN rfl) rfl (by omega) ?_)))
   refine op_move (ev_hit hN rfl) (op_move (ev_hit hN rfl) (op_add (ev_hit hN rfl) (ev_hit hN rfl) (add64 (by omega)) ?_))
   refine op_move (ev_base hN rfl s1) (op_sub (r := ((n + 1 - i : Nat) : Int)) (ev_hit hN rfl) (ev_hit hN rfl) ((sub64 (by omega)).trans (by omega)) ?_)
   refine op_append_zeros_grow (i := i) (m := n + 1 - i) slt90 Try.underlying3 (ev_hit hN rfl) hO hcap791 hi (ev_hit hN rfl) rfl (by omega) (by omega) (by omega) (by omega) (Nat.zero_le _) ?_
   intro v793 w794 zs795 hO796 E797 hf798
   have hO796 : Own w794 w.heap.size 27 1 v793 (n + 1) (cs.take (i * 1) ++ zs795) := (hO796.cast (by omega) rfl).rebase hf798
   have hzl : zs795.length = (n - i) * 1 + 1 * 1 := by have q1 := hO796.1; have q2 := hO.1; rw [List.length_append, List.length_take] at q1; omega
   have ne799 := fresh_ne hf798 hlt
   have dj800 : DJ v793 v := fun k hk hg => by have q1 := (hO796.lt k hk).1; have q2 := (hO.lt k hg).2; omega
   have z_w794 := E797.size
   have hO := hO.keep0 E797
   have hU := hU.keep0 E797
   have hb := grow_step0 hb E797
   refine op_assign (ev_hit hN rfl) ?_
   refine reg_nil (hK792 _ _ (seq_any fun K801 hK801 => one_reg (op_move (ev_hit hN rfl) (op_move (ev_base hN rfl s1) (op_slice_cutS (k := i) slt90 (ev_hit hN rfl) hO796 (ev_hit hN rfl) (by omega) (by omega) ?_)))))
   refine op_move (ev_base hN rfl s2) ?_
   have hP805 := hO796
   refine op_copy_cutS (k := i) (q := 1) slt90 (ev_hit hN rfl) hP805 (ev_hit hN rfl) (RdC.ofBx (sz := 1) (n := 1) hU rfl (by decide)) hx1 (by omega) (Nat.le_refl _) (.inl rfl) ?_
   intro w802 hO804 E803
   have z_w802 := E803.size
   have hO := hO.keepD E803 dj800.symm
   have hb := grow_stepO hb hP805 E803 (by omega)
   refine reg_nil (hK801 _ _ (seq_any fun K806 hK806 => reg_from mixed ?_))
   intro w808 E807
   have z_w808 := E807.size
   have hO := hO.keep0 E807
   have hO804 := hO804.keep0 E807
   have hb := grow_step0 hb E807
   refine from_still (m := 8) 8 (hd := [_, _, _, _, _, _, _, _]) (by kernel_rfl) rfl rfl ?_
   refine st_step rfl (fun _ h9 => op_move (ev_hit hN rfl) h9) ?_
   refine st_step rfl (fun _ h9 => op_move (ev_base hN rfl s1) h9) ?_
   refine st_step rfl (fun _ h9 => op_move (ev_hit hN rfl) h9) ?_
   refine st_step rfl (fun _ h9 => op_add (ev_hit hN rfl) (ev_hit hN rfl) (add64 (by omega)) h9) ?_
   refine st_step rfl (fun _ h9 => op_slice_cutS (k := i + 1) slt90 (ev_hit hN rfl) hO804 (ev_hit hN rfl) (by omega) (by omega) h9) ?_
   refine st_step rfl (fun _ h9 => op_move (ev_base hN rfl s0) h9) ?_
   refine st_step rfl (fun _ h9 => op_move (ev_base hN rfl s1) h9) ?_
   refine st_step rfl (fun _ h9 => op_slice_cutS (k := i) slt90 (ev_hit hN rfl) hO (ev_hit hN rfl) (by omega) hi h9) ?_
   refine st_nil ?_
   refine from_seq (tl := [_]) (by decide) (by kernel_rfl) rfl ?_
   have hP812 := hO804
   refine op_copy_cutS (k := i + 1) (q := n - i) slt90 (ev_hit hN rfl) hP812 (ev_hit hN rfl) (hO.cutO hi).rdw (all_drop_take h1) (by omega) (Nat.le_refl _) (.inl rfl) ?_
   intro w809 hO811 E810
   have z_w809 := E810.size
   have hb := grow_stepO hb hP812 E810 (by omega)
   refine reg_nil (hK806 _ _ (seq_any fun K813 hK813 => one_reg (op_move (ev_hit hN rfl) (op_assign (ev_hit hN rfl) ?_))))
   refine reg_nil (hK813 _ _ (wp_ret (then_ret ( ?_))))
   refine ret1 rfl hd (ev_hit hN rfl) ⟨_, rfl, ?_⟩
   exact ⟨hb, (hO811.mono (Nat.zero_le _)).cast rfl (by rw [Nat.add_mul i 1 1]; exact ins_grow (by omega) hzl rfl), .inr hf798⟩
  · -- 31F
   refine reg_nil (hK789 _ _ (wp_cond_false (ev_hit hN rfl) ?_))
   refine wp_skip ?_
   refine hK788 _ _ (seq_any fun K814 hK814 => one_reg (op_move (ev_base hN rfl s0) (op_move (ev_hit hN rfl) (op_move (ev_hit hN rfl) (op_add (ev_hit hN rfl) (ev_hit hN rfl) (add64 (by omega)) ?_)))))
   refine op_slice_hiC (m := n + 1) slt90 (ev_hit hN rfl) hcap791 (ev_hit hN rfl) (by omega) (by omega) ?_
   obtain ⟨sp815, hW816⟩ := hO.wide (m := n + 1) hcap791 (by omega) (by omega)
   refine op_assign (ev_hit hN rfl) ?_
   refine reg_nil (hK814 _ _ (seq_any fun K817 hK817 => ?_))
   refine seq_any fun K818 hK818 => one_reg (op_move (ev_base hN rfl s2) (op_move (ev_hit hN rfl) (op_move (ev_base hN rfl s1) (op_move (ev_hit hN rfl) (op_add (ev_hit hN rfl) (ev_hit hN rfl) (add64 (by omega)) ?_)))))
   refine op_slice_cutS (k := i + 1) slt90 (ev_hit hN rfl) hW816 (ev_hit hN rfl) (by omega) (by omega) ?_
   refine op_ext2 (ev_hit hN rfl) (ev_hit hN rfl) (ovl99 hU hW816 (hiV_ne hne) (by omega)) ?_
   refine op_not (ev_hit hN rfl) ?_
   refine reg_nil (hK818 _ _ (wp_cond_true (ev_hit hN rfl) ?_))
   refine seq_any fun K819 hK819 => reg_from mixed ?_
   intro w821 E820
   have z_w821 := E820.size
   have hU := hU.keep0 E820
   have hW816 := hW816.keep0 E820
   have hb := grow_step0 hb E820
   refine from_still (m := 8) 8 (hd := [_, _, _, _, _, _, _, _]) (by kernel_rfl) rfl rfl ?_
   refine st_step rfl (fun _ h9 => op_move (ev_hit hN rfl) h9) ?_
   refine st_step rfl (fun _ h9 => op_move (ev_base hN rfl s1) h9) ?_
   refine st_step rfl (fun _ h9 => op_move (ev_hit hN rfl) h9) ?_
   refine st_step rfl (fun _ h9 => op_add (ev_hit hN rfl) (ev_hit hN rfl) (add64 (by omega)) h9) ?_
   refine st_step rfl (fun _ h9 => op_slice_cutS (k := i + 1) slt90 (ev_hit hN rfl) hW816 (ev_hit hN rfl) (by omega) (by omega) h9) ?_
   refine st_step rfl (fun _ h9 => op_move (ev_hit hN rfl) h9) ?_
   refine st_step rfl (fun _ h9 => op_move (ev_base hN rfl s1) h9) ?_
   refine st_step rfl (fun _ h9 => op_slice_cutS (k := i) slt90 (ev_hit hN rfl) hW816 (ev_hit hN rfl) (by omega) (by omega) h9) ?_
   refine st_nil ?_
   refine from_seq (tl := [_]) (by decide) (by kernel_rfl) rfl ?_
   have hP825 := hW816
   refine op_copy_cutS (k := i + 1) (q := n - i) slt90 (ev_hit hN rfl) hP825 (ev_hit hN rfl) (hW816.cutO (k := i) (by omega)).rdw (all_mid h1 (by have := hO0; omega)) (by omega) (by omega) (.inr (by omega)) ?_
   intro w822 hO824 E823
   have z_w822 := E823.size
   have hU := hU.keep E823 (fun hh => (hiV_ne hne) hh.symm)
   have hb := grow_stepX hb E823 (hiV_ob v (n + 1))
   refine reg_nil (hK819 _ _ (seq_any fun K826 hK826 => one_reg (op_move (ev_hit hN rfl) (op_move (ev_base hN rfl s1) (op_slice_cutS (k := i) slt90 (ev_hit hN rfl) hO824 (ev_hit hN rfl) (by omega) (by omega) ?_)))))
   refine op_move (ev_base hN rfl s2) ?_
   have hP830 := hO824
   refine op_copy_cutS (k := i) (q := 1) slt90 (ev_hit hN rfl) hP830 (ev_hit hN rfl) (RdC.ofBx (sz := 1) (n := 1) hU rfl (by decide)) hx1 (by omega) (by decide) (.inl rfl) ?_
   intro w827 hO829 E828
   have z_w827 := E828.size
   have hb := grow_stepX hb E828 (hiV_ob v (n + 1))
   refine reg_nil (hK826 _ _ (seq_any fun K831 hK831 => one_reg (op_move (ev_hit hN rfl) (op_assign (ev_hit hN rfl) ?_))))
   refine reg_nil (hK831 _ _ (wp_ret (then_ret ( ?_))))
   refine ret1 rfl hd (ev_hit hN rfl) ⟨_, rfl, ?_⟩
   exact ⟨hb, hO829.cast rfl (by rw [Nat.add_mul i 1 1]; exact ins_room (by omega) (by have := hW816.1; omega) rfl), .inl (hiV_ob _ _)⟩

theorem InsI {n i ub : Nat} {v x0 x1 : Value} {cs : List Value} {w : World} (hO : Own w 0 51 2 v n cs) (hU : Bx w ub 51 [x0, x1]) (h1 : cs.all Value.oneCell' = true) (hx1 : ([x0, x1]).all Value.oneCell' = true) (hi : i ≤ n) (hn : n ≤ 1000) (hne : v.ownBlock ≠ some ub) : Ret Try.prog 83 #[v, (Value.int .i64 ((i : Nat) : Int)), (Value.slice (some ⟨ub, 0, none⟩) 1 1)] w (fun v' w' => w.grownBy w' v.ownBlock ∧ Own w' 0 51 2 v' (n + 1) (cs.take (i * 2) ++ [x0, x1] ++ cs.drop (i * 2)) ∧ (v'.ownBlock = v.ownBlock ∨ ∀ k, v'.ownBlock = some k → w.heap.size ≤ k)) := by
 have h0 : 0 ≤ w.heap.size := Nat.zero_le _
 have hlt := hU.lt
 have hO0 := hO.1
 have hb := grown_refl w v.ownBlock
 refine enter (N := 95) Try.func83 rfl rfl (by simp) fun a0 hN hd hA => ?_
 have s0 : a0.tmps.getD 0 undef = v := hA 0 (by simp)
 have s1 : a0.tmps.getD 1 undef = (Value.int .i64 ((i : Nat) : Int)) := hA 1 (by simp)
 have s2 : a0.tmps.getD 2 undef = (Value.slice (some ⟨ub, 0, none⟩) 1 1) := hA 2 (by simp)
 clear hA
 refine seq_any fun K832 hK832 => one_reg (op_assign rfl ?_)
 refine reg_nil (hK832 _ _ (seq_any fun K833 hK833 => one_reg (op_move (ev_base hN rfl s0) (op_move (ev_base hN rfl s1) (op_slice_cutS (k := i) slt48 (ev_hit hN rfl) hO (ev_hit hN rfl) (by omega) hi ?_)))))
 refine reg_nil (hK833 _ _ (seq_any fun K834 hK834 => one_reg (op_move (ev_base hN rfl s2) (op_len_rd Try.underlying48 (ev_hit hN rfl) (RdC.ofBx (sz := 2) (n := 1) hU rfl (by decide)) ?_))))
 refine op_assign (ev_hit hN rfl) ?_
 refine reg_nil (hK834 _ _ (seq_any fun K835 hK835 => seq_any fun K836 hK836 => one_reg (op_move (ev_hit hN rfl) (op_bin (v := .bool false) (ev_hit hN rfl) rfl (by rw [binOp_eql]; rfl) ?_))))
 refine reg_nil (hK836 _ _ (wp_cond_false (ev_hit hN rfl) ?_))
 refine wp_skip ?_
 refine hK835 _ _ (seq_any fun K837 hK837 => one_reg (op_move (ev_base hN rfl s0) (op_len_rd Try.underlying48 (ev_hit hN rfl) hO.rdw ?_)))
 refine op_assign (ev_hit hN rfl) ?_
 refine reg_nil (hK837 _ _ (seq_any fun K838 hK838 => seq_any fun K839 hK839 => ?_))
 refine one_reg (op_move (ev_base hN rfl s1) (op_move (ev_hit hN rfl) (op_eql (ev_hit hN rfl) (ev_hit hN rfl) (fun c22 => ?_) (fun c22 => ?_))))
 · -- 22T
  refine reg_nil (hK839 _ _ (wp_cond_true (ev_hit hN rfl) ?_))
  refine seq_any fun K840 hK840 => one_reg (op_move (ev_base hN rfl s0) (op_move (ev_base hN rfl s2) ?_))
  have hP846 := hO
  refine op_append slt48 (ev_hit hN rfl) hP846 (ev_hit hN rfl) (Src.ofRd Try.underlying48 (by decide) (RdC.ofBx (sz := 2) (n := 1) hU rfl (by decide)) hx1) (by unfold maxLen; omega) (by omega) (Nat.le_trans (by assumption) hb.size) ?_
  intro v841 w842 hO844 E843 hm845
  have z_w842 := E843.size
  have hb := grow_stepX hb E843 rfl
  have hO844 : Own w842 0 51 2 v841 (n + 1) ((cs ++ [x0, x1])) := by simpa [u8v, sv] using hO844
  have ne_ub_v841 : v841.ownBlock ≠ some ub := ne_step (w1 := w) ⟨E843, hm845⟩ (by omega) hne
  refine op_assign (ev_hit hN rfl) ?_
  refine reg_nil (hK840 _ _ (wp_ret (then_ret ( ?_))))
  refine ret1 rfl hd (ev_hit hN rfl) ⟨_, rfl, ?_⟩
  exact ⟨hb, hO844.cast rfl (by rw [show i = n by omega]; exact (ins_end hO0).symm), hm845⟩
 · -- 22F
  refine reg_nil (hK839 _ _ (wp_cond_false (ev_hit hN rfl) ?_))
  refine wp_skip ?_
  refine hK838 _ _ (seq_any fun K847 hK847 => seq_any fun K848 hK848 => one_reg (op_move (ev_hit hN rfl) (op_move (ev_hit hN rfl) (op_add (ev_hit hN rfl) (ev_hit hN rfl) (add64 (by omega)) ?_))))
  refine op_move (ev_base hN rfl s0) ?_
  obtain ⟨cap849, hcap850_1, hcap850_2, hcap850⟩ := hO.capOf
  have hcap850_3 : cap849 ≤ 9223372036854775807 := hcap850_2
  refine op_cap (c := cap849) Try.underlying48 (by rw [(ev_hit hN rfl)]; exact hcap850) ?_
  refine op_gtr (ev_hit hN rfl) (ev_hit hN rfl) (fun c31 => ?_) (fun c31 => ?_)
  · -- 31T
   refine reg_nil (hK848 _ _ (wp_cond_true (ev_hit hN rfl) ?_))
   refine seq_any fun K851 hK851 => one_reg (op_move (ev_base hN rfl s0) (op_move (ev_base hN rfl s1) (op_slice_hiC (m := i) slt48 (ev_hit hN rfl) hcap850 (ev_hit hN rfl) rfl (by omega) ?_)))
   refine op_move (ev_hit hN rfl) (op_move (ev_hit hN rfl) (op_add (ev_hit hN rfl) (ev_hit hN rfl) (add64 (by omega)) ?_))
   refine op_move (ev_base hN rfl s1) (op_sub (r := ((n + 1 - i : Nat) : Int)) (ev_hit hN rfl) (ev_hit hN rfl) ((sub64 (by omega)).trans (by omega)) ?_)
   refine op_append_zeros_grow (i := i) (m := n + 1 - i) slt48 Try.underlying3 (ev_hit hN rfl) hO hcap850 hi (ev_hit hN rfl) rfl (by omega) (by omega) (by omega) (by omega) (Nat.zero_le _) ?_
   intro v852 w853 zs854 hO855 E856 hf857
   have hO855 : Own w853 w.heap.size 51 2 v852 (n + 1) (cs.take (i * 2) ++ zs854) := (hO855.cast (by omega) rfl).rebase hf857
   have hzl : zs854.length = (n - i) * 2 + 1 * 2 := by have q1 := hO855.1; have q2 := hO.1; rw [List.length_append, List.length_take] at q1; omega
   have ne858 := fresh_ne hf857 hlt
   have dj859 : DJ v852 v := fun k hk hg => by have q1 := (hO855.lt k hk).1; have q2 := (hO.lt k hg).2; omega
   have z_w853 := E856.size
   have hO := hO.keep0 E856
   have hU := hU.keep0 E856
   have hb := grow_step0 hb E856
   refine op_assign (ev_hit hN rfl) ?_
   refine reg_nil (hK851 _ _ (seq_any fun K860 hK860 => one_reg (op_move (ev_hit hN rfl) (op_move (ev_base hN rfl s1) (op_slice_cutS (k := i) slt48 (ev_hit hN rfl) hO855 (ev_hit hN rfl) (by omega) (by omega) ?_)))))
   refine op_move (ev_base hN rfl s2) ?_
   have hP864 := hO855
   refine op_copy_cutS (k := i) (q := 1) slt48 (ev_hit hN rfl) hP864 (ev_hit hN rfl) (RdC.ofBx (sz := 2) (n := 1) hU rfl (by decide)) hx1 (by omega) (Nat.le_refl _) (.inl rfl) ?_
   intro w861 hO863 E862
   have z_w861 := E862.size
   have hO := hO.keepD E862 dj859.symm
   have hb := grow_stepO hb hP864 E862 (by omega)
   refine reg_nil (hK860 _ _ (seq_any fun K865 hK865 => reg_from mixed ?_))
   intro w867 E866
   have z_w867 := E866.size
   have hO := hO.keep0 E866
   have hO863 := hO863.keep0 E866
   have hb := grow_step0 hb E866
   refine from_still (m := 8) 8 (hd := [_, _, _, _, _, _, _, _]) (by kernel_rfl) rfl rfl ?_
   refine st_step rfl (fun _ h9 => op_move (ev_hit hN rfl) h9) ?_
   refine st_step rfl (fun _ h9 => op_move (ev_base hN rfl s1) h9) ?_
   refine st_step rfl (fun _ h9 => op_move (ev_hit hN rfl) h9) ?_
   refine st_step rfl (fun _ h9 => op_add (ev_hit hN rfl) (ev_hit hN rfl) (add64 (by omega)) h9) ?_
   refine st_step rfl (fun _ h9 => op_slice_cutS (k := i + 1) slt48 (ev_hit hN rfl) hO863 (ev_hit hN rfl) (by omega) (by omega) h9) ?_
   refine st_step rfl (fun _ h9 => op_move (ev_base hN rfl s0) h9) ?_
   refine st_step rfl (fun _ h9 => op_move (ev_base hN rfl s1) h9) ?_
   refine st_step rfl (fun _ h9 => op_slice_cutS (k := i) slt48 (ev_hit hN rfl) hO (ev_hit hN rfl) (by omega) hi h9) ?_
   refine st_nil ?_
   refine from_seq (tl := [_]) (by decide) (by kernel_rfl) rfl ?_
   have hP871 := hO863
   refine op_copy_cutS (k := i + 1) (q := n - i) slt48 (ev_hit hN rfl) hP871 (ev_hit hN rfl) (hO.cutO hi).rdw (all_drop_take h1) (by omega) (Nat.le_refl _) (.inl rfl) ?_
   intro w868 hO870 E869
   have z_w868 := E869.size
   have hb := grow_stepO hb hP871 E869 (by omega)
   refine reg_nil (hK865 _ _ (seq_any fun K872 hK872 => one_reg (op_move (ev_hit hN rfl) (op_assign (ev_hit hN rfl) ?_))))
   refine reg_nil (hK872 _ _ (wp_ret (then_ret ( ?_))))
   refine ret1 rfl hd (ev_hit hN rfl) ⟨_, rfl, ?_⟩
   exact ⟨hb, (hO870.mono (Nat.zero_le _)).cast rfl (by rw [Nat.add_mul i 1 2]; exact ins_grow (by omega) hzl rfl), .inr hf857⟩
  · -- 31F
   refine reg_nil (hK848 _ _ (wp_cond_false (ev_hit hN rfl) ?_))
   refine wp_skip ?_
   refine hK847 _ _ (seq_any fun K873 hK873 => one_reg (op_move (ev_base hN rfl s0) (op_move (ev_hit hN rfl) (op_move (ev_hit hN rfl) (op_add (ev_hit hN rfl) (ev_hit hN rfl) (add64 (by omega)) ?_)))))
   refine op_slice_hiC (m := n + 1) slt48 (ev_hit hN rfl) hcap850 (ev_hit hN rfl) (by omega) (by omega) ?_
   obtain ⟨sp874, hW875⟩ := hO.wide (m := n + 1) hcap850 (by omega) (by omega)
   refine op_assign (ev_hit hN rfl) ?_
   refine reg_nil (hK873 _ _ (seq_any fun K876 hK876 => ?_))
   refine seq_any fun K877 hK877 => one_reg (op_move (ev_base hN rfl s2) (op_move (ev_hit hN rfl) (op_move (ev_base hN rfl s1) (op_move (ev_hit hN rfl) (op_add (ev_hit hN rfl) (ev_hit hN rfl) (add64 (by omega)) ?_)))))
   refine op_slice_cutS (k := i + 1) slt48 (ev_hit hN rfl) hW875 (ev_hit hN rfl) (by omega) (by omega) ?_
   refine op_ext2 (ev_hit hN rfl) (ev_hit hN rfl) (ovl115 hU hW875 (hiV_ne hne) (by omega)) ?_
   refine op_not (ev_hit hN rfl) ?_
   refine reg_nil (hK877 _ _ (wp_cond_true (ev_hit hN rfl) ?_))
   refine seq_any fun K878 hK878 => reg_from mixed ?_
   intro w880 E879
   have z_w880 := E879.size
   have hU := hU.keep0 E879
   have hW875 := hW875.keep0 E879
   have hb := grow_step0 hb E879
   refine from_still (m := 8) 8 (hd := [_, _, _, _, _, _, _, _]) (by kernel_rfl) rfl rfl ?_
   refine st_step rfl (fun _ h9 => op_move (ev_hit hN rfl) h9) ?_
   refine st_step rfl (fun _ h9 => op_move (ev_base hN rfl s1) h9) ?_
   refine st_step rfl (fun _ h9 => op_move (ev_hit hN rfl) h9) ?_
   refine st_step rfl (fun _ h9 => op_add (ev_hit hN rfl) (ev_hit hN rfl) (add64 (by omega)) h9) ?_
   refine st_step rfl (fun _ h9 => op_slice_cutS (k := i + 1) slt48 (ev_hit hN rfl) hW875 (ev_hit hN rfl) (by omega) (by omega) h9) ?_
   refine st_step rfl (fun _ h9 => op_move (ev_hit hN rfl) h9) ?_
   refine st_step rfl (fun _ h9 => op_move (ev_base hN rfl s1) h9) ?_
   refine st_step rfl (fun _ h9 => op_slice_cutS (k := i) slt48 (ev_hit hN rfl) hW875 (ev_hit hN rfl) (by omega) (by omega) h9) ?_
   refine st_nil ?_
   refine from_seq (tl := [_]) (by decide) (by kernel_rfl) rfl ?_
   have hP884 := hW875
   refine op_copy_cutS (k := i + 1) (q := n - i) slt48 (ev_hit hN rfl) hP884 (ev_hit hN rfl) (hW875.cutO (k := i) (by omega)).rdw (all_mid h1 (by have := hO0; omega)) (by omega) (by omega) (.inr (by omega)) ?_
   intro w881 hO883 E882
   have z_w881 := E882.size
   have hU := hU.keep E882 (fun hh => (hiV_ne hne) hh.symm)
   have hb := grow_stepX hb E882 (hiV_ob v (n + 1))
   refine reg_nil (hK878 _ _ (seq_any fun K885 hK885 => one_reg (op_move (ev_hit hN rfl) (op_move (ev_base hN rfl s1) (op_slice_cutS (k := i) slt48 (ev_hit hN rfl) hO883 (ev_hit hN rfl) (by omega) (by omega) ?_)))))
   refine op_move (ev_base hN rfl s2) ?_
   have hP889 := hO883
   refine op_copy_cutS (k := i) (q := 1) slt48 (ev_hit hN rfl) hP889 (ev_hit hN rfl) (RdC.ofBx (sz := 2) (n := 1) hU rfl (by decide)) hx1 (by omega) (by decide) (.inl rfl) ?_
   intro w886 hO888 E887
   have z_w886 := E887.size
   have hb := grow_stepX hb E887 (hiV_ob v (n + 1))
   refine reg_nil (hK885 _ _ (seq_any fun K890 hK890 => one_reg (op_move (ev_hit hN rfl) (op_assign (ev_hit hN rfl) ?_))))
   refine reg_nil (hK890 _ _ (wp_ret (then_ret ( ?_))))
   refine ret1 rfl hd (ev_hit hN rfl) ⟨_, rfl, ?_⟩
   exact ⟨hb, hO888.cast rfl (by rw [Nat.add_mul i 1 2]; exact ins_room (by omega) (by have := hW875.1; omega) rfl), .inl (hiV_ob _ _)⟩

theorem InsNI {n i ub : Nat} {v x0 : Value} {cs : List Value} {w : World} (hO : Own w 0 69 1 v n cs) (hU : Bx w ub 69 [x0]) (h1 : cs.all Value.oneCell' = true) (hx1 : ([x0]).all Value.oneCell' = true) (hi : i ≤ n) (hn : n ≤ 1000) (hne : v.ownBlock ≠ some ub) : Ret Try.prog 85 #[v, (Value.int .i64 ((i : Nat) : Int)), (Value.slice (some ⟨ub, 0, none⟩) 1 1)] w (fun v' w' => w.grownBy w' v.ownBlock ∧ Own w' 0 69 1 v' (n + 1) (cs.take (i * 1) ++ [x0] ++ cs.drop (i * 1)) ∧ (v'.ownBlock = v.ownBlock ∨ ∀ k, v'.ownBlock = some k → w.heap.size ≤ k)) := by
 have h0 : 0 ≤ w.heap.size := Nat.zero_le _
 have hlt := hU.lt
 have hO0 := hO.1
 have hb := grown_refl w v.ownBlock
 refine enter (N := 95) Try.func85 rfl rfl (by simp) fun a0 hN hd hA => ?_
 have s0 : a0.tmps.getD 0 undef = v := hA 0 (by simp)
 have s1 : a0.tmps.getD 1 undef = (Value.int .i64 ((i : Nat) : Int)) := hA 1 (by simp)
 have s2 : a0.tmps.getD 2 undef = (Value.slice (some ⟨ub, 0, none⟩) 1 1) := hA 2 (by simp)
 clear hA
 refine seq_any fun K891 hK891 => one_reg (op_assign rfl ?_)
 refine reg_nil (hK891 _ _ (seq_any fun K892 hK892 => one_reg (op_move (ev_base hN rfl s0) (op_move (ev_base hN rfl s1) (op_slice_cutS (k := i) slt113 (ev_hit hN rfl) hO (ev_hit hN rfl) (by omega) hi ?_)))))
 refine reg_nil (hK892 _ _ (seq_any fun K893 hK893 => one_reg (op_move (ev_base hN rfl s2) (op_len_rd Try.underlying113 (ev_hit hN rfl) (RdC.ofBx (sz := 1) (n := 1) hU rfl (by decide)) ?_))))
 refine op_assign (ev_hit hN rfl) ?_
 refine reg_nil (hK893 _ _ (seq_any fun K894 hK894 => seq_any fun K895 hK895 => one_reg (op_move (ev_hit hN rfl) (op_bin (v := .bool false) (ev_hit hN rfl) rfl (by rw [binOp_eql]; rfl) ?_))))
 refine reg_nil (hK895 _ _ (wp_cond_false (ev_hit hN rfl) ?_))
 refine wp_skip ?_
 refine hK894 _ _ (seq_any fun K896 hK896 => one_reg (op_move (ev_base hN rfl s0) (op_len_rd Try.underlying113 (ev_hit hN rfl) hO.rdw ?_)))
 refine op_assign (ev_hit hN rfl) ?_
 refine reg_nil (hK896 _ _ (seq_any fun K897 hK897 => seq_any fun K898 hK898 => ?_))
 refine one_reg (op_move (ev_base hN rfl s1) (op_move (ev_hit hN rfl) (op_eql (ev_hit hN rfl) (ev_hit hN rfl) (fun c22 => ?_) (fun c22 => ?_))))
 · -- 22T
  refine reg_nil (hK898 _ _ (wp_cond_true (ev_hit hN rfl) ?_))
  refine seq_any fun K899 hK899 => one_reg (op_move (ev_base hN rfl s0) (op_move (ev_base hN rfl s2) ?_))
  have hP905 := hO
  refine op_append slt113 (ev_hit hN rfl) hP905 (ev_hit hN rfl) (Src.ofRd Try.underlying113 (by decide) (RdC.ofBx (sz := 1) (n := 1) hU rfl (by decide)) hx1) (by unfold maxLen; omega) (by omega) (Nat.le_trans (by assumption) hb.size) ?_
  intro v900 w901 hO903 E902 hm904
  have z_w901 := E902.size
  have hb := grow_stepX hb E902 rfl
  have hO903 : Own w901 0 69 1 v900 (n + 1) ((cs ++ [x0])) := by simpa [u8v, sv] using hO903
  have ne_ub_v900 : v900.ownBlock ≠ some ub := ne_step (w1 := w) ⟨E902, hm904⟩ (by omega) hne
  refine op_assign (ev_hit hN rfl) ?_
  refine reg_nil (hK899 _ _ (wp_ret (then_ret ( ?_))))
  refine ret1 rfl hd (ev_hit hN rfl) ⟨_, rfl, ?_⟩
  exact ⟨hb, hO903.cast rfl (by rw [show i = n by omega]; exact (ins_end hO0).symm), hm904⟩
 · -- 22F
  refine reg_nil (hK898 _ _ (wp_cond_false (ev_hit hN rfl) ?_))
  refine wp_skip ?_
  refine hK897 _ _ (seq_any fun K906 hK906 => seq_any fun K907 hK907 => one_reg (op_move (ev_hit hN rfl) (op_move (ev_hit hN rfl) (op_add (ev_hit hN rfl) (ev_hit hN rfl) (add64 (by omega)) ?_))))
  refine op_move (ev_base hN rfl s0) ?_
  obtain ⟨cap908, hcap909_1, hcap909_2, hcap909⟩ := hO.capOf
  have hcap909_3 : cap908 ≤ 9223372036854775807 := hcap909_2
  refine op_cap (c := cap908) Try.underlying113 (by rw [(ev_hit hN rfl)]; exact hcap909) ?_
  refine op_gtr (ev_hit hN rfl) (ev_hit hN rfl) (fun c31 => ?_) (fun c31 => ?_)
  · -- 31T
   refine reg_nil (hK907 _ _ (wp_cond_true (ev_hit hN rfl) ?_))
   refine seq_any fun K910 hK910 => one_reg (op_move (ev_base hN rfl s0) (op_move (ev_base hN rfl s1) (op_slice_hiC (m := i) slt113 (ev_hit hN rfl) hcap909 (ev_hit hN rfl) rfl (by omega) ?_)))
   refine op_move (ev_hit hN rfl) (op_move (ev_hit hN rfl) (op_add (ev_hit hN rfl) (ev_hit hN rfl) (add64 (by omega)) ?_))
   refine op_move (ev_base hN rfl s1) (op_sub (r := ((n + 1 - i : Nat) : Int)) (ev_hit hN rfl) (ev_hit hN rfl) ((sub64 (by omega)).trans (by omega)) ?_)
   refine op_append_zeros_grow (i := i) (m := n + 1 - i) slt113 Try.underlying3 (ev_hit hN rfl) hO hcap909 hi (ev_hit hN rfl) rfl (by omega) (by omega) (by omega) (by omega) (Nat.zero_le _) ?_
   intro v911 w912 zs913 hO914 E915 hf916
   have hO914 : Own w912 w.heap.size 69 1 v911 (n + 1) (cs.take (i * 1) ++ zs913) := (hO914.cast (by omega) rfl).rebase hf916
   have hzl : zs913.length = (n - i) * 1 + 1 * 1 := by have q1 := hO914.1; have q2 := hO.1; rw [List.length_append, List.length_take] at q1; omega
   have ne917 := fresh_ne hf916 hlt
   have dj918 : DJ v911 v := fun k hk hg => by have q1 := (hO914.lt k hk).1; have q2 := (hO.lt k hg).2; omega
   have z_w912 := E915.size
   have hO := hO.keep0 E915
   have hU := hU.keep0 E915
   have hb := grow_step0 hb E915
   refine op_assign (ev_hit hN rfl) ?_
   refine reg_nil (hK910 _ _ (seq_any fun K919 hK919 => one_reg (op_move (ev_hit hN rfl) (op_move (ev_base hN rfl s1) (op_slice_cutS (k := i) slt113 (ev_hit hN rfl) hO914 (ev_hit hN rfl) (by omega) (by omega) ?_)))))
   refine op_move (ev_base hN rfl s2) ?_
   have hP923 := hO914
   refine op_copy_cutS (k := i) (q := 1) slt113 (ev_hit hN rfl) hP923 (ev_hit hN rfl) (RdC.ofBx (sz := 1) (n := 1) hU rfl (by decide)) hx1 (by omega) (Nat.le_refl _) (.inl rfl) ?_
   intro w920 hO922 E921
   have z_w920 := E921.size
   have hO := hO.keepD E921 dj918.symm
   have hb := grow_stepO hb hP923 E921 (by omega)
   refine reg_nil (hK919 _ _ (seq_any fun K924 hK924 => reg_from mixed ?_))
   intro w926 E925
   have z_w926 := E925.size
   have hO := hO.keep0 E925
   have hO922 := hO922.keep0 E925
   have hb := grow_step0 hb E925
   refine from_still (m := 8) 8 (hd := [_, _, _, _, _, _, _, _]) (by kernel_rfl) rfl rfl ?_
   refine st_step rfl (fun _ h9 => op_move (ev_hit hN rfl) h9) ?_
   refine st_step rfl (fun _ h9 => op_move (ev_base hN rfl s1) h9) ?_
   refine st_step rfl (fun _ h9 => op_move (ev_hit hN rfl) h9) ?_
   refine st_step rfl (fun _ h9 => op_add (ev_hit hN rfl) (ev_hit hN rfl) (add64 (by omega)) h9) ?_
   refine st_step rfl (fun _ h9 => op_slice_cutS (k := i + 1) slt113 (ev_hit hN rfl) hO922 (ev_hit hN rfl) (by omega) (by omega) h9) ?_
   refine st_step rfl (fun _ h9 => op_move (ev_base hN rfl s0) h9) ?_
   refine st_step rfl (fun _ h9 => op_move (ev_base hN rfl s1) h9) ?_
   refine st_step rfl (fun _ h9 => op_slice_cutS (k := i) slt113 (ev_hit hN rfl) hO (ev_hit hN rfl) (by omega) hi h9) ?_
   refine st_nil ?_
   refine from_seq (tl := [_]) (by decide) (by kernel_rfl) rfl ?_
   have hP930 := hO922
   refine op_copy_cutS (k := i + 1) (q := n - i) slt113 (ev_hit hN rfl) hP930 (ev_hit hN rfl) (hO.cutO hi).rdw (all_drop_take h1) (by omega) (Nat.le_refl _) (.inl rfl) ?_
   intro w927 hO929 E928
   have z_w927 := E928.size
   have hb := grow_stepO hb hP930 E928 (by omega)
   refine reg_nil (hK924 _ _ (seq_any fun K931 hK931 => one_reg (op_move (ev_hit hN rfl) (op_assign (ev_hit hN rfl) ?_))))
   refine reg_nil (hK931 _ _ (wp_ret (then_ret ( ?_))))
   refine ret1 rfl hd (ev_hit hN rfl) ⟨_, rfl, ?_⟩
   exact ⟨hb, (hO929.mono (Nat.zero_le _)).cast rfl (by rw [Nat.add_mul i 1 1]; exact ins_grow (by omega) hzl rfl), .inr hf916⟩
  · -- 31F
   refine reg_nil (hK907 _ _ (wp_cond_false (ev_hit hN rfl) ?_))
   refine wp_skip ?_
   refine hK906 _ _ (seq_any fun K932 hK932 => one_reg (op_move (ev_base hN rfl s0) (op_move (ev_hit hN rfl) (op_move (ev_hit hN rfl) (op_add (ev_hit hN rfl) (ev_hit hN rfl) (add64 (by omega)) ?_)))))
   refine op_slice_hiC (m := n + 1) slt113 (ev_hit hN rfl) hcap909 (ev_hit hN rfl) (by omega) (by omega) ?_
   obtain ⟨sp933, hW934⟩ := hO.wide (m := n + 1) hcap909 (by omega) (by omega)
   refine op_assign (ev_hit hN rfl) ?_
   refine reg_nil (hK932 _ _ (seq_any fun K935 hK935 => ?_))
   refine seq_any fun K936 hK936 => one_reg (op_move (ev_base hN rfl s2) (op_move (ev_hit hN rfl) (op_move (ev_base hN rfl s1) (op_move (ev_hit hN rfl) (op_add (ev_hit hN rfl) (ev_hit hN rfl) (add64 (by omega)) ?_)))))
   refine op_slice_cutS (k := i + 1) slt113 (ev_hit hN rfl) hW934 (ev_hit hN rfl) (by omega) (by omega) ?_
   refine op_ext2 (ev_hit hN rfl) (ev_hit hN rfl) (ovl117 hU hW934 (hiV_ne hne) (by omega)) ?_
   refine op_not (ev_hit hN rfl) ?_
   refine reg_nil (hK936 _ _ (wp_cond_true (ev_hit hN rfl) ?_))
   refine seq_any fun K937 hK937 => reg_from mixed ?_
   intro w939 E938
   have z_w939 := E938.size
   have hU := hU.keep0 E938
   have hW934 := hW934.keep0 E938
   have hb := grow_step0 hb E938
   refine from_still (m := 8) 8 (hd := [_, _, _, _, _, _, _, _]) (by kernel_rfl) rfl rfl ?_
   refine st_step rfl (fun _ h9 => op_move (ev_hit hN rfl) h9) ?_
   refine st_step rfl (fun _ h9 => op_move (ev_base hN rfl s1) h9) ?_
   refine st_step rfl (fun _ h9 => op_move (ev_hit hN rfl) h9) ?_
   refine st_step rfl (fun _ h9 => op_add (ev_hit hN rfl) (ev_hit hN rfl) (add64 (by omega)) h9) ?_
   refine st_step rfl (fun _ h9 => op_slice_cutS (k := i + 1) slt113 (ev_hit hN rfl) hW934 (ev_hit hN rfl) (by omega) (by omega) h9) ?_
   refine st_step rfl (fun _ h9 => op_move (ev_hit hN rfl) h9) ?_
   refine st_step rfl (fun _ h9 => op_move (ev_base hN rfl s1) h9) ?_
   refine st_step rfl (fun _ h9 => op_slice_cutS (k := i) slt113 (ev_hit hN rfl) hW934 (ev_hit hN rfl) (by omega) (by omega) h9) ?_
   refine st_nil ?_
   refine from_seq (tl := [_]) (by decide) (by kernel_rfl) rfl ?_
   have hP943 := hW934
   refine op_copy_cutS (k := i + 1) (q := n - i) slt113 (ev_hit hN rfl) hP943 (ev_hit hN rfl) (hW934.cutO (k := i) (by omega)).rdw (all_mid h1 (by have := hO0; omega)) (by omega) (by omega) (.inr (by omega)) ?_
   intro w940 hO942 E941
   have z_w940 := E941.size
   have hU := hU.keep E941 (fun hh => (hiV_ne hne) hh.symm)
   have hb := grow_stepX hb E941 (hiV_ob v (n + 1))
   refine reg_nil (hK937 _ _ (seq_any fun K944 hK944 => one_reg (op_move (ev_hit hN rfl) (op_move (ev_base hN rfl s1) (op_slice_cutS (k := i) slt113 (ev_hit hN rfl) hO942 (ev_hit hN rfl) (by omega) (by omega) ?_)))))
   refine op_move (ev_base hN rfl s2) ?_
   have hP948 := hO942
   refine op_copy_cutS (k := i) (q := 1) slt113 (ev_hit hN rfl) hP948 (ev_hit hN rfl) (RdC.ofBx (sz := 1) (n := 1) hU rfl (by decide)) hx1 (by omega) (by decide) (.inl rfl) ?_
   intro w945 hO947 E946
   have z_w945 := E946.size
   have hb := grow_stepX hb E946 (hiV_ob v (n + 1))
   refine reg_nil (hK944 _ _ (seq_any fun K949 hK949 => one_reg (op_move (ev_hit hN rfl) (op_assign (ev_hit hN rfl) ?_))))
   refine reg_nil (hK949 _ _ (wp_ret (then_ret ( ?_))))
   refine ret1 rfl hd (ev_hit hN rfl) ⟨_, rfl, ?_⟩
   exact ⟨hb, hO947.cast rfl (by rw [Nat.add_mul i 1 1]; exact ins_room (by omega) (by have := hW934.1; omega) rfl), .inl (hiV_ob _ _)⟩

end Go.Proofs.Ytcpfdfejojghbaa

/- Walks, written by a program: what each function of the translation hands back. -/
namespace Go.Proofs.Ytcpfdfejojghbaa
open Go.Gx Go.RowKit
attribute [local irreducible] wpList wpStill Code.wp Calls

theorem InsS {n i ub : Nat} {v x0 x1 : Value} {cs : List Value} {w : World} (hO : Own w 0 98 2 v n cs) (hU : Bx w ub 98 [x0, x1]) (h1 : cs.all Value.oneCell' = true) (hx1 : ([x0, x1]).all Value.oneCell' = true) (hi : i ≤ n) (hn : n ≤ 1000) (hne : v.ownBlock ≠ some ub) : Ret Try.prog 65 #[v, (Value.int .i64 ((i : Nat) : Int)), (Value.slice (some ⟨ub, 0, none⟩) 1 1)] w (fun v' w' => w.grownBy w' v.ownBlock ∧ Own w' 0 98 2 v' (n + 1) (cs.take (i * 2) ++ [x0, x1] ++ cs.drop (i * 2)) ∧ (v'.ownBlock = v.ownBlock ∨ ∀ k, v'.ownBlock = some k → w.heap.size ≤ k)) := by
 have h0 : 0 ≤ w.heap.size := Nat.zero_le _
 have hlt := hU.lt
 have hO0 := hO.1
 have hb := grown_refl w v.ownBlock
 refine enter (N := 95) Try.func65 rfl rfl (by simp) fun a0 hN hd hA => ?_
 have s0 : a0.tmps.getD 0 undef = v := hA 0 (by simp)
 have s1 : a0.tmps.getD 1 undef = (Value.int .i64 ((i : Nat) : Int)) := hA 1 (by simp)
 have s2 : a0.tmps.getD 2 undef = (Value.slice (some ⟨ub, 0, none⟩) 1 1) := hA 2 (by simp)
 clear hA
 refine seq_any fun K950 hK950 => one_reg (op_assign rfl ?_)
 refine reg_nil (hK950 _ _ (seq_any fun K951 hK951 => one_reg (op_move (ev_base hN rfl s0) (op_move (ev_base hN rfl s1) (op_slice_cutS (k := i) slt89 (ev_hit hN rfl) hO (ev_hit hN rfl) (by omega) hi ?_)))))
 refine reg_nil (hK951 _ _ (seq_any fun K952 hK952 => one_reg (op_move (ev_base hN rfl s2) (op_len_rd Try.underlying89 (ev_hit hN rfl) (RdC.ofBx (sz := 2) (n := 1) hU rfl (by decide)) ?_))))
 refine op_assign (ev_hit hN rfl) ?_
 refine reg_nil (hK952 _ _ (seq_any fun K953 hK953 => seq_any fun K954 hK954 => one_reg (op_move (ev_hit hN rfl) (op_bin (v := .bool false) (ev_hit hN rfl) rfl (by rw [binOp_eql]; rfl) ?_))))
 refine reg_nil (hK954 _ _ (wp_cond_false (ev_hit hN rfl) ?_))
 refine wp_skip ?_
 refine hK953 _ _ (seq_any fun K955 hK955 => one_reg (op_move (ev_base hN rfl s0) (op_len_rd Try.underlying89 (ev_hit hN rfl) hO.rdw ?_)))
 refine op_assign (ev_hit hN rfl) ?_
 refine reg_nil (hK955 _ _ (seq_any fun K956 hK956 => seq_any fun K957 hK957 => ?_))
 refine one_reg (op_move (ev_base hN rfl s1) (op_move (ev_hit hN rfl) (op_eql (ev_hit hN rfl) (ev_hit hN rfl) (fun c22 => ?_) (fun c22 => ?_))))
 · -- 22T
  refine reg_nil (hK957 _ _ (wp_cond_true (ev_hit hN rfl) ?_))
  refine seq_any fun K958 hK958 => one_reg (op_move (ev_base hN rfl s0) (op_move (ev_base hN rfl s2) ?_))
  have hP964 := hO
  refine op_append slt89 (ev_hit hN rfl) hP964 (ev_hit hN rfl) (Src.ofRd Try.underlying89 (by decide) (RdC.ofBx (sz := 2) (n := 1) hU rfl (by decide)) hx1) (by unfold maxLen; omega) (by omega) (Nat.le_trans (by assumption) hb.size) ?_
  intro v959 w960 hO962 E961 hm963
  have z_w960 := E961.size
  have hb := grow_stepX hb E961 rfl
  have hO962 : Own w960 0 98 2 v959 (n + 1) ((cs ++ [x0, x1])) := by simpa [u8v, sv] using hO962
  have ne_ub_v959 : v959.ownBlock ≠ some ub := ne_step (w1 := w) ⟨E961, hm963⟩ (by omega) hne
  refine op_assign (ev_hit hN rfl) ?_
  refine reg_nil (hK958 _ _ (wp_ret (then_ret ( ?_))))
  refine ret1 rfl hd (ev_hit hN rfl) ⟨_, rfl, ?_⟩
  exact ⟨hb, hO962.cast rfl (by rw [show i = n by omega]; exact (ins_end hO0).symm), hm963⟩
 · -- 22F
  refine reg_nil (hK957 _ _ (wp_cond_false (ev_hit hN rfl) ?_))
  refine wp_skip ?_
  refine hK956 _ _ (seq_any fun K965 hK965 => seq_any fun K966 hK966 => one_reg (op_move (ev_hit hN rfl) (op_move (ev_hit hN rfl) (op_add (ev_hit hN rfl) (ev_hit hN rfl) (add64 (by omega)) ?_))))
  refine op_move (ev_base hN rfl s0) ?_
  obtain ⟨cap967, hcap968_1, hcap968_2, hcap968⟩ := hO.capOf
  have hcap968_3 : cap967 ≤ 9223372036854775807 := hcap968_2
  refine op_cap (c := cap967) Try.underlying89 (by rw [(ev_hit hN rfl)]; exact hcap968) ?_
  refine op_gtr (ev_hit hN rfl) (ev_hit hN rfl) (fun c31 => ?_) (fun c31 => ?_)
  · -- 31T
   refine reg_nil (hK966 _ _ (wp_cond_true (ev_hit hN rfl) ?_))
   refine seq_any fun K969 hK969 => one_reg (op_move (ev_base hN rfl s0) (op_move (ev_base hN rfl s1) (op_slice_hiC (m := i) slt89 (ev_hit hN rfl) hcap968 (ev_hit hN rfl) rfl (by omega) ?_)))
   refine op_move (ev_hit hN rfl) (op_move (ev_hit hN rfl) (op_add (ev_hit hN rfl) (ev_hit hN rfl) (add64 (by omega)) ?_))
   refine op_move (ev_base hN rfl s1) (op_sub (r := ((n + 1 - i : Nat) : Int)) (ev_hit hN rfl) (ev_hit hN rfl) ((sub64 (by omega)).trans (by omega)) ?_)
   refine op_append_zeros_grow (i := i) (m := n + 1 - i) slt89 Try.underlying3 (ev_hit hN rfl) hO hcap968 hi (ev_hit hN rfl) rfl (by omega) (by omega) (by omega) (by omega) (Nat.zero_le _) ?_
   intro v970 w971 zs972 hO973 E974 hf975
   have hO973 : Own w971 w.heap.size 98 2 v970 (n + 1) (cs.take (i * 2) ++ zs972) := (hO973.cast (by omega) rfl).rebase hf975
   have hzl : zs972.length = (n - i) * 2 + 1 * 2 := by have q1 := hO973.1; have q2 := hO.1; rw [List.length_append, List.length_take] at q1; omega
   have ne976 := fresh_ne hf975 hlt
   have dj977 : DJ v970 v := fun k hk hg => by have q1 := (hO973.lt k hk).1; have q2 := (hO.lt k hg).2; omega
   have z_w971 := E974.size
   have hO := hO.keep0 E974
   have hU := hU.keep0 E974
   have hb := grow_step0 hb E974
   refine op_assign (ev_hit hN rfl) ?_
   refine reg_nil (hK969 _ _ (seq_any fun K978 hK978 => one_reg (op_move (ev_hit hN rfl) (op_move (ev_base hN rfl s1) (op_slice_cutS (k := i) slt89 (ev_hit hN rfl) hO973 (ev_hit hN rfl) (by omega) (by omega) ?_)))))
   refine op_move (ev_base hN rfl s2) ?_
   have hP982 := hO973
   refine op_copy_cutS (k := i) (q := 1) slt89 (ev_hit hN rfl) hP982 (ev_hit hN rfl) (RdC.ofBx (sz := 2) (n := 1) hU rfl (by decide)) hx1 (by omega) (Nat.le_refl _) (.inl rfl) ?_
   intro w979 hO981 E980
   have z_w979 := E980.size
   have hO := hO.keepD E980 dj977.symm
   have hb := grow_stepO hb hP982 E980 (by omega)
   refine reg_nil (hK978 _ _ (seq_any fun K983 hK983 => reg_from mixed ?_))
   intro w985 E984
   have z_w985 := E984.size
   have hO := hO.keep0 E984
   have hO981 := hO981.keep0 E984
   have hb := grow_step0 hb E984
   refine from_still (m := 8) 8 (hd := [_, _, _, _, _, _, _, _]) (by kernel_rfl) rfl rfl ?_
   refine st_step rfl (fun _ h9 => op_move (ev_hit hN rfl) h9) ?_
   refine st_step rfl (fun _ h9 => op_move (ev_base hN rfl s1) h9) ?_
   refine st_step rfl (fun _ h9 => op_move (ev_hit hN rfl) h9) ?_
   refine st_step rfl (fun _ h9 => op_add (ev_hit hN rfl) (ev_hit hN rfl) (add64 (by omega)) h9) ?_
   refine st_step rfl (fun _ h9 => op_slice_cutS (k := i + 1) slt89 (ev_hit hN rfl) hO981 (ev_hit hN rfl) (by omega) (by omega) h9) ?_
   refine st_step rfl (fun _ h9 => op_move (ev_base hN rfl s0) h9) ?_
   refine st_step rfl (fun _ h9 => op_move (ev_base hN rfl s1) h9) ?_
   refine st_step rfl (fun _ h9 => op_slice_cutS (k := i) slt89 (ev_hit hN rfl) hO (ev_hit hN rfl) (by omega) hi h9) ?_
   refine st_nil ?_
   refine from_seq (tl := [_]) (by decide) (by kernel_rfl) rfl ?_
   have hP989 := hO981
   refine op_copy_cutS (k := i + 1) (q := n - i) slt89 (ev_hit hN rfl) hP989 (ev_hit hN rfl) (hO.cutO hi).rdw (all_drop_take h1) (by omega) (Nat.le_refl _) (.inl rfl) ?_
   intro w986 hO988 E987
   have z_w986 := E987.size
   have hb := grow_stepO hb hP989 E987 (by omega)
   refine reg_nil (hK983 _ _ (seq_any fun K990 hK990 => one_reg (op_move (ev_hit hN rfl) (op_assign (ev_hit hN rfl) ?_))))
   refine reg_nil (hK990 _ _ (wp_ret (then_ret ( ?_))))
   refine ret1 rfl hd (ev_hit hN rfl) ⟨_, rfl, ?_⟩
   exact ⟨hb, (hO988.mono (Nat.zero_le _)).cast rfl (by rw [Nat.add_mul i 1 2]; exact ins_grow (by omega) hzl rfl), .inr hf975⟩
  · -- 31F
   refine reg_nil (hK966 _ _ (wp_cond_false (ev_hit hN rfl) ?_))
   refine wp_skip ?_
   refine hK965 _ _ (seq_any fun K991 hK991 => one_reg (op_move (ev_base hN rfl s0) (op_move (ev_hit hN rfl) (op_move (ev_hit hN rfl) (op_add (ev_hit hN rfl) (ev_hit hN rfl) (add64 (by omega)) ?_)))))
   refine op_slice_hiC (m := n + 1) slt89 (ev_hit hN rfl) hcap968 (ev_hit hN rfl) (by omega) (by omega) ?_
   obtain ⟨sp992, hW993⟩ := hO.wide (m := n + 1) hcap968 (by omega) (by omega)
   refine op_assign (ev_hit hN rfl) ?_
   refine reg_nil (hK991 _ _ (seq_any fun K994 hK994 => ?_))
   refine seq_any fun K995 hK995 => one_reg (op_move (ev_base hN rfl s2) (op_move (ev_hit hN rfl) (op_move (ev_base hN rfl s1) (op_move (ev_hit hN rfl) (op_add (ev_hit hN rfl) (ev_hit hN rfl) (add64 (by omega)) ?_)))))
   refine op_slice_cutS (k := i + 1) slt89 (ev_hit hN rfl) hW993 (ev_hit hN rfl) (by omega) (by omega) ?_
   refine op_ext2 (ev_hit hN rfl) (ev_hit hN rfl) (ovl96 hU hW993 (hiV_ne hne) (by omega)) ?_
   refine op_not (ev_hit hN rfl) ?_
   refine reg_nil (hK995 _ _ (wp_cond_true (ev_hit hN rfl) ?_))
   refine seq_any fun K996 hK996 => reg_from mixed ?_
   intro w998 E997
   have z_w998 := E997.size
   have hU := hU.keep0 E997
   have hW993 := hW993.keep0 E997
   have hb := grow_step0 hb E997
   refine from_still (m := 8) 8 (hd := [_, _, _, _, _, _, _, _]) (by kernel_rfl) rfl rfl ?_
   refine st_step rfl (fun _ h9 => op_move (ev_hit hN rfl) h9) ?_
   refine st_step rfl (fun _ h9 => op_move (ev_base hN rfl s1) h9) ?_
   refine st_step rfl (fun _ h9 => op_move (ev_hit hN rfl) h9) ?_
   refine st_step rfl (fun _ h9 => op_add (ev_hit hN rfl) (ev_hit hN rfl) (add64 (by omega)) h9) ?_
   refine st_step rfl (fun _ h9 => op_slice_cutS (k := i + 1) slt89 (ev_hit hN rfl) hW993 (ev_hit hN rfl) (by omega) (by omega) h9) ?_
   refine st_step rfl (fun _ h9 => op_move (ev_hit hN rfl) h9) ?_
   refine st_step rfl (fun _ h9 => op_move (ev_base hN rfl s1) h9) ?_
   refine st_step rfl (fun _ h9 => op_slice_cutS (k := i) slt89 (ev_hit hN rfl) hW993 (ev_hit hN rfl) (by omega) (by omega) h9) ?_
   refine st_nil ?_
   refine from_seq (tl := [_]) (by decide) (by kernel_rfl) rfl ?_
   have hP6 := hW993
   refine op_copy_cutS (k := i + 1) (q := n - i) slt89 (ev_hit hN rfl) hP6 (ev_hit hN rfl) (hW993.cutO (k := i) (by omega)).rdw (all_mid h1 (by have := hO0; omega)) (by omega) (by omega) (.inr (by omega)) ?_
   intro w999 hO5 E4
   have z_w999 := E4.size
   have hU := hU.keep E4 (fun hh => (hiV_ne hne) hh.symm)
   have hb := grow_stepX hb E4 (hiV_ob v (n + 1))
   refine reg_nil (hK996 _ _ (seq_any fun K7 hK7 => one_reg (op_move (ev_hit hN rfl) (op_move (ev_base hN rfl s1) (op_slice_cutS (k := i) slt89 (ev_hit hN rfl) hO5 (ev_hit hN rfl) (by omega) (by omega) ?_)))))
   refine op_move (ev_base hN rfl s2) ?_
   have hP13 := hO5
   refine op_copy_cutS (k := i) (q := 1) slt89 (ev_hit hN rfl) hP13 (ev_hit hN rfl) (RdC.ofBx (sz := 2) (n := 1) hU rfl (by decide)) hx1 (by omega) (by decide) (.inl rfl) ?_
   intro w10 hO12 E11
   have z_w10 := E11.size
   have hb := grow_stepX hb E11 (hiV_ob v (n + 1))
   refine reg_nil (hK7 _ _ (seq_any fun K14 hK14 => one_reg (op_move (ev_hit hN rfl) (op_assign (ev_hit hN rfl) ?_))))
   refine reg_nil (hK14 _ _ (wp_ret (then_ret ( ?_))))
   refine ret1 rfl hd (ev_hit hN rfl) ⟨_, rfl, ?_⟩
   exact ⟨hb, hO12.cast rfl (by rw [Nat.add_mul i 1 2]; exact ins_room (by omega) (by have := hW993.1; omega) rfl), .inl (hiV_ob _ _)⟩

theorem InsNS {n i ub : Nat} {v x0 : Value} {cs : List Value} {w : World} (hO : Own w 0 86 1 v n cs) (hU : Bx w ub 86 [x0]) (h1 : cs.all Value.oneCell' = true) (hx1 : ([x0]).all Value.oneCell' = true) (hi : i ≤ n) (hn : n ≤ 1000) (hne : v.ownBlock ≠ some ub) : Ret Try.prog 68 #[v, (Value.int .i64 ((i : Nat) : Int)), (Value.slice (some ⟨ub, 0, none⟩) 1 1)] w (fun v' w' => w.grownBy w' v.ownBlock ∧ Own w' 0 86 1 v' (n + 1) (cs.take (i * 1) ++ [x0] ++ cs.drop (i * 1)) ∧ (v'.ownBlock = v.ownBlock ∨ ∀ k, v'.ownBlock = some k → w.heap.size ≤ k)) := by
 have h0 : 0 ≤ w.heap.size := Nat.zero_le _
 have hlt := hU.lt
 have hO0 := hO.1
 have hb := grown_refl w v.ownBlock
 refine enter (N := 95) Try.func68 rfl rfl (by simp) fun a0 hN hd hA => ?_
 have s0 : a0.tmps.getD 0 undef = v := hA 0 (by simp)
 have s1 : a0.tmps.getD 1 undef = (Value.int .i64 ((i : Nat) : Int)) := hA 1 (by simp)
 have s2 : a0.tmps.getD 2 undef = (Value.slice (some ⟨ub, 0, none⟩) 1 1) := hA 2 (by simp)
 clear hA
 refine seq_any fun K4 hK4 => one_reg (op_assign rfl ?_)
 refine reg_nil (hK4 _ _ (seq_any fun K5 hK5 => one_reg (op_move (ev_base hN rfl s0) (op_move (ev_base hN rfl s1) (op_slice_cutS (k := i) slt91 (ev_hit hN rfl) hO (ev_hit hN rfl) (by omega) hi ?_)))))
 refine reg_nil (hK5 _ _ (seq_any fun K6 hK6 => one_reg (op_move (ev_base hN rfl s2) (op_len_rd Try.underlying91 (ev_hit hN rfl) (RdC.ofBx (sz := 1) (n := 1) hU rfl (by decide)) ?_))))
 refine op_assign (ev_hit hN rfl) ?_
 refine reg_nil (hK6 _ _ (seq_any fun K7 hK7 => seq_any fun K10 hK10 => one_reg (op_move (ev_hit hN rfl) (op_bin (v := .bool false) (ev_hit hN rfl) rfl (by rw [binOp_eql]; rfl) ?_))))
 refine reg_nil (hK10 _ _ (wp_cond_false (ev_hit hN rfl) ?_))
 refine wp_skip ?_
 refine hK7 _ _ (seq_any fun K11 hK11 => one_reg (op_move (ev_base hN rfl s0) (op_len_rd Try.underlying91 (ev_hit hN rfl) hO.rdw ?_)))
 refine op_assign (ev_hit hN rfl) ?_
 refine reg_nil (hK11 _ _ (seq_any fun K12 hK12 => seq_any fun K13 hK13 => ?_))
 refine one_reg (op_move (ev_base hN rfl s1) (op_move (ev_hit hN rfl) (op_eql (ev_hit hN rfl) (ev_hit hN rfl) (fun c22 => ?_) (fun c22 => ?_))))
 · -- 22T
  refine reg_nil (hK13 _ _ (wp_cond_true (ev_hit hN rfl) ?_))
  refine seq_any fun K14 hK14 => one_reg (op_move (ev_base hN rfl s0) (op_move (ev_base hN rfl s2) ?_))
  have hP20 := hO
  refine op_append slt91 (ev_hit hN rfl) hP20 (ev_hit hN rfl) (Src.ofRd Try.underlying91 (by decide) (RdC.ofBx (sz := 1) (n := 1) hU rfl (by decide)) hx1) (by unfold maxLen; omega) (by omega) (Nat.le_trans (by assumption) hb.size) ?_
  intro v15 w16 hO18 E17 hm19
  have z_w16 := E17.size
  have hb := grow_stepX hb E17 rfl
  have hO18 : Own w16 0 86 1 v15 (n + 1) ((cs ++ [x0])) := by simpa [u8v, sv] using hO18
  have ne_ub_v15 : v15.ownBlock ≠ some ub := ne_step (w1 := w) ⟨E17, hm19⟩ (by omega) hne
  refine op_assign (ev_hit hN rfl) ?_
  refine reg_nil (hK14 _ _ (wp_ret (then_ret ( ?_))))
  refine ret1 rfl hd (ev_hit hN rfl) ⟨_, rfl, ?_⟩
  exact ⟨hb, hO18.cast rfl (by rw [show i = n by omega]; exact (ins_end hO0).symm), hm19⟩
 · -- 22F
  refine reg_nil (hK13 _ _ (wp_cond_false (ev_hit hN rfl) ?_))
  refine wp_skip ?_
  refine hK12 _ _ (seq_any fun K21 hK21 => seq_any fun K23 hK23 => one_reg (op_move (ev_hit hN rfl) (op_move (ev_hit hN rfl) (op_add (ev_hit hN rfl) (ev_hit hN rfl) (add64 (by omega)) ?_))))
  refine op_move (ev_base hN rfl s0) ?_
  obtain ⟨cap24, hcap25_1, hcap25_2, hcap25⟩ := hO.capOf
  have hcap25_3 : cap24 ≤ 9223372036854775807 := hcap25_2
  refine op_cap (c := cap24) Try.underlying91 (by rw [(ev_hit hN rfl)]; exact hcap25) ?_
  refine op_gtr (ev_hit hN rfl) (ev_hit hN rfl) (fun c31 => ?_) (fun c31 => ?_)
  · -- 31T
   refine reg_nil (hK23 _ _ (wp_cond_true (ev_hit hN rfl) ?_))
   refine seq_any fun K26 hK26 => one_reg (op_move (ev_base hN rfl s0) (op_move (ev_base hN rfl s1) (op_slice_hiC (m := i) slt91 (ev_hit hN rfl) hcap25 (ev_hit hN rfl) rfl (by omega) ?_)))
   refine op_move (ev_hit hN rfl) (op_move (ev_hit hN rfl) (op_add (ev_hit hN rfl) (ev_hit hN rfl) (add64 (by omega)) ?_))
   refine op_move (ev_base hN rfl s1) (op_sub (r := ((n + 1 - i : Nat) : Int)) (ev_hit hN rfl) (ev_hit hN rfl) ((sub64 (by omega)).trans (by omega)) ?_)
   refine op_append_zeros_grow (i := i) (m := n + 1 - i) slt91 Try.underlying3 (ev_hit hN rfl) hO hcap25 hi (ev_hit hN rfl) rfl (by omega) (by omega) (by omega) (by omega) (Nat.zero_le _) ?_
   intro v27 w28 zs29 hO30 E32 hf33
   have hO30 : Own w28 w.heap.size 86 1 v27 (n + 1) (cs.take (i * 1) ++ zs29) := (hO30.cast (by omega) rfl).rebase hf33
   have hzl : zs29.length = (n - i) * 1 + 1 * 1 := by have q1 := hO30.1; have q2 := hO.1; rw [List.length_append, List.length_take] at q1; omega
   have ne34 := fresh_ne hf33 hlt
   have dj35 : DJ v27 v := fun k hk hg => by have q1 := (hO30.lt k hk).1; have q2 := (hO.lt k hg).2; omega
   have z_w28 := E32.size
   have hO := hO.keep0 E32
   have hU := hU.keep0 E32
   have hb := grow_step0 hb E32
   refine op_assign (ev_hit hN rfl) ?_
   refine reg_nil (hK26 _ _ (seq_any fun K36 hK36 => one_reg (op_move (ev_hit hN rfl) (op_move (ev_base hN rfl s1) (op_slice_cutS (k := i) slt91 (ev_hit hN rfl) hO30 (ev_hit hN rfl) (by omega) (by omega) ?_)))))
   refine op_move (ev_base hN rfl s2) ?_
   have hP40 := hO30
   refine op_copy_cutS (k := i) (q := 1) slt91 (ev_hit hN rfl) hP40 (ev_hit hN rfl) (RdC.ofBx (sz := 1) (n := 1) hU rfl (by decide)) hx1 (by omega) (Nat.le_refl _) (.inl rfl) ?_
   intro w37 hO39 E38
   have z_w37 := E38.size
   have hO := hO.keepD E38 dj35.symm
   have hb := grow_stepO hb hP40 E38 (by omega)
   refine reg_nil (hK36 _ _ (seq_any fun K41 hK41 => reg_from mixed ?_))
   intro w43 E42
   have z_w43 := E42.size
   have hO := hO.keep0 E42
   have hO39 := hO39.keep0 E42
   have hb := grow_step0 hb E42
   refine from_still (m := 8) 8 (hd := [_, _, _, _, _, _, _, _]) (by kernel_rfl) rfl rfl ?_
   refine st_step rfl (fun _ h9 => op_move (ev_hit hN rfl) h9) ?_
   refine st_step rfl (fun _ h9 => op_move (ev_base hN rfl s1) h9) ?_
   refine st_step rfl (fun _ h9 => op_move (ev_hit hN rfl) h9) ?_
   refine st_step rfl (fun _ h9 => op_add (ev_hit hN rfl) (ev_hit hN rfl) (add64 (by omega)) h9) ?_
   refine st_step rfl (fun _ h9 => op_slice_cutS (k := i + 1) slt91 (ev_hit hN rfl) hO39 (ev_hit hN rfl) (by omega) (by omega) h9) ?_
   refine st_step rfl (fun _ h9 => op_move (ev_base hN rfl s0) h9) ?_
   refine st_step rfl (fun _ h9 => op_move (ev_base hN rfl s1) h9) ?_
   refine st_step rfl (fun _ h9 => op_slice_cutS (k := i) slt91 (ev_hit hN rfl) hO (ev_hit hN rfl) (by omega) hi h9) ?_
   refine st_nil ?_
   refine from_seq (tl := [_]) (by decide) (by kernel_rfl) rfl ?_
   have hP47 := hO39
   refine op_copy_cutS (k := i + 1) (q := n - i) slt91 (ev_hit hN rfl) hP47 (ev_hit hN rfl) (hO.cutO hi).rdw (all_drop_take h1) (by omega) (Nat.le_refl _) (.inl rfl) ?_
   intro w44 hO46 E45
   have z_w44 := E45.size
   have hb := grow_stepO hb hP47 E45 (by omega)
   refine reg_nil (hK41 _ _ (seq_any fun K48 hK48 => one_reg (op_move (ev_hit hN rfl) (op_assign (ev_hit hN rfl) ?_))))
   refine reg_nil (hK48 _ _ (wp_ret (then_ret ( ?_))))
   refine ret1 rfl hd (ev_hit hN rfl) ⟨_, rfl, ?_⟩
   exact ⟨hb, (hO46.mono (Nat.zero_le _)).cast rfl (by rw [Nat.add_mul i 1 1]; exact ins_grow (by omega) hzl rfl), .inr hf33⟩
  · -- 31F
   refine reg_nil (hK23 _ _ (wp_cond_false (ev_hit hN rfl) ?_))
   refine wp_skip ?_
   refine hK21 _ _ (seq_any fun K49 hK49 => one_reg (op_move (ev_base hN rfl s0) (op_move (ev_hit hN rfl) (op_move (ev_hit hN rfl) (op_add (ev_hit hN rfl) (ev_hit hN rfl) (add64 (by omega)) ?_)))))
   refine op_slice_hiC (m := n + 1) slt91 (ev_hit hN rfl) hcap25 (ev_hit hN rfl) (by omega) (by omega) ?_
   obtain ⟨sp50, hW51⟩ := hO.wide (m := n + 1) hcap25 (by omega) (by omega)
   refine op_assign (ev_hit hN rfl) ?_
   refine reg_nil (hK49 _ _ (seq_any fun K52 hK52 => ?_))
   refine seq_any fun K53 hK53 => one_reg (op_move (ev_base hN rfl s2) (op_move (ev_hit hN rfl) (op_move (ev_base hN rfl s1) (op_move (ev_hit hN rfl) (op_add (ev_hit hN rfl) (ev_hit hN rfl) (add64 (by omega)) ?_)))))
   refine op_slice_cutS (k := i + 1) slt91 (ev_hit hN rfl) hW51 (ev_hit hN rfl) (by omega) (by omega) ?_
   refine op_ext2 (ev_hit hN rfl) (ev_hit hN rfl) (ovl101 hU hW51 (hiV_ne hne) (by omega)) ?_
   refine op_not (ev_hit hN rfl) ?_
   refine reg_nil (hK53 _ _ (wp_cond_true (ev_hit hN rfl) ?_))
   refine seq_any fun K54 hK54 => reg_from mixed ?_
   intro w56 E55
   have z_w56 := E55.size
   have hU := hU.keep0 E55
   have hW51 := hW51.keep0 E55
   have hb := grow_step0 hb E55
   refine from_still (m := 8) 8 (hd := [_, _, _, _, _, _, _, _]) (by kernel_rfl) rfl rfl ?_
   refine st_step rfl (fun _ h9 => op_move (ev_hit hN rfl) h9) ?_
   refine st_step rfl (fun _ h9 => op_move (ev_base hN rfl s1) h9) ?_
   refine st_step rfl (fun _ h9 => op_move (ev_hit hN rfl) h9) ?_
   refine st_step rfl (fun _ h9 => op_add (ev_hit hN rfl) (ev_hit hN rfl) (add64 (by omega)) h9) ?_
   refine st_step rfl (fun _ h9 => op_slice_cutS (k := i + 1) slt91 (ev_hit hN rfl) hW51 (ev_hit hN rfl) (by omega) (by omega) h9) ?_
   refine st_step rfl (fun _ h9 => op_move (ev_hit hN rfl) h9) ?_
   refine st_step rfl (fun _ h9 => op_move (ev_base hN rfl s1) h9) ?_
   refine st_step rfl (fun _ h9 => op_slice_cutS (k := i) slt91 (ev_hit hN rfl) hW51 (ev_hit hN rfl) (by omega) (by omega) h9) ?_
   refine st_nil ?_
   refine from_seq (tl := [_]) (by decide) (by kernel_rfl) rfl ?_
   have hP60 := hW51
   refine op_copy_cutS (k := i + 1) (q := n - i) slt91 (ev_hit hN rfl) hP60 (ev_hit hN rfl) (hW51.cutO (k := i) (by omega)).rdw (all_mid h1 (by have := hO0; omega)) (by omega) (by omega) (.inr (by omega)) ?_
   intro w57 hO59 E58
   have z_w57 := E58.size
   have hU := hU.keep E58 (fun hh => (hiV_ne hne) hh.symm)
   have hb := grow_stepX hb E58 (hiV_ob v (n + 1))
   refine reg_nil (hK54 _ _ (seq_any fun K61 hK61 => one_reg (op_move (ev_hit hN rfl) (op_move (ev_base hN rfl s1) (op_slice_cutS (k := i) slt91 (ev_hit hN rfl) hO59 (ev_hit hN rfl) (by omega) (by omega) ?_)))))
   refine op_move (ev_base hN rfl s2) ?_
   have hP66 := hO59
   refine op_copy_cutS (k := i) (q := 1) slt91 (ev_hit hN rfl) hP66 (ev_hit hN rfl) (RdC.ofBx (sz := 1) (n := 1) hU rfl (by decide)) hx1 (by omega) (by decide) (.inl rfl) ?_
   intro w62 hO65 E63
   have z_w62 := E63.size
   have hb := grow_stepX hb E63 (hiV_ob v (n + 1))
   refine reg_nil (hK61 _ _ (seq_any fun K67 hK67 => one_reg (op_move (ev_hit hN rfl) (op_assign (ev_hit hN rfl) ?_))))
   refine reg_nil (hK67 _ _ (wp_ret (then_ret ( ?_))))
   refine ret1 rfl hd (ev_hit hN rfl) ⟨_, rfl, ?_⟩
   exact ⟨hb, hO65.cast rfl (by rw [Nat.add_mul i 1 1]; exact ins_room (by omega) (by have := hW51.1; omega) rfl), .inl (hiV_ob _ _)⟩

theorem InsA {n i ub : Nat} {v x0 x1 x2 : Value} {cs : List Value} {w : World} (hO : Own w 0 109 3 v n cs) (hU : Bx w ub 109 [x0, x1, x2]) (h1 : cs.all Value.oneCell' = true) (hx1 : ([x0, x1, x2]).all Value.oneCell' = true) (hi : i ≤ n) (hn : n ≤ 1000) (hne : v.ownBlock ≠ some ub) : Ret Try.prog 72 #[v, (Value.int .i64 ((i : Nat) : Int)), (Value.slice (some ⟨ub, 0, none⟩) 1 1)] w (fun v' w' => w.grownBy w' v.ownBlock ∧ Own w' 0 109 3 v' (n + 1) (cs.take (i * 3) ++ [x0, x1, x2] ++ cs.drop (i * 3)) ∧ (v'.ownBlock = v.ownBlock ∨ ∀ k, v'.ownBlock = some k → w.heap.size ≤ k)) := by
 have h0 : 0 ≤ w.heap.size := Nat.zero_le _
 have hlt := hU.lt
 have hO0 := hO.1
 have hb := grown_refl w v.ownBlock
 refine enter (N := 95) Try.func72 rfl rfl (by simp) fun a0 hN hd hA => ?_
 have s0 : a0.tmps.getD 0 undef = v := hA 0 (by simp)
 have s1 : a0.tmps.getD 1 undef = (Value.int .i64 ((i : Nat) : Int)) := hA 1 (by simp)
 have s2 : a0.tmps.getD 2 undef = (Value.slice (some ⟨ub, 0, none⟩) 1 1) := hA 2 (by simp)
 clear hA
 refine seq_any fun K4 hK4 => one_reg (op_assign rfl ?_)
 refine reg_nil (hK4 _ _ (seq_any fun K5 hK5 => one_reg (op_move (ev_base hN rfl s0) (op_move (ev_base hN rfl s1) (op_slice_cutS (k := i) slt102 (ev_hit hN rfl) hO (ev_hit hN rfl) (by omega) hi ?_)))))
 refine reg_nil (hK5 _ _ (seq_any fun K6 hK6 => one_reg (op_move (ev_base hN rfl s2) (op_len_rd Try.underlying102 (ev_hit hN rfl) (RdC.ofBx (sz := 3) (n := 1) hU rfl (by decide)) ?_))))
 refine op_assign (ev_hit hN rfl) ?_
 refine reg_nil (hK6 _ _ (seq_any fun K7 hK7 => seq_any fun K10 hK10 => one_reg (op_move (ev_hit hN rfl) (op_bin (v := .bool false) (ev_hit hN rfl) rfl (by rw [binOp_eql]; rfl) ?_))))
 refine reg_nil (hK10 _ _ (wp_cond_false (ev_hit hN rfl) ?_))
 refine wp_skip ?_
 refine hK7 _ _ (seq_any fun K11 hK11 => one_reg (op_move (ev_base hN rfl s0) (op_len_rd Try.underlying102 (ev_hit hN rfl) hO.rdw ?_)))
 refine op_assign (ev_hit hN rfl) ?_
 refine reg_nil (hK11 _ _ (seq_any fun K12 hK12 => seq_any fun K13 hK13 => ?_))
 refine one_reg (op_move (ev_base hN rfl s1) (op_move (ev_hit hN rfl) (op_eql (ev_hit hN rfl) (ev_hit hN rfl) (fun c22 => ?_) (fun c22 => ?_))))
 · -- 22T
  refine reg_nil (hK13 _ _ (wp_cond_true (ev_hit hN rfl) ?_))
  refine seq_any fun K14 hK14 => one_reg (op_move (ev_base hN rfl s0) (op_move (ev_base hN rfl s2) ?_))
  have hP20 := hO
  refine op_append slt102 (ev_hit hN rfl) hP20 (ev_hit hN rfl) (Src.ofRd Try.underlying102 (by decide) (RdC.ofBx (sz := 3) (n := 1) hU rfl (by decide)) hx1) (by unfold maxLen; omega) (by omega) (Nat.le_trans (by assumption) hb.size) ?_
  intro v15 w16 hO18 E17 hm19
  have z_w16 := E17.size
  have hb := grow_stepX hb E17 rfl
  have hO18 : Own w16 0 109 3 v15 (n + 1) ((cs ++ [x0, x1, x2])) := by simpa [u8v, sv] using hO18
  have ne_ub_v15 : v15.ownBlock ≠ some ub := ne_step (w1 := w) ⟨E17, hm19⟩ (by omega) hne
  refine op_assign (ev_hit hN rfl) ?_
  refine reg_nil (hK14 _ _ (wp_ret (then_ret ( ?_))))
  refine ret1 rfl hd (ev_hit hN rfl) ⟨_, rfl, ?_⟩
  exact ⟨hb, hO18.cast rfl (by rw [show i = n by omega]; exact (ins_end hO0).symm), hm19⟩
 · -- 22F
  refine reg_nil (hK13 _ _ (wp_cond_false (ev_hit hN rfl) ?_))
  refine wp_skip ?_
  refine hK12 _ _ (seq_any fun K21 hK21 => seq_any fun K23 hK23 => one_reg (op_move (ev_hit hN rfl) (op_move (ev_hit hN rfl) (op_add (ev_hit hN rfl) (ev_hit hN rfl) (add64 (by omega)) ?_))))
  refine op_move (ev_base hN rfl s0) ?_
  obtain ⟨cap24, hcap25_1, hcap25_2, hcap25⟩ := hO.capOf
  have hcap25_3 : cap24 ≤ 9223372036854775807 := hcap25_2
  refine op_cap (c := cap24) Try.underlying102 (by rw [(ev_hit hN rfl)]; exact hcap25) ?_
  refine op_gtr (ev_hit hN rfl) (ev_hit hN rfl) (fun c31 => ?_) (fun c31 => ?_)
  · -- 31T
   refine reg_nil (hK23 _ _ (wp_cond_true (ev_hit hN rfl) ?_))
   refine seq_any fun K26 hK26 => one_reg (op_move (ev_base hN rfl s0) (op_move (ev_base hN rfl s1) (op_slice_hiC (m := i) slt102 (ev_hit hN rfl) hcap25 (ev_hit hN rfl) rfl (by omega) ?_)))
   refine op_move (ev_hit hN rfl) (op_move (ev_hit hN rfl) (op_add (ev_hit hN rfl) (ev_hit hN rfl) (add64 (by omega)) ?_))
   refine op_move (ev_base hN rfl s1) (op_sub (r := ((n + 1 - i : Nat) : Int)) (ev_hit hN rfl) (ev_hit hN rfl) ((sub64 (by omega)).trans (by omega)) ?_)
   refine op_append_zeros_grow (i := i) (m := n + 1 - i) slt102 Try.underlying3 (ev_hit hN rfl) hO hcap25 hi (ev_hit hN rfl) rfl (by omega) (by omega) (by omega) (by omega) (Nat.zero_le _) ?_
   intro v27 w28 zs29 hO30 E32 hf33
   have hO30 : Own w28 w.heap.size 109 3 v27 (n + 1) (cs.take (i * 3) ++ zs29) := (hO30.cast (by omega) rfl).rebase hf33
   have hzl : zs29.length = (n - i) * 3 + 1 * 3 := by have q1 := hO30.1; have q2 := hO.1; rw [List.length_append, List.length_take] at q1; omega
   have ne34 := fresh_ne hf33 hlt
   have dj35 : DJ v27 v := fun k hk hg => by have q1 := (hO30.lt k hk).1; have q2 := (hO.lt k hg).2; omega
   have z_w28 := E32.size
   have hO := hO.keep0 E32
   have hU := hU.keep0 E32
   have hb := grow_step0 hb E32
   refine op_assign (ev_hit hN rfl) ?_
   refine reg_nil (hK26 _ _ (seq_any fun K36 hK36 => one_reg (op_move (ev_hit hN rfl) (op_move (ev_base hN rfl s1) (op_slice_cutS (k := i) slt102 (ev_hit hN rfl) hO30 (ev_hit hN rfl) (by omega) (by omega) ?_)))))
   refine op_move (ev_base hN rfl s2) ?_
   have hP40 := hO30
   refine op_copy_cutS (k := i) (q := 1) slt102 (ev_hit hN rfl) hP40 (ev_hit hN rfl) (RdC.ofBx (sz := 3) (n := 1) hU rfl (by decide)) hx1 (by omega) (Nat.le_refl _) (.inl rfl) ?_
   intro w37 hO39 E38
   have z_w37 := E38.size
   have hO := hO.keepD E38 dj35.symm
   have hb := grow_stepO hb hP40 E38 (by omega)
   refine reg_nil (hK36 _ _ (seq_any fun K41 hK41 => reg_from mixed ?_))
   intro w43 E42
   have z_w43 := E42.size
   have hO := hO.keep0 E42
   have hO39 := hO39.keep0 E42
   have hb := grow_step0 hb E42
   refine from_still (m := 8) 8 (hd := [_, _, _, _, _, _, _, _]) (by kernel_rfl) rfl rfl ?_
   refine st_step rfl (fun _ h9 => op_move (ev_hit hN rfl) h9) ?_
   refine st_step rfl (fun _ h9 => op_move (ev_base hN rfl s1) h9) ?_
   refine st_step rfl (fun _ h9 => op_move (ev_hit hN rfl) h9) ?_
   refine st_step rfl (fun _ h9 => op_add (ev_hit hN rfl) (ev_hit hN rfl) (add64 (by omega)) h9) ?_
   refine st_step rfl (fun _ h9 => op_slice_cutS (k := i + 1) slt102 (ev_hit hN rfl) hO39 (ev_hit hN rfl) (by omega) (by omega) h9) ?_
   refine st_step rfl (fun _ h9 => op_move (ev_base hN rfl s0) h9) ?_
   refine st_step rfl (fun _ h9 => op_move (ev_base hN rfl s1) h9) ?_
   refine st_step rfl (fun _ h9 => op_slice_cutS (k := i) slt102 (ev_hit hN rfl) hO (ev_hit hN rfl) (by omega) hi h9) ?_
   refine st_nil ?_
   refine from_seq (tl := [_]) (by decide) (by kernel_rfl) rfl ?_
   have hP47 := hO39
   refine op_copy_cutS (k := i + 1) (q := n - i) slt102 (ev_hit hN rfl) hP47 (ev_hit hN rfl) (hO.cutO hi).rdw (all_drop_take h1) (by omega) (Nat.le_refl _) (.inl rfl) ?_
   intro w44 hO46 E45
   have z_w44 := E45.size
   have hb := grow_stepO hb hP47 E45 (by omega)
   refine reg_nil (hK41 _ _ (seq_any fun K48 hK48 => one_reg (op_move (ev_hit hN rfl) (op_assign (ev_hit hN rfl) ?_))))
   refine reg_nil (hK48 _ _ (wp_ret (then_ret ( ?_))))
   refine ret1 rfl hd (ev_hit hN rfl) ⟨_, rfl, ?_⟩
   exact ⟨hb, (hO46.mono (Nat.zero_le _)).cast rfl (by rw [Nat.add_mul i 1 3]; exact ins_grow (by omega) hzl rfl), .inr hf33⟩
  · -- 31F
   refine reg_nil (hK23 _ _ (wp_cond_false (ev_hit hN rfl) ?_))
   refine wp_skip ?_
   refine hK21 _ _ (seq_any fun K49 hK49 => one_reg (op_move (ev_base hN rfl s0) (op_move (ev_hit hN rfl) (op_move (ev_hit hN rfl) (op_add (ev_hit hN rfl) (ev_hit hN rfl) (add64 (by omega)) ?_)))))
   refine op_slice_hiC (m := n + 1) slt102 (ev_hit hN rfl) hcap25 (ev_hit hN rfl) (by omega) (by omega) ?_
   obtain ⟨sp50, hW51⟩ := hO.wide (m := n + 1) hcap25 (by omega) (by omega)
   refine op_assign (ev_hit hN rfl) ?_
   refine reg_nil (hK49 _ _ (seq_any fun K52 hK52 => ?_))
   refine seq_any fun K53 hK53 => one_reg (op_move (ev_base hN rfl s2) (op_move (ev_hit hN rfl) (op_move (ev_base hN rfl s1) (op_move (ev_hit hN rfl) (op_add (ev_hit hN rfl) (ev_hit hN rfl) (add64 (by omega)) ?_)))))
   refine op_slice_cutS (k := i + 1) slt102 (ev_hit hN rfl) hW51 (ev_hit hN rfl) (by omega) (by omega) ?_
   refine op_ext2 (ev_hit hN rfl) (ev_hit hN rfl) (ovl107 hU hW51 (hiV_ne hne) (by omega)) ?_
   refine op_not (ev_hit hN rfl) ?_
   refine reg_nil (hK53 _ _ (wp_cond_true (ev_hit hN rfl) ?_))
   refine seq_any fun K54 hK54 => reg_from mixed ?_
   intro w56 E55
   have z_w56 := E55.size
   have hU := hU.keep0 E55
   have hW51 := hW51.keep0 E55
   have hb := grow_step0 hb E55
   refine from_still (m := 8) 8 (hd := [_, _, _, _, _, _, _, _]) (by kernel_rfl) rfl rfl ?_
   refine st_step rfl (fun _ h9 => op_move (ev_hit hN rfl) h9) ?_
   refine st_step rfl (fun _ h9 => op_move (ev_base hN rfl s1) h9) ?_
   refine st_step rfl (fun _ h9 => op_move (ev_hit hN rfl) h9) ?_
   refine st_step rfl (fun _ h9 => op_add (ev_hit hN rfl) (ev_hit hN rfl) (add64 (by omega)) h9) ?_
   refine st_step rfl (fun _ h9 => op_slice_cutS (k := i + 1) slt102 (ev_hit hN rfl) hW51 (ev_hit hN rfl) (by omega) (by omega) h9) ?_
   refine st_step rfl (fun _ h9 => op_move (ev_hit hN rfl) h9) ?_
   refine st_step rfl (fun _ h9 => op_move (ev_base hN rfl s1) h9) ?_
   refine st_step rfl (fun _ h9 => op_slice_cutS (k := i) slt102 (ev_hit hN rfl) hW51 (ev_hit hN rfl) (by omega) (by omega) h9) ?_
   refine st_nil ?_
   refine from_seq (tl := [_]) (by decide) (by kernel_rfl) rfl ?_
   have hP60 := hW51
   refine op_copy_cutS (k := i + 1) (q := n - i) slt102 (ev_hit hN rfl) hP60 (ev_hit hN rfl) (hW51.cutO (k := i) (by omega)).rdw (all_mid h1 (by have := hO0; omega)) (by omega) (by omega) (.inr (by omega)) ?_
   intro w57 hO59 E58
   have z_w57 := E58.size
   have hU := hU.keep E58 (fun hh => (hiV_ne hne) hh.symm)
   have hb := grow_stepX hb E58 (hiV_ob v (n + 1))
   refine reg_nil (hK54 _ _ (seq_any fun K61 hK61 => one_reg (op_move (ev_hit hN rfl) (op_move (ev_base hN rfl s1) (op_slice_cutS (k := i) slt102 (ev_hit hN rfl) hO59 (ev_hit hN rfl) (by omega) (by omega) ?_)))))
   refine op_move (ev_base hN rfl s2) ?_
   have hP66 := hO59
   refine op_copy_cutS (k := i) (q := 1) slt102 (ev_hit hN rfl) hP66 (ev_hit hN rfl) (RdC.ofBx (sz := 3) (n := 1) hU rfl (by decide)) hx1 (by omega) (by decide) (.inl rfl) ?_
   intro w62 hO65 E63
   have z_w62 := E63.size
   have hb := grow_stepX hb E63 (hiV_ob v (n + 1))
   refine reg_nil (hK61 _ _ (seq_any fun K67 hK67 => one_reg (op_move (ev_hit hN rfl) (op_assign (ev_hit hN rfl) ?_))))
   refine reg_nil (hK67 _ _ (wp_ret (then_ret ( ?_))))
   refine ret1 rfl hd (ev_hit hN rfl) ⟨_, rfl, ?_⟩
   exact ⟨hb, hO65.cast rfl (by rw [Nat.add_mul i 1 3]; exact ins_room (by omega) (by have := hW51.1; omega) rfl), .inl (hiV_ob _ _)⟩

theorem InsNA {n i ub : Nat} {v x0 : Value} {cs : List Value} {w : World} (hO : Own w 0 99 1 v n cs) (hU : Bx w ub 99 [x0]) (h1 : cs.all Value.oneCell' = true) (hx1 : ([x0]).all Value.oneCell' = true) (hi : i ≤ n) (hn : n ≤ 1000) (hne : v.ownBlock ≠ some ub) : Ret Try.prog 74 #[v, (Value.int .i64 ((i : Nat) : Int)), (Value.slice (some ⟨ub, 0, none⟩) 1 1)] w (fun v' w' => w.grownBy w' v.ownBlock ∧ Own w' 0 99 1 v' (n + 1) (cs.take (i * 1) ++ [x0] ++ cs.drop (i * 1)) ∧ (v'.ownBlock = v.ownBlock ∨ ∀ k, v'.ownBlock = some k → w.heap.size ≤ k)) := by
 have h0 : 0 ≤ w.heap.size := Nat.zero_le _
 have hlt := hU.lt
 have hO0 := hO.1
 have hb := grown_refl w v.ownBlock
 refine enter (N := 95) Try.func74 rfl rfl (by simp) fun a0 hN hd hA => ?_
 have s0 : a0.tmps.getD 0 undef = v := hA 0 (by simp)
 have s1 : a0.tmps.getD 1 undef = (Value.int .i64 ((i : Nat) : Int)) := hA 1 (by simp)
 have s2 : a0.tmps.getD 2 undef = (Value.slice (some ⟨ub, 0, none⟩) 1 1) := hA 2 (by simp)
 clear hA
 refine seq_any fun K4 hK4 => one_reg (op_assign rfl ?_)
 refine reg_nil (hK4 _ _ (seq_any fun K5 hK5 => one_reg (op_move (ev_base hN rfl s0) (op_move (ev_base hN rfl s1) (op_slice_cutS (k := i) slt103 (ev_hit hN rfl) hO (ev_hit hN rfl) (by omega) hi ?_)))))
 refine reg_nil (hK5 _ _ (seq_any fun K6 hK6 => one_reg (op_move (ev_base hN rfl s2) (op_len_rd Try.underlying103 (ev_hit hN rfl) (RdC.ofBx (sz := 1) (n := 1) hU rfl (by decide)) ?_))))
 refine op_assign (ev_hit hN rfl) ?_
 refine reg_nil (hK6 _ _ (seq_any fun K7 hK7 => seq_any fun K10 hK10 => one_reg (op_move (ev_hit hN rfl) (op_bin (v := .bool false) (ev_hit hN rfl) rfl (by rw [binOp_eql]; rfl) ?_))))
 refine reg_nil (hK10 _ _ (wp_cond_false (ev_hit hN rfl) ?_))
 refine wp_skip ?_
 refine hK7 _ _ (seq_any fun K11 hK11 => one_reg (op_move (ev_base hN rfl s0) (op_len_rd Try.underlying103 (ev_hit hN rfl) hO.rdw ?_)))
 refine op_assign (ev_hit hN rfl) ?_
 refine reg_nil (hK11 _ _ (seq_any fun K12 hK12 => seq_any fun K13 hK13 => ?_))
 refine one_reg (op_move (ev_base hN rfl s1) (op_move (ev_hit hN rfl) (op_eql (ev_hit hN rfl) (ev_hit hN rfl) (fun c22 => ?_) (fun c22 => ?_))))
 · -- 22T
  refine reg_nil (hK13 _ _ (wp_cond_true (ev_hit hN rfl) ?_))
  refine seq_any fun K14 hK14 => one_reg (op_move (ev_base hN rfl s0) (op_move (ev_base hN rfl s2) ?_))
  have hP20 := hO
  refine op_append slt103 (ev_hit hN rfl) hP20 (ev_hit hN rfl) (Src.ofRd Try.underlying103 (by decide) (RdC.ofBx (sz := 1) (n := 1) hU rfl (by decide)) hx1) (by unfold maxLen; omega) (by omega) (Nat.le_trans (by assumption) hb.size) ?_
  intro v15 w16 hO18 E17 hm19
  have z_w16 := E17.size
  have hb := grow_stepX hb E17 rfl
  have hO18 : Own w16 0 99 1 v15 (n + 1) ((cs ++ [x0])) := by simpa [u8v, sv] using hO18
  have ne_ub_v15 : v15.ownBlock ≠ some ub := ne_step (w1 := w) ⟨E17, hm19⟩ (by omega) hne
  refine op_assign (ev_hit hN rfl) ?_
  refine reg_nil (hK14 _ _ (wp_ret (then_ret ( ?_))))
  refine ret1 rfl hd (ev_hit hN rfl) ⟨_, rfl, ?_⟩
  exact ⟨hb, hO18.cast rfl (by rw [show i = n by omega]; exact (ins_end hO0).symm), hm19⟩
 · -- 22F
  refine reg_nil (hK13 _ _ (wp_cond_false (ev_hit hN rfl) ?_))
  refine wp_skip ?_
  refine hK12 _ _ (seq_any fun K21 hK21 => seq_any fun K23 hK23 => one_reg (op_move (ev_hit hN rfl) (op_move (ev_hit hN rfl) (op_add (ev_hit hN rfl) (ev_hit hN rfl) (add64 (by omega)) ?_))))
  refine op_move (ev_base hN rfl s0) ?_
  obtain ⟨cap24, hcap25_1, hcap25_2, hcap25⟩ := hO.capOf
  have hcap25_3 : cap24 ≤ 9223372036854775807 := hcap25_2
  refine op_cap (c := cap24) Try.underlying103 (by rw [(ev_hit hN rfl)]; exact hcap25) ?_
  refine op_gtr (ev_hit hN rfl) (ev_hit hN rfl) (fun c31 => ?_) (fun c31 => ?_)
  · -- 31T
   refine reg_nil (hK23 _ _ (wp_cond_true (ev_hit hN rfl) ?_))
   refine seq_any fun K26 hK26 => one_reg (op_move (ev_base hN rfl s0) (op_move (ev_base hN rfl s1) (op_slice_hiC (m := i) slt103 (ev_hit hN rfl) hcap25 (ev_hit hN rfl) rfl (by omega) ?_)))
   refine op_move (ev_hit hN rfl) (op_move (ev_hit hN rfl) (op_add (ev_hit hN rfl) (ev_hit hN rfl) (add64 (by omega)) ?_))
   refine op_move (ev_base hN rfl s1) (op_sub (r := ((n + 1 - i : Nat) : Int)) (ev_hit hN rfl) (ev_hit hN rfl) ((sub64 (by omega)).trans (by omega)) ?_)
   refine op_append_zeros_grow (i := i) (m := n + 1 - i) slt103 Try.underlying3 (ev_hit hN rfl) hO hcap25 hi (ev_hit hN rfl) rfl (by omega) (by omega) (by omega) (by omega) (Nat.zero_le _) ?_
   intro v27 w28 zs29 hO30 E32 hf33
   have hO30 : Own w28 w.heap.size 99 1 v27 (n + 1) (cs.take (i * 1) ++ zs29) := (hO30.cast (by omega) rfl).rebase hf33
   have hzl : zs29.length = (n - i) * 1 + 1 * 1 := by have q1 := hO30.1; have q2 := hO.1; rw [List.length_append, List.length_take] at q1; omega
   have ne34 := fresh_ne hf33 hlt
   have dj35 : DJ v27 v := fun k hk hg => by have q1 := (hO30.lt k hk).1; have q2 := (hO.lt k hg).2; omega
   have z_w28 := E32.size
   have hO := hO.keep0 E32
   have hU := hU.keep0 E32
   have hb := grow_step0 hb E32
   refine op_assign (ev_hit hN rfl) ?_
   refine reg_nil (hK26 _ _ (seq_any fun K36 hK36 => one_reg (op_move (ev_hit hN rfl) (op_move (ev_base hN rfl s1) (op_slice_cutS (k := i) slt103 (ev_hit hN rfl) hO30 (ev_hit hN rfl) (by omega) (by omega) ?_)))))
   refine op_move (ev_base hN rfl s2) ?_
   have hP40 := hO30
   refine op_copy_cutS (k := i) (q := 1) slt103 (ev_hit hN rfl) hP40 (ev_hit hN rfl) (RdC.ofBx (sz := 1) (n := 1) hU rfl (by decide)) hx1 (by omega) (Nat.le_refl _) (.inl rfl) ?_
   intro w37 hO39 E38
   have z_w37 := E38.size
   have hO := hO.keepD E38 dj35.symm
   have hb := grow_stepO hb hP40 E38 (by omega)
   refine reg_nil (hK36 _ _ (seq_any fun K41 hK41 => reg_from mixed ?_))
   intro w43 E42
   have z_w43 := E42.size
   have hO := hO.keep0 E42
   have hO39 := hO39.keep0 E42
   have hb := grow_step0 hb E42
   refine from_still (m := 8) 8 (hd := [_, _, _, _, _, _, _, _]) (by kernel_rfl) rfl rfl ?_
   refine st_step rfl (fun _ h9 => op_move (ev_hit hN rfl) h9) ?_
   refine st_step rfl (fun _ h9 => op_move (ev_base hN rfl s1) h9) ?_
   refine st_step rfl (fun _ h9 => op_move (ev_hit hN rfl) h9) ?_
   refine st_step rfl (fun _ h9 => op_add (ev_hit hN rfl) (ev_hit hN rfl) (add64 (by omega)) h9) ?_
   refine st_step rfl (fun _ h9 => op_slice_cutS (k := i + 1) slt103 (ev_hit hN rfl) hO39 (ev_hit hN rfl) (by omega) (by omega) h9) ?_
   refine st_step rfl (fun _ h9 => op_move (ev_base hN rfl s0) h9) ?_
   refine st_step rfl (fun _ h9 => op_move (ev_base hN rfl s1) h9) ?_
   refine st_step rfl (fun _ h9 => op_slice_cutS (k := i) slt103 (ev_hit hN rfl) hO (ev_hit hN rfl) (by omega) hi h9) ?_
   refine st_nil ?_
   refine from_seq (tl := [_]) (by decide) (by kernel_rfl) rfl ?_
   have hP47 := hO39
   refine op_copy_cutS (k := i + 1) (q := n - i) slt103 (ev_hit hN rfl) hP47 (ev_hit hN rfl) (hO.cutO hi).rdw (all_drop_take h1) (by omega) (Nat.le_refl _) (.inl rfl) ?_
   intro w44 hO46 E45
   have z_w44 := E45.size
   have hb := grow_stepO hb hP47 E45 (by omega)
   refine reg_nil (hK41 _ _ (seq_any fun K48 hK48 => one_reg (op_move (ev_hit hN rfl) (op_assign (ev_hit hN rfl) ?_))))
   refine reg_nil (hK48 _ _ (wp_ret (then_ret ( ?_))))
   refine ret1 rfl hd (ev_hit hN rfl) ⟨_, rfl, ?_⟩
   exact ⟨hb, (hO46.mono (Nat.zero_le _)).cast rfl (by rw [Nat.add_mul i 1 1]; exact ins_grow (by omega) hzl rfl), .inr hf33⟩
  · -- 31F
   refine reg_nil (hK23 _ _ (wp_cond_false (ev_hit hN rfl) ?_))
   refine wp_skip ?_
   refine hK21 _ _ (seq_any fun K49 hK49 => one_reg (op_move (ev_base hN rfl s0) (op_move (ev_hit hN rfl) (op_move (ev_hit hN rfl) (op_add (ev_hit hN rfl) (ev_hit hN rfl) (add64 (by omega)) ?_)))))
   refine op_slice_hiC (m := n + 1) slt103 (ev_hit hN rfl) hcap25 (ev_hit hN rfl) (by omega) (by omega) ?_
   obtain ⟨sp50, hW51⟩ := hO.wide (m := n + 1) hcap25 (by omega) (by omega)
   refine op_assign (ev_hit hN rfl) ?_
   refine reg_nil (hK49 _ _ (seq_any fun K52 hK52 => ?_))
   refine seq_any fun K53 hK53 => one_reg (op_move (ev_base hN rfl s2) (op_move (ev_hit hN rfl) (op_move (ev_base hN rfl s1) (op_move (ev_hit hN rfl) (op_add (ev_hit hN rfl) (ev_hit hN rfl) (add64 (by omega)) ?_)))))
   refine op_slice_cutS (k := i + 1) slt103 (ev_hit hN rfl) hW51 (ev_hit hN rfl) (by omega) (by omega) ?_
   refine op_ext2 (ev_hit hN rfl) (ev_hit hN rfl) (ovl109 hU hW51 (hiV_ne hne) (by omega)) ?_
   refine op_not (ev_hit hN rfl) ?_
   refine reg_nil (hK53 _ _ (wp_cond_true (ev_hit hN rfl) ?_))
   refine seq_any fun K54 hK54 => reg_from mixed ?_
   intro w56 E55
   have z_w56 := E55.size
   have hU := hU.keep0 E55
   have hW51 := hW51.keep0 E55
   have hb := grow_step0 hb E55
   refine from_still (m := 8) 8 (hd := [_, _, _, _, _, _, _, _]) (by kernel_rfl) rfl rfl ?_
   refine st_step rfl (fun _ h9 => op_move (ev_hit hN rfl) h9) ?_
   refine st_step rfl (fun _ h9 => op_move (ev_base hN rfl s1) h9) ?_
   refine st_step rfl (fun _ h9 => op_move (ev_hit hN rfl) h9) ?_
   refine st_step rfl (fun _ h9 => op_add (ev_hit hN rfl) (ev_hit hN rfl) (add64 (by omega)) h9) ?_
   refine st_step rfl (fun _ h9 => op_slice_cutS (k := i + 1) slt103 (ev_hit hN rfl) hW51 (ev_hit hN rfl) (by omega) (by omega) h9) ?_
   refine st_step rfl (fun _ h9 => op_move (ev_hit hN rfl) h9) ?_
   refine st_step rfl (fun _ h9 => op_move (ev_base hN rfl s1) h9) ?_
   refine st_step rfl (fun _ h9 => op_slice_cutS (k := i) slt103 (ev_hit hN rfl) hW51 (ev_hit hN rfl) (by omega) (by omega) h9) ?_
   refine st_nil ?_
   refine from_seq (tl := [_]) (by decide) (by kernel_rfl) rfl ?_
   have hP60 := hW51
   refine op_copy_cutS (k := i + 1) (q := n - i) slt103 (ev_hit hN rfl) hP60 (ev_hit hN rfl) (hW51.cutO (k := i) (by omega)).rdw (all_mid h1 (by have := hO0; omega)) (by omega) (by omega) (.inr (by omega)) ?_
   intro w57 hO59 E58
   have z_w57 := E58.size
   have hU := hU.keep E58 (fun hh => (hiV_ne hne) hh.symm)
   have hb := grow_stepX hb E58 (hiV_ob v (n + 1))
   refine reg_nil (hK54 _ _ (seq_any fun K61 hK61 => one_reg (op_move (ev_hit hN rfl) (op_move (ev_base hN rfl s1) (op_slice_cutS (k := i) slt103 (ev_hit hN rfl) hO59 (ev_hit hN rfl) (by omega) (by omega) ?_)))))
   refine op_move (ev_base hN rfl s2) ?_
   have hP66 := hO59
   refine op_copy_cutS (k := i) (q := 1) slt103 (ev_hit hN rfl) hP66 (ev_hit hN rfl) (RdC.ofBx (sz := 1) (n := 1) hU rfl (by decide)) hx1 (by omega) (by decide) (.inl rfl) ?_
   intro w62 hO65 E63
   have z_w62 := E63.size
   have hb := grow_stepX hb E63 (hiV_ob v (n + 1))
   refine reg_nil (hK61 _ _ (seq_any fun K67 hK67 => one_reg (op_move (ev_hit hN rfl) (op_assign (ev_hit hN rfl) ?_))))
   refine reg_nil (hK67 _ _ (wp_ret (then_ret ( ?_))))
   refine ret1 rfl hd (ev_hit hN rfl) ⟨_, rfl, ?_⟩
   exact ⟨hb, hO65.cast rfl (by rw [Nat.add_mul i 1 1]; exact ins_room (by omega) (by have := hW51.1; omega) rfl), .inl (hiV_ob _ _)⟩

end Go.Proofs.Ytcpfdfejojghbaa

/- Walks, written by a program: what each function of the translation hands back. -/
namespace Go.Proofs.Ytcpfdfejojghbaa
open Go.Gx Go.RowKit
attribute [local irreducible] wpList wpStill Code.wp Calls

end Go.Proofs.Ytcpfdfejojghbaa

/- What nodes are made of anew: what is handed back by the functions that change trees. -/
namespace Go.Gx
open Go.Bt Go.RowKit
section
variable {V : Type} {κ : Kd V} {w w' : World} {F G H W W' W2 R : Nat → Prop} {base e sz n b t h p q i : Nat} {u m pv kv cv : Value} {cs : List Value} {D : List (DP V)} {K : List DK} {P : List Nat} {k : Ky} {x : V}
def OutR (κ : Kd V) (R : Nat → Prop) (w : World) (n : Nat) (W : Nat → Prop) (h p : Nat) (x : Tr V h × Option (Ky × Tr V h)) (u m : Value) : Prop :=
  match x with
  | (t, none) => u = nilV ∧ m = .pointer none ∧ ∃ W', TreeR κ R w h p t W' ∧ NewF n W W'
  | (t, some (k, t2)) => ∃ q W' W2, m = ptr q 0 ∧ Own w 0 5 1 u k.length (k.map u8v) ∧ (∀ j, Bl u j → R j) ∧ TreeR κ R w h p t W' ∧ TreeR κ R w h q t2 W2 ∧ NewF n W W' ∧ NewF n W W2 ∧ Dj W' W2
def leafW (p : Nat) (pv : Value) : Nat → Prop := fun y => y = p ∨ Bl pv y
theorem leafW_ty (B : Bx w p κ.tB [pv, nilV, nilV]) (O : Own w base κ.tP κ.pc pv n cs) : TyF κ w (leafW p pv) := (TyF.ofBx B (.inl rfl)).or (TyF.ofOwn O (.inr (.inl rfl)))
theorem mkLeaf {l : List (Ky × V)} (B : Bx w p κ.tB [pv, nilV, nilV]) (O : Own w base κ.tP κ.pc pv D.length (D.flatMap κ.ce)) (ks : ∀ x9 ∈ D.map pk, Own w 0 5 1 x9.1 x9.2.length (x9.2.map u8v)) (kr : ∀ x9 ∈ D.map pk, ∀ k, Bl x9.1 k → R k) (e : D.map Prod.snd = l) : TreeR κ R w 0 p (l : Tr V 0) (leafW p pv) :=
  ⟨pv, D, ⟨B, O.mono (Nat.zero_le _), ks, kr, .inl rfl, fun _ h => .inr h, leafW_ty B O⟩, e⟩
theorem leafW_fresh (hp : n ≤ p) (O : Own w n e sz pv b cs) : ∀ j, leafW p pv j → n ≤ j := fun j hj => hj.elim (fun e => e ▸ hp) (fun q => (O.lt j q).1)
theorem new_dj (hW : ∀ j, W j → j < n) (h2 : ∀ j, W2 j → n ≤ j) : Dj W W2 := fun j h1 q => by have := hW j h1; have := h2 j q; omega
theorem inF_step {F : Nat → Prop} {v v2 : Value} {n n2 : Nat} (hm : v2.ownBlock = v.ownBlock ∨ ∀ k, v2.ownBlock = some k → n2 ≤ k) (hn : n ≤ n2) (h : ∀ k, k < n → Bl v k → F k) : ∀ k, k < n → Bl v2 k → F k := fun k hk hb => by
  rcases hm with hm | hm
  · exact h k hk (hm.symm.trans hb)
  · have := hm k hb; omega
theorem newF_in (h : ∀ k, k < n → W' k → W k) : NewF n W W' := fun k hk => by
  by_cases q : k < n
  · exact .inl (h k q hk)
  · exact .inr (by omega)
theorem leafW_in (hp : p < n → W p) (hv : ∀ k, k < n → Bl pv k → W k) : ∀ k, k < n → leafW p pv k → W k := fun k hk hj => hj.elim (fun e => by subst e; exact hp hk) (hv k hk)
/-! leaves that change -/
theorem set_map9 {i : Nat} {d : DP V} : (D.set i d).map Prod.snd = (D.map Prod.snd).set i d.2 := List.map_set ..
theorem put_found {x : V} (hc : (kys D).contains k = true) [Inhabited V] : putT 0 k x ((D.map Prod.snd : List (Ky × V)) : Tr V 0) = (true, ((D.set (pos (kys D) k) ((D.getD (pos (kys D) k) default).1, (D.getD (pos (kys D) k) default).2.1, x)).map Prod.snd : List (Ky × V)), none) := by
  rw [put0]
  have hh : hasK (D.map Prod.snd) k = true := hc
  rw [if_pos hh, set_map9]
  have hx : k ∈ kys D := List.contains_iff_mem.1 hc
  have hl : pos (kys D) k < D.length ∨ ¬ pos (kys D) k < D.length := Nat.lt_or_ge _ _ |>.imp id (Nat.not_lt_of_le)
  show (true, ((D.map Prod.snd).set (pos (kys D) k) (((D.map Prod.snd).getD (pos (kys D) k) (k, x)).1, x) : List (Ky × V)), (none : Option (Ky × Tr V 0))) = _
  rcases hl with hl | hl
  · have e : (D.map Prod.snd).getD (pos (kys D) k) (k, x) = (D.getD (pos (kys D) k) default).2 := by simp [List.getD_eq_getElem?_getD, hl]
    rw [e]
  · rw [List.set_eq_of_length_le (by simp; omega), List.set_eq_of_length_le (by simp; omega)]
theorem put_miss {x : V} {kv : Value} (hc : (kys D).contains k = false) (hi : pos (kys D) k ≤ D.length) : putT 0 k x ((D.map Prod.snd : List (Ky × V)) : Tr V 0) = (false, halves 0 (((D.insertIdx (pos (kys D) k) (kv, k, x)).map Prod.snd : List (Ky × V)) : Tr V 0)) := by
  rw [put0]
  have hh : ¬ hasK (D.map Prod.snd) k = true := by show ¬ (kys D).contains k = true; rw [hc]; decide
  rw [if_neg hh, ← map_ins9 (f := Prod.snd) hi]
  rfl
theorem pos_ltP (hs : Sorted (kys D)) (hc : (kys D).contains k = true) : pos (kys D) k < D.length := by
  obtain ⟨h, _⟩ := pos_hit hs (List.contains_iff_mem.1 hc)
  rwa [kys_len] at h
theorem halves_small {l : List (Ky × V)} (h6 : l.length ≤ 6) : halves 0 (l : Tr V 0) = (l, none) := if_pos h6
theorem halves_big [Inhabited V] (h6 : 6 < D.length) : halves 0 ((D.map Prod.snd : List (Ky × V)) : Tr V 0) = (((D.take (D.length - 3)).map Prod.snd : List (Ky × V)), some (((D.drop (D.length - 3)).getD 0 default).2.1, ((D.drop (D.length - 3)).map Prod.snd : List (Ky × V)))) := by
  have h : ¬ (D.map Prod.snd).length ≤ 6 := by simp; omega
  show (if (D.map Prod.snd).length ≤ 6 then _ else _) = _
  rw [if_neg h]
  have e1 : (D.map Prod.snd).length = D.length := by simp
  rw [e1, List.map_take, List.map_drop]
  have e2 : hd ((D.map Prod.snd).drop (D.length - 3)) = ((D.drop (D.length - 3)).getD 0 default).2.1 := by
    have hl : D.length - 3 < D.length := by omega
    simp [hd, List.head?_drop, List.getD_eq_getElem?_getD, hl]
  rw [e2]
  rfl
theorem out_small {l : List (Ky × V)} {X : Tr V 0 × Option (Ky × Tr V 0)} (hX : X = (l, none)) (T : TreeR κ R w 0 p (l : Tr V 0) W') (N : NewF n W W') : OutR κ R w n W 0 p X nilV (.pointer none) := by
  subst hX; exact ⟨rfl, rfl, W', T, N⟩
theorem out_big {h : Nat} {t t2 : Tr V h} {X : Tr V h × Option (Ky × Tr V h)} (hX : X = (t, some (k, t2))) (O : Own w 0 5 1 u k.length (k.map u8v)) (hr : ∀ j, Bl u j → R j) (T : TreeR κ R w h p t W') (T2 : TreeR κ R w h q t2 W2) (N : NewF n W W') (N2 : NewF n W W2) (hd : Dj W' W2) : OutR κ R w n W h p X u (ptr q 0) := by
  subst hX; exact ⟨q, W', W2, rfl, O, hr, T, T2, N, N2, hd⟩
theorem ks_ins {d : DP V} (ks : ∀ x9 ∈ D.map pk, Own w 0 5 1 x9.1 x9.2.length (x9.2.map u8v)) (hd : Own w 0 5 1 d.1 d.2.1.length (d.2.1.map u8v)) (hi : i ≤ D.length) : ∀ x9 ∈ (D.insertIdx i d).map pk, Own w 0 5 1 x9.1 x9.2.length (x9.2.map u8v) := fun x hx => by
  rw [insIdx d hi, List.map_append, List.map_cons, List.mem_append, List.mem_cons] at hx
  rcases hx with hx | rfl | hx
  · obtain ⟨y, hy, rfl⟩ := List.mem_map.1 hx; exact ks _ (List.mem_map.2 ⟨y, List.mem_of_mem_take hy, rfl⟩)
  · exact hd
  · obtain ⟨y, hy, rfl⟩ := List.mem_map.1 hx; exact ks _ (List.mem_map.2 ⟨y, List.mem_of_mem_drop hy, rfl⟩)
theorem kr_ins {d : DP V} (kr : ∀ x9 ∈ D.map pk, ∀ k, Bl x9.1 k → R k) (hd : ∀ k, Bl d.1 k → R k) (hi : i ≤ D.length) : ∀ x9 ∈ (D.insertIdx i d).map pk, ∀ k, Bl x9.1 k → R k := fun x hx => by
  rw [insIdx d hi, List.map_append, List.map_cons, List.mem_append, List.mem_cons] at hx
  rcases hx with hx | rfl | hx
  · obtain ⟨y, hy, rfl⟩ := List.mem_map.1 hx; exact kr _ (List.mem_map.2 ⟨y, List.mem_of_mem_take hy, rfl⟩)
  · exact hd
  · obtain ⟨y, hy, rfl⟩ := List.mem_map.1 hx; exact kr _ (List.mem_map.2 ⟨y, List.mem_of_mem_drop hy, rfl⟩)
theorem ks_sub {A B : List (DP V)} {Q : DK → Prop} (ks : ∀ x9 ∈ A.map pk, Q x9) (h : ∀ x ∈ B, x ∈ A) : ∀ x9 ∈ B.map pk, Q x9 := fun x hx => by
  obtain ⟨y, hy, rfl⟩ := List.mem_map.1 hx; exact ks _ (List.mem_map.2 ⟨y, h y hy, rfl⟩)
theorem ks_mem [Inhabited V] (h : i < D.length) : pk (D.getD i default) ∈ D.map pk := List.mem_map.2 ⟨_, getD_mem h, rfl⟩
theorem drop_key [Inhabited V] {j : Nat} (h : j < D.length) : pk ((D.drop j).getD 0 default) ∈ D.map pk := by
  have e : (D.drop j).getD 0 default = D.getD j default := by simp [List.getD_eq_getElem?_getD]
  rw [e]; exact ks_mem h
theorem leafW_lt (hp : p < n) (hv : ∀ j, Bl pv j → j < n) : ∀ j, leafW p pv j → j < n := fun j hj => hj.elim (fun e => e ▸ hp) (hv j)
theorem ks_set {d : DP V} {Q : DK → Prop} (ks : ∀ x9 ∈ D.map pk, Q x9) (hd : Q (pk d)) : ∀ x9 ∈ (D.set i d).map pk, Q x9 := fun x hx => by
  obtain ⟨y, hy, rfl⟩ := List.mem_map.1 hx
  rcases List.mem_or_eq_of_mem_set hy with h | h
  · exact ks _ (List.mem_map.2 ⟨y, h, rfl⟩)
  · subst h; exact hd
end
theorem set_flat9 {α : Type} {f : α → List Value} {sz j : Nat} {d x : α} {vs : List Value} : ∀ {l : List α} {i : Nat}, (∀ u, (f u).length = sz) → i < l.length → j + vs.length ≤ sz → f x = (f (l.getD i d)).take j ++ vs ++ (f (l.getD i d)).drop (j + vs.length) →
    (l.flatMap f).take (i * sz + j) ++ vs ++ (l.flatMap f).drop (i * sz + j + vs.length) = (l.set i x).flatMap f
  | [], _, _, h, _, _ => absurd h (Nat.not_lt_zero _)
  | a :: t, 0, hf, _, hj, hx => by
    have ha := hf a
    simp only [List.getD_cons_zero] at hx
    simp only [Nat.zero_mul, Nat.zero_add, List.flatMap_cons, List.set_cons_zero, hx]
    rw [List.take_append_of_le_length (by omega), List.drop_append_of_le_length (by omega)]
    simp [List.append_assoc]
  | a :: t, i + 1, hf, h, hj, hx => by
    have ha := hf a
    simp only [List.getD_cons_succ] at hx
    have ih := set_flat9 (l := t) (i := i) hf (by simpa using h) hj hx
    have e1 : (i + 1) * sz + j = (f a).length + (i * sz + j) := by rw [ha, Nat.add_mul]; omega
    simp only [List.flatMap_cons, List.set_cons_succ]
    rw [e1, List.take_length_add_append, Nat.add_assoc, List.drop_length_add_append, ← ih]
    simp [List.append_assoc]
end Go.Gx

/- Walks, written by a program: what each function of the translation hands back. -/
namespace Go.Proofs.Ytcpfdfejojghbaa
open Go.Gx Go.RowKit
attribute [local irreducible] wpList wpStill Code.wp Calls
open Go.Bt
theorem putLI {k : List UInt8} {kv : Value} {x : Int} {R W : Nat → Prop} {p : Nat} {pv : Value} {D : List (DP (Int))} {w : World} (hL : LeafR kI R w p pv D W) (hs : Sorted (kys D)) (hn : D.length ≤ 6) (hk : Own w 0 5 1 kv k.length (k.map u8v)) (hkr : ∀ j, Bl kv j → R j) : Ret Try.prog 48 #[(ptr p 0), (Value.agg #[kv, (Value.int .i64 x)])] w (fun v' w' => Gr w w' W ∧ ∃ u m, v' = .tuple #[.bool (putT 0 k x ((D.map Prod.snd : List (Ky × (Int))) : Tr (Int) 0)).1, u, m] ∧ OutR kI R w' w.heap.size W 0 p (putT 0 k x ((D.map Prod.snd : List (Ky × (Int))) : Tr (Int) 0)).2 u m) := by
 have hx : Bx w p 115 [pv, .slice none 0 0, .slice none 0 0] := hL.bx
 have op : Own w 0 51 2 pv D.length (D.flatMap cI) := hL.op
 have ks := hL.ks
 have hi_p := hx.lt
 have hb := Gr.refl w W
 refine enter (N := 92) Try.func48 rfl rfl (by simp) fun a0 hN hd hA => ?_
 have s0 : a0.tmps.getD 0 undef = (ptr p 0) := hA 0 (by simp)
 have s1 : a0.tmps.getD 1 undef = (Value.agg #[kv, (Value.int .i64 x)]) := hA 1 (by simp)
 clear hA
 refine seq_any fun K5 hK5 => one_reg (op_box (cs := [kv, (Value.int .i64 x)]) (ev_base hN rfl s1) rfl ?_)
 intro w6 b10 lo_b10 hi_b10 hB12 E11
 have ne_b10_pv : pv.ownBlock ≠ some b10 := fun hh => by have := (op.lt _ hh).2; omega
 have z_w6 := E11.size
 have hx := hx.keep0 E11
 have op := op.keep0 E11
 have ks := all9 ks fun _ h => h.keep0 E11
 have hk := hk.keep0 E11
 have hb := hb.step0 E11
 refine op_assign rfl (op_assign rfl (op_assign rfl ?_))
 refine reg_nil (hK5 _ _ (seq_any fun K13 hK13 => seq_any fun K14 hK14 => one_reg (op_move (ev_base hN rfl s0) (op_fn (vs := [(ptr p 0)]) ok81 ⟨(ev_hit hN rfl), trivial⟩ (Ret.flip (leafLI hx op)) ?_))))
 rintro _ _ ⟨rfl, rfl⟩
 refine reg_nil (hK14 _ _ (wp_cond_true (ev_hit hN rfl) ?_))
 refine seq_any fun K15 hK15 => one_reg (op_move (ev_base hN rfl s0) (op_field fld51_0 (ev_hit hN rfl) (op_load1 (v := kv) one27 (ev_hit hN rfl) (hB12.cell rfl) (op_fn (vs := [(ptr p 0), kv]) ok82 ⟨(ev_hit hN rfl), ⟨(ev_hit hN rfl), trivial⟩⟩ (findI hx op ks hs (by omega) (hk.rdw.mono (Nat.zero_le _) (by omega))) ?_))))
 rintro _ w16 ⟨E17, rfl⟩
 have E17 := grown_of_below E17
 have z_w16 := E17.size
 have hx := hx.keep0 E17
 have op := op.keep0 E17
 have ks := all9 ks fun _ h => h.keep0 E17
 have hk := hk.keep0 E17
 have hB12 := hB12.keep0 E17
 have hb := hb.step0 E17
 refine op_move (ev_hit hN rfl) (op_extract (ev_hit hN rfl) rfl ?_)
 refine op_extract (ev_hit hN rfl) rfl ?_
 refine op_assign (ev_hit hN rfl) ?_
 refine op_assign (ev_hit hN rfl) ?_
 refine reg_nil (hK15 _ _ (seq_any fun K18 hK18 => seq_any fun K19 hK19 => one_reg ?_))
 rcases Bool.eq_false_or_eq_true (((kys D).contains k)) with c21 | c21
 · -- 21T
  rw [c21]
  refine op_move (ev_hit hN rfl) (reg_nil (hK19 _ _ (wp_cond_true (ev_hit hN rfl) ?_)))
  refine seq_any fun K20 hK20 => reg_from mixed ?_
  intro w23 E22
  have z_w23 := E22.size
  have hx := hx.keep0 E22
  have op := op.keep0 E22
  have ks := all9 ks fun _ h => h.keep0 E22
  have hB12 := hB12.keep0 E22
  have hb := hb.step0 E22
  refine from_still (m := 9) 9 (hd := [_, _, _, _, _, _, _, _, _]) (by kernel_rfl) rfl rfl ?_
  have hpl := pos_ltP hs c21
  refine st_step rfl (fun _ h9 => op_move (ev_base hN rfl s0) h9) ?_
  refine st_step rfl (fun _ h9 => op_nil (ev_hit hN rfl) h9) ?_
  refine st_step rfl (fun _ h9 => op_field fld115_0 (ev_hit hN rfl) h9) ?_
  refine st_step rfl (fun _ h9 => op_load1 (v := pv) one48 (ev_hit hN rfl) (hx.cell rfl) h9) ?_
  refine st_step rfl (fun _ h9 => op_move (ev_hit hN rfl) h9) ?_
  refine st_step rfl (fun _ h9 => op_field fld51_1 (ev_hit hN rfl) h9) ?_
  refine st_step rfl (fun _ h9 => op_load1 (v := (Value.int .i64 x)) one3 (ev_hit hN rfl) (hB12.cell rfl) h9) ?_
  refine st_index_own (i := ((pos (kys D) k))) slt48 (ev_hit hN rfl) op (ev_hit hN rfl) (by omega) (by omega) ?_
  intro b24 o25 lo_b24 hA26
  refine st_step rfl (fun _ h9 => op_field fld51_1 (ev_hit hN rfl) h9) ?_
  refine st_nil ?_
  refine from_seq (tl := [_]) (by decide) (by kernel_rfl) rfl ?_
  have hP30 := op
  refine op_store_own (vs := [(Value.int .i64 x)]) size3 (ev_hit hN rfl) (ev_hit hN rfl) rfl rfl rfl hP30 (hA26.fld 1) (by have := hP30.1; simp at this ⊢; omega) ?_
  intro w28 hO40 E29
  have z_w28 := E29.size
  have hx := hx.keepO hP30 E29 (by decide)
  have ks := all9 ks fun _ h => h.keepT hP30 E29 (by decide)
  have hb := hb.stepL E29 (fun k _ h => hL.wv k h)
  have hO40 : Own w28 0 51 2 pv D.length (((D.set (pos (kys D) k) ((D.getD (pos (kys D) k) default).1, (D.getD (pos (kys D) k) default).2.1, x))).flatMap cI) := by exact hO40.cast rfl (set_flat9 (f := cI) (d := default) cI_len (by omega) (by simp) rfl)
  refine reg_nil (hK20 _ _ (seq_any fun K41 hK41 => ?_))
  refine one_reg (op_assign rfl (op_assign rfl (op_assign rfl (reg_nil (hK41 _ _ (wp_ret (then_ret (then_ret ( ?_)))))))))
  refine retN (rs := [.tmp 4, .tmp 5, .tmp 6]) (vs := [(Value.bool true), (Value.slice none 0 0), (Value.pointer none)]) rfl hd ⟨(ev_hit hN rfl), ⟨(ev_hit hN rfl), ⟨(ev_hit hN rfl), trivial⟩⟩⟩ rfl ⟨_, rfl, ?_⟩
  exact ⟨hb, _, _, by rw [put_found c21]; rfl, out_small (congrArg Prod.snd (put_found c21)) (mkLeaf (D := (D.set (pos (kys D) k) ((D.getD (pos (kys D) k) default).1, (D.getD (pos (kys D) k) default).2.1, x))) (κ := kI) hx (hO40.cast (by simp) rfl) (ks_set ks (ks _ (ks_mem hpl))) (ks_set hL.kr (hL.kr _ (ks_mem hpl))) rfl) (newF_in (leafW_in (fun _ => hL.wp) (fun k _ h => hL.wv k h)))⟩
 · -- 21F
  rw [c21]
  refine op_move (ev_hit hN rfl) (reg_nil (hK19 _ _ (wp_cond_false (ev_hit hN rfl) ?_)))
  refine wp_skip ?_
  refine hK18 _ _ ?_
  have hpl := pos_leP (D := D) (x := k)
  refine reg_split (hd := [_, _, _, _, _, _, _, _, _]) (tl := _) 9 mixed (by kernel_rfl) rfl rfl ?_
  refine any_env (φ := phiV [(fun uz => uz = (ptr p 0)), (fun uz => uz = (ptr p 0)), (fun uz => uz = (ptr p 0)), (fun uz => uz = (ptr p 0)), (fun uz => uz = pv), (fun uz => uz = (Value.int .i64 (((pos (kys D) k) : Nat) : Int))), (fun uz => uz = (Value.agg #[kv, (Value.int .i64 x)])), (fun _ => True), (fun _ => True)]) (G := fun w' => Bx w' p 115 [pv, (Value.slice none 0 0), (Value.slice none 0 0)] ∧ Bx w' b10 51 [kv, (Value.int .i64 x)]) [7, 8] (by kernel_rfl) (by kernel_rfl) (by kernel_rfl) (by kernel_rfl) hN (fun w1 w2 E h => by obtain ⟨h0, h1⟩ := h; exact ⟨h0.keep0 E, h1.keep0 E⟩) ⟨hx, hB12⟩ (ObEs.cons ?_ (ObEs.cons ?_ (ObEs.cons ?_ (ObEs.cons ?_ (ObEs.cons ?_ (ObEs.cons ?_ (ObEs.cons ?_ (ObEs.pass rfl (ObEs.pass rfl (ObEs.nil)))))))))) (by simp only [putsL_defers]) ?_
  ·
   intro eA aA wA hNA hGA hbsA hdpA
   have qA_0 := (hbsA 0 rfl).trans (sl_base hN rfl s0)
   refine op_move (ev_base hNA rfl qA_0) ?_
   exact obE_end rfl rfl rfl
  ·
   intro eA aA wA hNA hGA hbsA hdpA
   have qA_0 := (hbsA 0 rfl).trans (sl_base hN rfl s0)
   refine op_move (ev_base hNA rfl qA_0) ?_
   exact obE_end rfl rfl rfl
  ·
   intro eA aA wA hNA hGA hbsA hdpA
   have qA_32 : Sl aA 32 (ptr p 0) := (hdpA 1 _ 32 (by kernel_rfl) rfl rfl).2 rfl
   refine op_nil (ev_base hNA rfl qA_32) ?_
   exact obE_end rfl rfl rfl
  ·
   intro eA aA wA hNA hGA hbsA hdpA
   have qA_33 : Sl aA 33 (ptr p 0) := (hdpA 2 _ 33 (by kernel_rfl) rfl rfl).2 rfl
   refine op_field fld115_0 (ev_base hNA rfl qA_33) ?_
   exact obE_end rfl rfl rfl
  ·
   intro eA aA wA hNA hGA hbsA hdpA
   have qA_34 : Sl aA 34 (ptr p 0) := (hdpA 3 _ 34 (by kernel_rfl) rfl rfl).2 rfl
   obtain ⟨hx, hB12⟩ := hGA
   refine op_load1 (v := pv) one48 (ev_base hNA rfl qA_34) (hx.cell rfl) ?_
   exact obE_end rfl rfl rfl
  ·
   intro eA aA wA hNA hGA hbsA hdpA
   have qA_7 := (hbsA 7 rfl).trans (sl_hit hN rfl)
   refine op_move (ev_base hNA rfl qA_7) ?_
   exact obE_end rfl rfl rfl
  ·
   intro eA aA wA hNA hGA hbsA hdpA
   have qA_3 := (hbsA 3 rfl).trans (sl_hit hN rfl)
   obtain ⟨hx, hB12⟩ := hGA
   refine op_loadA (cs := [kv, (Value.int .i64 x)]) agg51 rfl (ev_base hNA rfl qA_3) (fun j u hu => by rw [Nat.zero_add]; exact hB12.cell hu) ?_
   exact obE_end rfl rfl rfl
  ·
   intro w42 E42 _ a42 hN42 hbs42 hdp42 o_ ho_; obtain rfl := Option.some.inj ho_
   have z_w42 := E42.size
   have hx := hx.keep0 E42
   have op := op.keep0 E42
   have ks := all9 ks fun _ h => h.keep0 E42
   have hk := hk.keep0 E42
   have hB12 := hB12.keep0 E42
   have hb := hb.step0 E42
   have q42_37 : Sl a42 37 (Value.agg #[kv, (Value.int .i64 x)]) := (hdp42 6 _ 37 (by kernel_rfl) rfl rfl).2 rfl
   refine op_bslice (e := 51) (pv := [(0, (Value.agg #[kv, (Value.int .i64 x)]))]) (cs := [kv, (Value.int .i64 x)]) ⟨rfl, (ev_base hN42 rfl q42_37), trivial⟩ (by obtain ⟨_, _, _, rfl⟩ := hk.sl; kernel_rfl) ?_
   intro w43 b44 lo_b44 hi_b44 hB46 E45
   have ne_b44_pv : pv.ownBlock ≠ some b44 := fun hh => by have := (op.lt _ hh).2; omega
   have z_w43 := E45.size
   have hx := hx.keep0 E45
   have op := op.keep0 E45
   have ks := all9 ks fun _ h => h.keep0 E45
   have hk := hk.keep0 E45
   have hB12 := hB12.keep0 E45
   have hb := hb.step0 E45
   refine ke_end rfl (by decide) rfl ⟨hx, hB12⟩ ?_
   intro w47 E47 _ a47 hN47 hbs47 hdp47 o_ ho_; obtain rfl := Option.some.inj ho_
   have z_w47 := E47.size
   have hx := hx.keep0 E47
   have op := op.keep0 E47
   have ks := all9 ks fun _ h => h.keep0 E47
   have hk := hk.keep0 E47
   have hB12 := hB12.keep0 E47
   have hB46 := hB46.keep0 E47
   have hb := hb.step0 E47
   have q47_35 : Sl a47 35 pv := (hdp47 4 _ 35 (by kernel_rfl) rfl rfl).2 rfl
   have q47_36 : Sl a47 36 (Value.int .i64 (((pos (kys D) k) : Nat) : Int)) := (hdp47 5 _ 36 (by kernel_rfl) rfl rfl).2 rfl
   have q47_38 : Sl a47 38 (Value.slice (some ⟨b44, 0, none⟩) 1 1) := (Option.some.inj ((hdp47 7 _ 38 (by kernel_rfl) rfl rfl).1 0 rfl)).symm
   refine op_fn (vs := [pv, (Value.int .i64 (((pos (kys D) k) : Nat) : Int)), (Value.slice (some ⟨b44, 0, none⟩) 1 1)]) ok83 ⟨(ev_base hN47 rfl q47_35), ⟨(ev_base hN47 rfl q47_36), ⟨(ev_base hN47 rfl q47_38), trivial⟩⟩⟩ (InsI op hB46 (one_pI ks (fun _ h => h)) (by simp only [List.all_cons, List.all_nil, Bool.true_and, Bool.and_true, hk.one]; try rfl) (by first | omega | (simp only [List.length_insertIdx, List.length_set, List.length_drop, List.length_take]; omega) | (simp; omega)) (by first | omega | (simp only [List.length_insertIdx, List.length_set, List.length_drop, List.length_take]; omega) | (simp; omega)) ne_b44_pv) ?_
   rintro v49 w50 ⟨E52, hO49, hm49⟩
   have hin53 := inF_step (n := w.heap.size) hm49 (by omega) (fun k _ h => hL.wv k h)
   have z_w50 := E52.size
   have hx := hx.keepO op E52 (by decide)
   have ks := all9 ks fun _ h => h.keepT op E52 (by decide)
   have hk := hk.keepT op E52 (by decide)
   have hB12 := hB12.keep E52 (fun hh => ne_b10_pv hh.symm)
   have hb := hb.stepL E52 (fun k _ h => hL.wv k h)
   have hO49 : Own w50 0 51 2 v49 (D.insertIdx (pos (kys D) k) (kv, k, x)).length ((D.insertIdx (pos (kys D) k) (kv, k, x)).flatMap cI) := hO49.cast (by rw [List.length_insertIdx, if_pos (by first | omega | (simp only [List.length_insertIdx, List.length_set, List.length_drop, List.length_take]; omega) | (simp; omega))]) (flat_ins cI_len (kv, k, x) (by first | omega | (simp only [List.length_insertIdx, List.length_set, List.length_drop, List.length_take]; omega) | (simp; omega)))
   refine ke_end rfl (by decide) rfl ⟨hx, hB12⟩ ?_
   intro w54 E54 a54 hN54 hd54 hbs54 hph54
   have hd54 := hd54.trans ((by simp only [putsL_defers] : _ = _).trans hd)
   have z_w54 := E54.size
   have hx := hx.keep0 E54
   have ks := all9 ks fun _ h => h.keep0 E54
   have hk := hk.keep0 E54
   have hO49 := hO49.keep0 E54
   have hb := hb.step0 E54
   have s54_0 := (hbs54 0 rfl).trans (sl_base hN rfl s0)
   have s54_4 := (hbs54 4 rfl).trans (sl_hit hN rfl)
   have s54_31 : Sl a54 31 (ptr p 0) := (hph54 0 _ 31 rfl rfl).2 rfl
   have s54_39 : Sl a54 39 v49 := (Option.some.inj ((hph54 8 _ 39 rfl rfl).1 1 rfl)).symm
   refine split_end ?_
   refine from_seq (tl := [_, _, _]) (by decide) (by kernel_rfl) rfl ?_
   refine op_nil (ev_base hN54 rfl s54_31) (op_field fld115_0 (ev_hit hN54 rfl) ?_)
   have hx_old := hx
   refine op_store (vs := [v49]) (cs' := [v49, (Value.slice none 0 0), (Value.slice none 0 0)]) size48 (ev_hit hN54 rfl) (ev_base hN54 rfl s54_39) hO49.cl rfl (by simp only [List.all_cons, List.all_nil, Bool.true_and, Bool.and_true, hO49.one]; try rfl) hx (Nat.le_of_ble_eq_true rfl) rfl ?_
   intro w55 hx E56
   have z_w55 := E56.size
   have ks := all9 ks fun _ h => h.keepX hx_old E56 (by decide)
   have hk := hk.keepX hx_old E56 (by decide)
   have hO49 := hO49.keepX hx_old E56 (by decide)
   have hb := hb.stepB E56 hL.wp
   refine reg_nil (hK13 _ _ (seq_any fun K57 hK57 => one_reg ?_))
   have hl1 : (D.insertIdx (pos (kys D) k) (kv, k, x)).length = D.length + 1 := by rw [List.length_insertIdx, if_pos hpl]
   have ks58 : ∀ x9 ∈ ((D.insertIdx (pos (kys D) k) (kv, k, x)).map pk), Own w55 0 5 1 x9.1 x9.2.length (x9.2.map u8v) := ks_ins ks hk hpl
   refine op_move (ev_base hN54 rfl s54_0) ?_
   rcases Bool.eq_false_or_eq_true (decide ((D.insertIdx (pos (kys D) k) (kv, k, x)).length ≤ 6)) with k86 | k86
   · -- 86T
    refine op_fn (vs := [(ptr p 0)]) ok86 ⟨(ev_hit hN54 rfl), trivial⟩ (Ret.flip (halvesLsI hx hO49 (of_decide_eq_true k86))) ?_
    rintro _ _ ⟨rfl, rfl⟩
    refine op_move (ev_hit hN54 rfl) (op_extract (ev_hit hN54 rfl) rfl ?_)
    refine op_extract (ev_hit hN54 rfl) rfl ?_
    refine op_assign (ev_hit hN54 rfl) ?_
    refine op_assign (ev_hit hN54 rfl) ?_
    refine reg_nil ?_
    refine hK57 _ _ (seq_any fun K59 hK59 => one_reg (op_move (ev_base hN54 rfl s54_4) (op_move (ev_hit hN54 rfl) (op_move (ev_hit hN54 rfl) (op_assign (ev_hit hN54 rfl) ?_)))))
    refine op_assign (ev_hit hN54 rfl) ?_
    refine op_assign (ev_hit hN54 rfl) ?_
    refine reg_nil (hK59 _ _ (wp_ret ?_))
    refine retN (rs := [.tmp 4, .tmp 5, .tmp 6]) (vs := [(Value.bool false), (Value.slice none 0 0), (Value.pointer none)]) rfl hd54 ⟨(ev_hit hN54 rfl), ⟨(ev_hit hN54 rfl), ⟨(ev_hit hN54 rfl), trivial⟩⟩⟩ rfl ⟨_, rfl, ?_⟩
    exact ⟨hb, _, _, by rw [put_miss (kv := kv) c21 hpl]; rfl, out_small ((congrArg Prod.snd (put_miss (kv := kv) c21 hpl)).trans (congrArg Prod.snd (rfl : (true, halves 0 _) = (true, halves 0 _)) |>.trans (halves_small (by simpa using of_decide_eq_true k86)))) (mkLeaf (D := (D.insertIdx (pos (kys D) k) (kv, k, x))) (κ := kI) hx hO49 ks58 (kr_ins hL.kr hkr hpl) rfl) (newF_in (leafW_in (fun _ => hL.wp) hin53))⟩
   · -- 86F
    refine op_fn (vs := [(ptr p 0)]) ok86 ⟨(ev_hit hN54 rfl), trivial⟩ (halvesLbI hx hO49 ks58 (by have := of_decide_eq_false k86; omega) (by first | omega | (simp only [List.length_insertIdx, List.length_set, List.length_drop, List.length_take]; omega) | (simp; omega))) ?_
    rintro _ w61 ⟨E62, q60, qv60, rfl, hx60, op60, lo60, hB60, hO60⟩
    have E62 := E62.grown (row := some p) (fun k _ h => by rw [h])
    have hx_old := hx
    have hlt63 : ∀ j, leafW p (hiV v49 ((D.insertIdx (pos (kys D) k) (kv, k, x)).length - 3)) j → j < w55.heap.size := leafW_lt hx.lt (fun j h => (hO49.lt j ((hiV_ob _ _).symm.trans h)).2)
    have z_w61 := E62.size
    have ks58 := all9 ks58 fun _ h => h.keepX hx_old E62 (by decide)
    have hb := hb.stepB E62 hL.wp
    refine op_move (ev_hit hN54 rfl) (op_extract (ev_hit hN54 rfl) rfl ?_)
    refine op_extract (ev_hit hN54 rfl) rfl ?_
    refine op_assign (ev_hit hN54 rfl) ?_
    refine op_assign (ev_hit hN54 rfl) ?_
    refine reg_nil ?_
    refine hK57 _ _ (seq_any fun K64 hK64 => one_reg (op_move (ev_base hN54 rfl s54_4) (op_move (ev_hit hN54 rfl) (op_move (ev_hit hN54 rfl) (op_assign (ev_hit hN54 rfl) ?_)))))
    refine op_assign (ev_hit hN54 rfl) ?_
    refine op_assign (ev_hit hN54 rfl) ?_
    refine reg_nil (hK64 _ _ (wp_ret ?_))
    refine retN (rs := [.tmp 4, .tmp 5, .tmp 6]) (vs := [(Value.bool false), (((D.insertIdx (pos (kys D) k) (kv, k, x)).drop ((D.insertIdx (pos (kys D) k) (kv, k, x)).length - 3)).getD 0 default).1, (ptr q60 0)]) rfl hd54 ⟨(ev_hit hN54 rfl), ⟨(ev_hit hN54 rfl), ⟨(ev_hit hN54 rfl), trivial⟩⟩⟩ rfl ⟨_, rfl, ?_⟩
    exact ⟨hb, _, _, by rw [put_miss (kv := kv) c21 hpl]; rfl, out_big ((congrArg Prod.snd (put_miss (kv := kv) c21 hpl)).trans (halves_big (D := (D.insertIdx (pos (kys D) k) (kv, k, x))) (by have := of_decide_eq_false k86; omega))) (ks58 _ (drop_key (by omega))) ((kr_ins hL.kr hkr hpl) _ (drop_key (by omega))) (mkLeaf (D := (D.insertIdx (pos (kys D) k) (kv, k, x)).take ((D.insertIdx (pos (kys D) k) (kv, k, x)).length - 3)) (κ := kI) hx60 op60 (ks_sub ks58 (fun _ h => List.mem_of_mem_take h)) (ks_sub (kr_ins hL.kr hkr hpl) (fun _ h => List.mem_of_mem_take h)) rfl) (mkLeaf (D := (D.insertIdx (pos (kys D) k) (kv, k, x)).drop ((D.insertIdx (pos (kys D) k) (kv, k, x)).length - 3)) (κ := kI) hB60 hO60 (ks_sub ks58 (fun _ h => List.mem_of_mem_drop h)) (ks_sub (kr_ins hL.kr hkr hpl) (fun _ h => List.mem_of_mem_drop h)) rfl) (newF_in (leafW_in (fun _ => hL.wp) (inF_step (n := w.heap.size) (.inl (hiV_ob _ _)) (Nat.le_refl _) hin53))) (fun j hj => .inr (Nat.le_trans (by omega) ((leafW_fresh lo60 hO60) j hj))) (new_dj hlt63 (leafW_fresh lo60 hO60))⟩

theorem putLS {k : List UInt8} {kv : Value} {x : List UInt8} {R W : Nat → Prop} {p : Nat} {pv : Value} {D : List (DP (List UInt8))} {w : World} (hL : LeafR kS R w p pv D W) (hs : Sorted (kys D)) (hn : D.length ≤ 6) (hk : Own w 0 5 1 kv k.length (k.map u8v)) (hkr : ∀ j, Bl kv j → R j) : Ret Try.prog 40 #[(ptr p 0), (Value.agg #[kv, (Value.string (bs x))])] w (fun v' w' => Gr w w' W ∧ ∃ u m, v' = .tuple #[.bool (putT 0 k x ((D.map Prod.snd : List (Ky × (List UInt8))) : Tr (List UInt8) 0)).1, u, m] ∧ OutR kS R w' w.heap.size W 0 p (putT 0 k x ((D.map Prod.snd : List (Ky × (List UInt8))) : Tr (List UInt8) 0)).2 u m) := by
 have hx : Bx w p 93 [pv, .slice none 0 0, .slice none 0 0] := hL.bx
 have op : Own w 0 98 2 pv D.length (D.flatMap cS) := hL.op
 have ks := hL.ks
 have hi_p := hx.lt
 have hb := Gr.refl w W
 refine enter (N := 92) Try.func40 rfl rfl (by simp) fun a0 hN hd hA => ?_
 have s0 : a0.tmps.getD 0 undef = (ptr p 0) := hA 0 (by simp)
 have s1 : a0.tmps.getD 1 undef = (Value.agg #[kv, (Value.string (bs x))]) := hA 1 (by simp)
 clear hA
 refine seq_any fun K5 hK5 => one_reg (op_box (cs := [kv, (Value.string (bs x))]) (ev_base hN rfl s1) rfl ?_)
 intro w6 b10 lo_b10 hi_b10 hB12 E11
 have ne_b10_pv : pv.ownBlock ≠ some b10 := fun hh => by have := (op.lt _ hh).2; omega
 have z_w6 := E11.size
 have hx := hx.keep0 E11
 have op := op.keep0 E11
 have ks := all9 ks fun _ h => h.keep0 E11
 have hk := hk.keep0 E11
 have hb := hb.step0 E11
 refine op_assign rfl (op_assign rfl (op_assign rfl ?_))
 refine reg_nil (hK5 _ _ (seq_any fun K13 hK13 => seq_any fun K14 hK14 => one_reg (op_move (ev_base hN rfl s0) (op_fn (vs := [(ptr p 0)]) ok63 ⟨(ev_hit hN rfl), trivial⟩ (Ret.flip (leafLS hx op)) ?_))))
 rintro _ _ ⟨rfl, rfl⟩
 refine reg_nil (hK14 _ _ (wp_cond_true (ev_hit hN rfl) ?_))
 refine seq_any fun K15 hK15 => one_reg (op_move (ev_base hN rfl s0) (op_field fld98_0 (ev_hit hN rfl) (op_load1 (v := kv) one27 (ev_hit hN rfl) (hB12.cell rfl) (op_fn (vs := [(ptr p 0), kv]) ok64 ⟨(ev_hit hN rfl), ⟨(ev_hit hN rfl), trivial⟩⟩ (findS hx op ks hs (by omega) (hk.rdw.mono (Nat.zero_le _) (by omega))) ?_))))
 rintro _ w16 ⟨E17, rfl⟩
 have E17 := grown_of_below E17
 have z_w16 := E17.size
 have hx := hx.keep0 E17
 have op := op.keep0 E17
 have ks := all9 ks fun _ h => h.keep0 E17
 have hk := hk.keep0 E17
 have hB12 := hB12.keep0 E17
 have hb := hb.step0 E17
 refine op_move (ev_hit hN rfl) (op_extract (ev_hit hN rfl) rfl ?_)
 refine op_extract (ev_hit hN rfl) rfl ?_
 refine op_assign (ev_hit hN rfl) ?_
 refine op_assign (ev_hit hN rfl) ?_
 refine reg_nil (hK15 _ _ (seq_any fun K18 hK18 => seq_any fun K19 hK19 => one_reg ?_))
 rcases Bool.eq_false_or_eq_true (((kys D).contains k)) with c21 | c21
 · -- 21T
  rw [c21]
  refine op_move (ev_hit hN rfl) (reg_nil (hK19 _ _ (wp_cond_true (ev_hit hN rfl) ?_)))
  refine seq_any fun K20 hK20 => reg_from mixed ?_
  intro w23 E22
  have z_w23 := E22.size
  have hx := hx.keep0 E22
  have op := op.keep0 E22
  have ks := all9 ks fun _ h => h.keep0 E22
  have hB12 := hB12.keep0 E22
  have hb := hb.step0 E22
  refine from_still (m := 9) 9 (hd := [_, _, _, _, _, _, _, _, _]) (by kernel_rfl) rfl rfl ?_
  have hpl := pos_ltP hs c21
  refine st_step rfl (fun _ h9 => op_move (ev_base hN rfl s0) h9) ?_
  refine st_step rfl (fun _ h9 => op_nil (ev_hit hN rfl) h9) ?_
  refine st_step rfl (fun _ h9 => op_field fld93_0 (ev_hit hN rfl) h9) ?_
  refine st_step rfl (fun _ h9 => op_load1 (v := pv) one89 (ev_hit hN rfl) (hx.cell rfl) h9) ?_
  refine st_step rfl (fun _ h9 => op_move (ev_hit hN rfl) h9) ?_
  refine st_step rfl (fun _ h9 => op_field fld98_1 (ev_hit hN rfl) h9) ?_
  refine st_step rfl (fun _ h9 => op_load1 (v := (Value.string (bs x))) one9 (ev_hit hN rfl) (hB12.cell rfl) h9) ?_
  refine st_index_own (i := ((pos (kys D) k))) slt89 (ev_hit hN rfl) op (ev_hit hN rfl) (by omega) (by omega) ?_
  intro b24 o25 lo_b24 hA26
  refine st_step rfl (fun _ h9 => op_field fld98_1 (ev_hit hN rfl) h9) ?_
  refine st_nil ?_
  refine from_seq (tl := [_]) (by decide) (by kernel_rfl) rfl ?_
  have hP30 := op
  refine op_store_own (vs := [(Value.string (bs x))]) size9 (ev_hit hN rfl) (ev_hit hN rfl) rfl rfl rfl hP30 (hA26.fld 1) (by have := hP30.1; simp at this ⊢; omega) ?_
  intro w28 hO40 E29
  have z_w28 := E29.size
  have hx := hx.keepO hP30 E29 (by decide)
  have ks := all9 ks fun _ h => h.keepT hP30 E29 (by decide)
  have hb := hb.stepL E29 (fun k _ h => hL.wv k h)
  have hO40 : Own w28 0 98 2 pv D.length (((D.set (pos (kys D) k) ((D.getD (pos (kys D) k) default).1, (D.getD (pos (kys D) k) default).2.1, x))).flatMap cS) := by exact hO40.cast rfl (set_flat9 (f := cS) (d := default) cS_len (by omega) (by simp) rfl)
  refine reg_nil (hK20 _ _ (seq_any fun K41 hK41 => ?_))
  refine one_reg (op_assign rfl (op_assign rfl (op_assign rfl (reg_nil (hK41 _ _ (wp_ret (then_ret (then_ret ( ?_)))))))))
  refine retN (rs := [.tmp 4, .tmp 5, .tmp 6]) (vs := [(Value.bool true), (Value.slice none 0 0), (Value.pointer none)]) rfl hd ⟨(ev_hit hN rfl), ⟨(ev_hit hN rfl), ⟨(ev_hit hN rfl), trivial⟩⟩⟩ rfl ⟨_, rfl, ?_⟩
  exact ⟨hb, _, _, by rw [put_found c21]; rfl, out_small (congrArg Prod.snd (put_found c21)) (mkLeaf (D := (D.set (pos (kys D) k) ((D.getD (pos (kys D) k) default).1, (D.getD (pos (kys D) k) default).2.1, x))) (κ := kS) hx (hO40.cast (by simp) rfl) (ks_set ks (ks _ (ks_mem hpl))) (ks_set hL.kr (hL.kr _ (ks_mem hpl))) rfl) (newF_in (leafW_in (fun _ => hL.wp) (fun k _ h => hL.wv k h)))⟩
 · -- 21F
  rw [c21]
  refine op_move (ev_hit hN rfl) (reg_nil (hK19 _ _ (wp_cond_false (ev_hit hN rfl) ?_)))
  refine wp_skip ?_
  refine hK18 _ _ ?_
  have hpl := pos_leP (D := D) (x := k)
  refine reg_split (hd := [_, _, _, _, _, _, _, _, _]) (tl := _) 9 mixed (by kernel_rfl) rfl rfl ?_
  refine any_env (φ := phiV [(fun uz => uz = (ptr p 0)), (fun uz => uz = (ptr p 0)), (fun uz => uz = (ptr p 0)), (fun uz => uz = (ptr p 0)), (fun uz => uz = pv), (fun uz => uz = (Value.int .i64 (((pos (kys D) k) : Nat) : Int))), (fun uz => uz = (Value.agg #[kv, (Value.string (bs x))])), (fun _ => True), (fun _ => True)]) (G := fun w' => Bx w' p 93 [pv, (Value.slice none 0 0), (Value.slice none 0 0)] ∧ Bx w' b10 98 [kv, (Value.string (bs x))]) [7, 8] (by kernel_rfl) (by kernel_rfl) (by kernel_rfl) (by kernel_rfl) hN (fun w1 w2 E h => by obtain ⟨h0, h1⟩ := h; exact ⟨h0.keep0 E, h1.keep0 E⟩) ⟨hx, hB12⟩ (ObEs.cons ?_ (ObEs.cons ?_ (ObEs.cons ?_ (ObEs.cons ?_ (ObEs.cons ?_ (ObEs.cons ?_ (ObEs.cons ?_ (ObEs.pass rfl (ObEs.pass rfl (ObEs.nil)))))))))) (by simp only [putsL_defers]) ?_
  ·
   intro eA aA wA hNA hGA hbsA hdpA
   have qA_0 := (hbsA 0 rfl).trans (sl_base hN rfl s0)
   refine op_move (ev_base hNA rfl qA_0) ?_
   exact obE_end rfl rfl rfl
  ·
   intro eA aA wA hNA hGA hbsA hdpA
   have qA_0 := (hbsA 0 rfl).trans (sl_base hN rfl s0)
   refine op_move (ev_base hNA rfl qA_0) ?_
   exact obE_end rfl rfl rfl
  ·
   intro eA aA wA hNA hGA hbsA hdpA
   have qA_32 : Sl aA 32 (ptr p 0) := (hdpA 1 _ 32 (by kernel_rfl) rfl rfl).2 rfl
   refine op_nil (ev_base hNA rfl qA_32) ?_
   exact obE_end rfl rfl rfl
  ·
   intro eA aA wA hNA hGA hbsA hdpA
   have qA_33 : Sl aA 33 (ptr p 0) := (hdpA 2 _ 33 (by kernel_rfl) rfl rfl).2 rfl
   refine op_field fld93_0 (ev_base hNA rfl qA_33) ?_
   exact obE_end rfl rfl rfl
  ·
   intro eA aA wA hNA hGA hbsA hdpA
   have qA_34 : Sl aA 34 (ptr p 0) := (hdpA 3 _ 34 (by kernel_rfl) rfl rfl).2 rfl
   obtain ⟨hx, hB12⟩ := hGA
   refine op_load1 (v := pv) one89 (ev_base hNA rfl qA_34) (hx.cell rfl) ?_
   exact obE_end rfl rfl rfl
  ·
   intro eA aA wA hNA hGA hbsA hdpA
   have qA_7 := (hbsA 7 rfl).trans (sl_hit hN rfl)
   refine op_move (ev_base hNA rfl qA_7) ?_
   exact obE_end rfl rfl rfl
  ·
   intro eA aA wA hNA hGA hbsA hdpA
   have qA_3 := (hbsA 3 rfl).trans (sl_hit hN rfl)
   obtain ⟨hx, hB12⟩ := hGA
   refine op_loadA (cs := [kv, (Value.string (bs x))]) agg98 rfl (ev_base hNA rfl qA_3) (fun j u hu => by rw [Nat.zero_add]; exact hB12.cell hu) ?_
   exact obE_end rfl rfl rfl
  ·
   intro w42 E42 _ a42 hN42 hbs42 hdp42 o_ ho_; obtain rfl := Option.some.inj ho_
   have z_w42 := E42.size
   have hx := hx.keep0 E42
   have op := op.keep0 E42
   have ks := all9 ks fun _ h => h.keep0 E42
   have hk := hk.keep0 E42
   have hB12 := hB12.keep0 E42
   have hb := hb.step0 E42
   have q42_37 : Sl a42 37 (Value.agg #[kv, (Value.string (bs x))]) := (hdp42 6 _ 37 (by kernel_rfl) rfl rfl).2 rfl
   refine op_bslice (e := 98) (pv := [(0, (Value.agg #[kv, (Value.string (bs x))]))]) (cs := [kv, (Value.string (bs x))]) ⟨rfl, (ev_base hN42 rfl q42_37), trivial⟩ (by obtain ⟨_, _, _, rfl⟩ := hk.sl; kernel_rfl) ?_
   intro w43 b44 lo_b44 hi_b44 hB46 E45
   have ne_b44_pv : pv.ownBlock ≠ some b44 := fun hh => by have := (op.lt _ hh).2; omega
   have z_w43 := E45.size
   have hx := hx.keep0 E45
   have op := op.keep0 E45
   have ks := all9 ks fun _ h => h.keep0 E45
   have hk := hk.keep0 E45
   have hB12 := hB12.keep0 E45
   have hb := hb.step0 E45
   refine ke_end rfl (by decide) rfl ⟨hx, hB12⟩ ?_
   intro w47 E47 _ a47 hN47 hbs47 hdp47 o_ ho_; obtain rfl := Option.some.inj ho_
   have z_w47 := E47.size
   have hx := hx.keep0 E47
   have op := op.keep0 E47
   have ks := all9 ks fun _ h => h.keep0 E47
   have hk := hk.keep0 E47
   have hB12 := hB12.keep0 E47
   have hB46 := hB46.keep0 E47
   have hb := hb.step0 E47
   have q47_35 : Sl a47 35 pv := (hdp47 4 _ 35 (by kernel_rfl) rfl rfl).2 rfl
   have q47_36 : Sl a47 36 (Value.int .i64 (((pos (kys D) k) : Nat) : Int)) := (hdp47 5 _ 36 (by kernel_rfl) rfl rfl).2 rfl
   have q47_38 : Sl a47 38 (Value.slice (some ⟨b44, 0, none⟩) 1 1) := (Option.some.inj ((hdp47 7 _ 38 (by kernel_rfl) rfl rfl).1 0 rfl)).symm
   refine op_fn (vs := [pv, (Value.int .i64 (((pos (kys D) k) : Nat) : Int)), (Value.slice (some ⟨b44, 0, none⟩) 1 1)]) ok65 ⟨(ev_base hN47 rfl q47_35), ⟨(ev_base hN47 rfl q47_36), ⟨(ev_base hN47 rfl q47_38), trivial⟩⟩⟩ (InsS op hB46 (one_pS ks (fun _ h => h)) (by simp only [List.all_cons, List.all_nil, Bool.true_and, Bool.and_true, hk.one]; try rfl) (by first | omega | (simp only [List.length_insertIdx, List.length_set, List.length_drop, List.length_take]; omega) | (simp; omega)) (by first | omega | (simp only [List.length_insertIdx, List.length_set, List.length_drop, List.length_take]; omega) | (simp; omega)) ne_b44_pv) ?_
   rintro v48 w49 ⟨E50, hO48, hm48⟩
   have hin51 := inF_step (n := w.heap.size) hm48 (by omega) (fun k _ h => hL.wv k h)
   have z_w49 := E50.size
   have hx := hx.keepO op E50 (by decide)
   have ks := all9 ks fun _ h => h.keepT op E50 (by decide)
   have hk := hk.keepT op E50 (by decide)
   have hB12 := hB12.keep E50 (fun hh => ne_b10_pv hh.symm)
   have hb := hb.stepL E50 (fun k _ h => hL.wv k h)
   have hO48 : Own w49 0 98 2 v48 (D.insertIdx (pos (kys D) k) (kv, k, x)).length ((D.insertIdx (pos (kys D) k) (kv, k, x)).flatMap cS) := hO48.cast (by rw [List.length_insertIdx, if_pos (by first | omega | (simp only [List.length_insertIdx, List.length_set, List.length_drop, List.length_take]; omega) | (simp; omega))]) (flat_ins cS_len (kv, k, x) (by first | omega | (simp only [List.length_insertIdx, List.length_set, List.length_drop, List.length_take]; omega) | (simp; omega)))
   refine ke_end rfl (by decide) rfl ⟨hx, hB12⟩ ?_
   intro w52 E52 a52 hN52 hd52 hbs52 hph52
   have hd52 := hd52.trans ((by simp only [putsL_defers] : _ = _).trans hd)
   have z_w52 := E52.size
   have hx := hx.keep0 E52
   have ks := all9 ks fun _ h => h.keep0 E52
   have hk := hk.keep0 E52
   have hO48 := hO48.keep0 E52
   have hb := hb.step0 E52
   have s52_0 := (hbs52 0 rfl).trans (sl_base hN rfl s0)
   have s52_4 := (hbs52 4 rfl).trans (sl_hit hN rfl)
   have s52_31 : Sl a52 31 (ptr p 0) := (hph52 0 _ 31 rfl rfl).2 rfl
   have s52_39 : Sl a52 39 v48 := (Option.some.inj ((hph52 8 _ 39 rfl rfl).1 1 rfl)).symm
   refine split_end ?_
   refine from_seq (tl := [_, _, _]) (by decide) (by kernel_rfl) rfl ?_
   refine op_nil (ev_base hN52 rfl s52_31) (op_field fld93_0 (ev_hit hN52 rfl) ?_)
   have hx_old := hx
   refine op_store (vs := [v48]) (cs' := [v48, (Value.slice none 0 0), (Value.slice none 0 0)]) size89 (ev_hit hN52 rfl) (ev_base hN52 rfl s52_39) hO48.cl rfl (by simp only [List.all_cons, List.all_nil, Bool.true_and, Bool.and_true, hO48.one]; try rfl) hx (Nat.le_of_ble_eq_true rfl) rfl ?_
   intro w53 hx E54
   have z_w53 := E54.size
   have ks := all9 ks fun _ h => h.keepX hx_old E54 (by decide)
   have hk := hk.keepX hx_old E54 (by decide)
   have hO48 := hO48.keepX hx_old E54 (by decide)
   have hb := hb.stepB E54 hL.wp
   refine reg_nil (hK13 _ _ (seq_any fun K55 hK55 => one_reg ?_))
   have hl1 : (D.insertIdx (pos (kys D) k) (kv, k, x)).length = D.length + 1 := by rw [List.length_insertIdx, if_pos hpl]
   have ks56 : ∀ x9 ∈ ((D.insertIdx (pos (kys D) k) (kv, k, x)).map pk), Own w53 0 5 1 x9.1 x9.2.length (x9.2.map u8v) := ks_ins ks hk hpl
   refine op_move (ev_base hN52 rfl s52_0) ?_
   rcases Bool.eq_false_or_eq_true (decide ((D.insertIdx (pos (kys D) k) (kv, k, x)).length ≤ 6)) with k86 | k86
   · -- 86T
    refine op_fn (vs := [(ptr p 0)]) ok69 ⟨(ev_hit hN52 rfl), trivial⟩ (Ret.flip (halvesLsS hx hO48 (of_decide_eq_true k86))) ?_
    rintro _ _ ⟨rfl, rfl⟩
    refine op_move (ev_hit hN52 rfl) (op_extract (ev_hit hN52 rfl) rfl ?_)
    refine op_extract (ev_hit hN52 rfl) rfl ?_
    refine op_assign (ev_hit hN52 rfl) ?_
    refine op_assign (ev_hit hN52 rfl) ?_
    refine reg_nil ?_
    refine hK55 _ _ (seq_any fun K57 hK57 => one_reg (op_move (ev_base hN52 rfl s52_4) (op_move (ev_hit hN52 rfl) (op_move (ev_hit hN52 rfl) (op_assign (ev_hit hN52 rfl) ?_)))))
    refine op_assign (ev_hit hN52 rfl) ?_
    refine op_assign (ev_hit hN52 rfl) ?_
    refine reg_nil (hK57 _ _ (wp_ret ?_))
    refine retN (rs := [.tmp 4, .tmp 5, .tmp 6]) (vs := [(Value.bool false), (Value.slice none 0 0), (Value.pointer none)]) rfl hd52 ⟨(ev_hit hN52 rfl), ⟨(ev_hit hN52 rfl), ⟨(ev_hit hN52 rfl), trivial⟩⟩⟩ rfl ⟨_, rfl, ?_⟩
    exact ⟨hb, _, _, by rw [put_miss (kv := kv) c21 hpl]; rfl, out_small ((congrArg Prod.snd (put_miss (kv := kv) c21 hpl)).trans (congrArg Prod.snd (rfl : (true, halves 0 _) = (true, halves 0 _)) |>.trans (halves_small (by simpa using of_decide_eq_true k86)))) (mkLeaf (D := (D.insertIdx (pos (kys D) k) (kv, k, x))) (κ := kS) hx hO48 ks56 (kr_ins hL.kr hkr hpl) rfl) (newF_in (leafW_in (fun _ => hL.wp) hin51))⟩
   · -- 86F
    refine op_fn (vs := [(ptr p 0)]) ok69 ⟨(ev_hit hN52 rfl), trivial⟩ (halvesLbS hx hO48 ks56 (by have := of_decide_eq_false k86; omega) (by first | omega | (simp only [List.length_insertIdx, List.length_set, List.length_drop, List.length_take]; omega) | (simp; omega))) ?_
    rintro _ w59 ⟨E60, q58, qv58, rfl, hx58, op58, lo58, hB58, hO58⟩
    have E60 := E60.grown (row := some p) (fun k _ h => by rw [h])
    have hx_old := hx
    have hlt61 : ∀ j, leafW p (hiV v48 ((D.insertIdx (pos (kys D) k) (kv, k, x)).length - 3)) j → j < w53.heap.size := leafW_lt hx.lt (fun j h => (hO48.lt j ((hiV_ob _ _).symm.trans h)).2)
    have z_w59 := E60.size
    have ks56 := all9 ks56 fun _ h => h.keepX hx_old E60 (by decide)
    have hb := hb.stepB E60 hL.wp
    refine op_move (ev_hit hN52 rfl) (op_extract (ev_hit hN52 rfl) rfl ?_)
    refine op_extract (ev_hit hN52 rfl) rfl ?_
    refine op_assign (ev_hit hN52 rfl) ?_
    refine op_assign (ev_hit hN52 rfl) ?_
    refine reg_nil ?_
    refine hK55 _ _ (seq_any fun K62 hK62 => one_reg (op_move (ev_base hN52 rfl s52_4) (op_move (ev_hit hN52 rfl) (op_move (ev_hit hN52 rfl) (op_assign (ev_hit hN52 rfl) ?_)))))
    refine op_assign (ev_hit hN52 rfl) ?_
    refine op_assign (ev_hit hN52 rfl) ?_
    refine reg_nil (hK62 _ _ (wp_ret ?_))
    refine retN (rs := [.tmp 4, .tmp 5, .tmp 6]) (vs := [(Value.bool false), (((D.insertIdx (pos (kys D) k) (kv, k, x)).drop ((D.insertIdx (pos (kys D) k) (kv, k, x)).length - 3)).getD 0 default).1, (ptr q58 0)]) rfl hd52 ⟨(ev_hit hN52 rfl), ⟨(ev_hit hN52 rfl), ⟨(ev_hit hN52 rfl), trivial⟩⟩⟩ rfl ⟨_, rfl, ?_⟩
    exact ⟨hb, _, _, by rw [put_miss (kv := kv) c21 hpl]; rfl, out_big ((congrArg Prod.snd (put_miss (kv := kv) c21 hpl)).trans (halves_big (D := (D.insertIdx (pos (kys D) k) (kv, k, x))) (by have := of_decide_eq_false k86; omega))) (ks56 _ (drop_key (by omega))) ((kr_ins hL.kr hkr hpl) _ (drop_key (by omega))) (mkLeaf (D := (D.insertIdx (pos (kys D) k) (kv, k, x)).take ((D.insertIdx (pos (kys D) k) (kv, k, x)).length - 3)) (κ := kS) hx58 op58 (ks_sub ks56 (fun _ h => List.mem_of_mem_take h)) (ks_sub (kr_ins hL.kr hkr hpl) (fun _ h => List.mem_of_mem_take h)) rfl) (mkLeaf (D := (D.insertIdx (pos (kys D) k) (kv, k, x)).drop ((D.insertIdx (pos (kys D) k) (kv, k, x)).length - 3)) (κ := kS) hB58 hO58 (ks_sub ks56 (fun _ h => List.mem_of_mem_drop h)) (ks_sub (kr_ins hL.kr hkr hpl) (fun _ h => List.mem_of_mem_drop h)) rfl) (newF_in (leafW_in (fun _ => hL.wp) (inF_step (n := w.heap.size) (.inl (hiV_ob _ _)) (Nat.le_refl _) hin51))) (fun j hj => .inr (Nat.le_trans (by omega) ((leafW_fresh lo58 hO58) j hj))) (new_dj hlt61 (leafW_fresh lo58 hO58))⟩

theorem putLA {k : List UInt8} {kv : Value} {x : Int × Int} {R W : Nat → Prop} {p : Nat} {pv : Value} {D : List (DP (Int × Int))} {w : World} (hL : LeafR kA R w p pv D W) (hs : Sorted (kys D)) (hn : D.length ≤ 6) (hk : Own w 0 5 1 kv k.length (k.map u8v)) (hkr : ∀ j, Bl kv j → R j) : Ret Try.prog 43 #[(ptr p 0), (Value.agg #[kv, (Value.int .i64 x.1), (Value.int .i64 x.2)])] w (fun v' w' => Gr w w' W ∧ ∃ u m, v' = .tuple #[.bool (putT 0 k x ((D.map Prod.snd : List (Ky × (Int × Int))) : Tr (Int × Int) 0)).1, u, m] ∧ OutR kA R w' w.heap.size W 0 p (putT 0 k x ((D.map Prod.snd : List (Ky × (Int × Int))) : Tr (Int × Int) 0)).2 u m) := by
 have hx : Bx w p 105 [pv, .slice none 0 0, .slice none 0 0] := hL.bx
 have op : Own w 0 109 3 pv D.length (D.flatMap cA) := hL.op
 have ks := hL.ks
 have hi_p := hx.lt
 have hb := Gr.refl w W
 refine enter (N := 92) Try.func43 rfl rfl (by simp) fun a0 hN hd hA => ?_
 have s0 : a0.tmps.getD 0 undef = (ptr p 0) := hA 0 (by simp)
 have s1 : a0.tmps.getD 1 undef = (Value.agg #[kv, (Value.int .i64 x.1), (Value.int .i64 x.2)]) := hA 1 (by simp)
 clear hA
 refine seq_any fun K5 hK5 => one_reg (op_box (cs := [kv, (Value.int .i64 x.1), (Value.int .i64 x.2)]) (ev_base hN rfl s1) rfl ?_)
 intro w6 b10 lo_b10 hi_b10 hB12 E11
 have ne_b10_pv : pv.ownBlock ≠ some b10 := fun hh => by have := (op.lt _ hh).2; omega
 have z_w6 := E11.size
 have hx := hx.keep0 E11
 have op := op.keep0 E11
 have ks := all9 ks fun _ h => h.keep0 E11
 have hk := hk.keep0 E11
 have hb := hb.step0 E11
 refine op_assign rfl (op_assign rfl (op_assign rfl ?_))
 refine reg_nil (hK5 _ _ (seq_any fun K13 hK13 => seq_any fun K14 hK14 => one_reg (op_move (ev_base hN rfl s0) (op_fn (vs := [(ptr p 0)]) ok70 ⟨(ev_hit hN rfl), trivial⟩ (Ret.flip (leafLA hx op)) ?_))))
 rintro _ _ ⟨rfl, rfl⟩
 refine reg_nil (hK14 _ _ (wp_cond_true (ev_hit hN rfl) ?_))
 refine seq_any fun K15 hK15 => one_reg (op_move (ev_base hN rfl s0) (op_field fld109_0 (ev_hit hN rfl) (op_load1 (v := kv) one27 (ev_hit hN rfl) (hB12.cell rfl) (op_fn (vs := [(ptr p 0), kv]) ok71 ⟨(ev_hit hN rfl), ⟨(ev_hit hN rfl), trivial⟩⟩ (findA hx op ks hs (by omega) (hk.rdw.mono (Nat.zero_le _) (by omega))) ?_))))
 rintro _ w16 ⟨E17, rfl⟩
 have E17 := grown_of_below E17
 have z_w16 := E17.size
 have hx := hx.keep0 E17
 have op := op.keep0 E17
 have ks := all9 ks fun _ h => h.keep0 E17
 have hk := hk.keep0 E17
 have hB12 := hB12.keep0 E17
 have hb := hb.step0 E17
 refine op_move (ev_hit hN rfl) (op_extract (ev_hit hN rfl) rfl ?_)
 refine op_extract (ev_hit hN rfl) rfl ?_
 refine op_assign (ev_hit hN rfl) ?_
 refine op_assign (ev_hit hN rfl) ?_
 refine reg_nil (hK15 _ _ (seq_any fun K18 hK18 => seq_any fun K19 hK19 => one_reg ?_))
 rcases Bool.eq_false_or_eq_true (((kys D).contains k)) with c21 | c21
 · -- 21T
  rw [c21]
  refine op_move (ev_hit hN rfl) (reg_nil (hK19 _ _ (wp_cond_true (ev_hit hN rfl) ?_)))
  refine seq_any fun K20 hK20 => reg_from mixed ?_
  intro w23 E22
  have z_w23 := E22.size
  have hx := hx.keep0 E22
  have op := op.keep0 E22
  have ks := all9 ks fun _ h => h.keep0 E22
  have hB12 := hB12.keep0 E22
  have hb := hb.step0 E22
  refine from_still (m := 9) 9 (hd := [_, _, _, _, _, _, _, _, _]) (by kernel_rfl) rfl rfl ?_
  have hpl := pos_ltP hs c21
  refine st_step rfl (fun _ h9 => op_move (ev_base hN rfl s0) h9) ?_
  refine st_step rfl (fun _ h9 => op_nil (ev_hit hN rfl) h9) ?_
  refine st_step rfl (fun _ h9 => op_field fld105_0 (ev_hit hN rfl) h9) ?_
  refine st_step rfl (fun _ h9 => op_load1 (v := pv) one102 (ev_hit hN rfl) (hx.cell rfl) h9) ?_
  refine st_step rfl (fun _ h9 => op_move (ev_hit hN rfl) h9) ?_
  refine st_step rfl (fun _ h9 => op_field fld109_1 (ev_hit hN rfl) h9) ?_
  refine st_step rfl (fun _ h9 => op_loadA (cs := [(Value.int .i64 x.1), (Value.int .i64 x.2)]) agg36 rfl (ev_hit hN rfl) (fun j u hu => hB12.cell (at_pre9 (pre := [kv]) (suf := []) hu)) h9) ?_
  refine st_index_own (i := ((pos (kys D) k))) slt102 (ev_hit hN rfl) op (ev_hit hN rfl) (by omega) (by omega) ?_
  intro b24 o25 lo_b24 hA26
  refine st_step rfl (fun _ h9 => op_field fld109_1 (ev_hit hN rfl) h9) ?_
  refine st_nil ?_
  refine from_seq (tl := [_]) (by decide) (by kernel_rfl) rfl ?_
  have hP30 := op
  refine op_store_own (vs := [(Value.int .i64 x.1), (Value.int .i64 x.2)]) size36 (ev_hit hN rfl) (ev_hit hN rfl) rfl rfl rfl hP30 (hA26.fld 1) (by have := hP30.1; simp at this ⊢; omega) ?_
  intro w28 hO40 E29
  have z_w28 := E29.size
  have hx := hx.keepO hP30 E29 (by decide)
  have ks := all9 ks fun _ h => h.keepT hP30 E29 (by decide)
  have hb := hb.stepL E29 (fun k _ h => hL.wv k h)
  have hO40 : Own w28 0 109 3 pv D.length (((D.set (pos (kys D) k) ((D.getD (pos (kys D) k) default).1, (D.getD (pos (kys D) k) default).2.1, x))).flatMap cA) := by exact hO40.cast rfl (set_flat9 (f := cA) (d := default) cA_len (by omega) (by simp) rfl)
  refine reg_nil (hK20 _ _ (seq_any fun K41 hK41 => ?_))
  refine one_reg (op_assign rfl (op_assign rfl (op_assign rfl (reg_nil (hK41 _ _ (wp_ret (then_ret (then_ret ( ?_)))))))))
  refine retN (rs := [.tmp 4, .tmp 5, .tmp 6]) (vs := [(Value.bool true), (Value.slice none 0 0), (Value.pointer none)]) rfl hd ⟨(ev_hit hN rfl), ⟨(ev_hit hN rfl), ⟨(ev_hit hN rfl), trivial⟩⟩⟩ rfl ⟨_, rfl, ?_⟩
  exact ⟨hb, _, _, by rw [put_found c21]; rfl, out_small (congrArg Prod.snd (put_found c21)) (mkLeaf (D := (D.set (pos (kys D) k) ((D.getD (pos (kys D) k) default).1, (D.getD (pos (kys D) k) default).2.1, x))) (κ := kA) hx (hO40.cast (by simp) rfl) (ks_set ks (ks _ (ks_mem hpl))) (ks_set hL.kr (hL.kr _ (ks_mem hpl))) rfl) (newF_in (leafW_in (fun _ => hL.wp) (fun k _ h => hL.wv k h)))⟩
 · -- 21F
  rw [c21]
  refine op_move (ev_hit hN rfl) (reg_nil (hK19 _ _ (wp_cond_false (ev_hit hN rfl) ?_)))
  refine wp_skip ?_
  refine hK18 _ _ ?_
  have hpl := pos_leP (D := D) (x := k)
  refine reg_split (hd := [_, _, _, _, _, _, _, _, _]) (tl := _) 9 mixed (by kernel_rfl) rfl rfl ?_
  refine any_env (φ := phiV [(fun uz => uz = (ptr p 0)), (fun uz => uz = (ptr p 0)), (fun uz => uz = (ptr p 0)), (fun uz => uz = (ptr p 0)), (fun uz => uz = pv), (fun uz => uz = (Value.int .i64 (((pos (kys D) k) : Nat) : Int))), (fun uz => uz = (Value.agg #[kv, (Value.int .i64 x.1), (Value.int .i64 x.2)])), (fun _ => True), (fun _ => True)]) (G := fun w' => Bx w' p 105 [pv, (Value.slice none 0 0), (Value.slice none 0 0)] ∧ Bx w' b10 109 [kv, (Value.int .i64 x.1), (Value.int .i64 x.2)]) [7, 8] (by kernel_rfl) (by kernel_rfl) (by kernel_rfl) (by kernel_rfl) hN (fun w1 w2 E h => by obtain ⟨h0, h1⟩ := h; exact ⟨h0.keep0 E, h1.keep0 E⟩) ⟨hx, hB12⟩ (ObEs.cons ?_ (ObEs.cons ?_ (ObEs.cons ?_ (ObEs.cons ?_ (ObEs.cons ?_ (ObEs.cons ?_ (ObEs.cons ?_ (ObEs.pass rfl (ObEs.pass rfl (ObEs.nil)))))))))) (by simp only [putsL_defers]) ?_
  ·
   intro eA aA wA hNA hGA hbsA hdpA
   have qA_0 := (hbsA 0 rfl).trans (sl_base hN rfl s0)
   refine op_move (ev_base hNA rfl qA_0) ?_
   exact obE_end rfl rfl rfl
  ·
   intro eA aA wA hNA hGA hbsA hdpA
   have qA_0 := (hbsA 0 rfl).trans (sl_base hN rfl s0)
   refine op_move (ev_base hNA rfl qA_0) ?_
   exact obE_end rfl rfl rfl
  ·
   intro eA aA wA hNA hGA hbsA hdpA
   have qA_32 : Sl aA 32 (ptr p 0) := (hdpA 1 _ 32 (by kernel_rfl) rfl rfl).2 rfl
   refine op_nil (ev_base hNA rfl qA_32) ?_
   exact obE_end rfl rfl rfl
  ·
   intro eA aA wA hNA hGA hbsA hdpA
   have qA_33 : Sl aA 33 (ptr p 0) := (hdpA 2 _ 33 (by kernel_rfl) rfl rfl).2 rfl
   refine op_field fld105_0 (ev_base hNA rfl qA_33) ?_
   exact obE_end rfl rfl rfl
  ·
   intro eA aA wA hNA hGA hbsA hdpA
   have qA_34 : Sl aA 34 (ptr p 0) := (hdpA 3 _ 34 (by kernel_rfl) rfl rfl).2 rfl
   obtain ⟨hx, hB12⟩ := hGA
   refine op_load1 (v := pv) one102 (ev_base hNA rfl qA_34) (hx.cell rfl) ?_
   exact obE_end rfl rfl rfl
  ·
   intro eA aA wA hNA hGA hbsA hdpA
   have qA_7 := (hbsA 7 rfl).trans (sl_hit hN rfl)
   refine op_move (ev_base hNA rfl qA_7) ?_
   exact obE_end rfl rfl rfl
  ·
   intro eA aA wA hNA hGA hbsA hdpA
   have qA_3 := (hbsA 3 rfl).trans (sl_hit hN rfl)
   obtain ⟨hx, hB12⟩ := hGA
   refine op_loadA (cs := [kv, (Value.int .i64 x.1), (Value.int .i64 x.2)]) agg109 rfl (ev_base hNA rfl qA_3) (fun j u hu => by rw [Nat.zero_add]; exact hB12.cell hu) ?_
   exact obE_end rfl rfl rfl
  ·
   intro w42 E42 _ a42 hN42 hbs42 hdp42 o_ ho_; obtain rfl := Option.some.inj ho_
   have z_w42 := E42.size
   have hx := hx.keep0 E42
   have op := op.keep0 E42
   have ks := all9 ks fun _ h => h.keep0 E42
   have hk := hk.keep0 E42
   have hB12 := hB12.keep0 E42
   have hb := hb.step0 E42
   have q42_37 : Sl a42 37 (Value.agg #[kv, (Value.int .i64 x.1), (Value.int .i64 x.2)]) := (hdp42 6 _ 37 (by kernel_rfl) rfl rfl).2 rfl
   refine op_bslice (e := 109) (pv := [(0, (Value.agg #[kv, (Value.int .i64 x.1), (Value.int .i64 x.2)]))]) (cs := [kv, (Value.int .i64 x.1), (Value.int .i64 x.2)]) ⟨rfl, (ev_base hN42 rfl q42_37), trivial⟩ (by obtain ⟨_, _, _, rfl⟩ := hk.sl; kernel_rfl) ?_
   intro w43 b44 lo_b44 hi_b44 hB46 E45
   have ne_b44_pv : pv.ownBlock ≠ some b44 := fun hh => by have := (op.lt _ hh).2; omega
   have z_w43 := E45.size
   have hx := hx.keep0 E45
   have op := op.keep0 E45
   have ks := all9 ks fun _ h => h.keep0 E45
   have hk := hk.keep0 E45
   have hB12 := hB12.keep0 E45
   have hb := hb.step0 E45
   refine ke_end rfl (by decide) rfl ⟨hx, hB12⟩ ?_
   intro w47 E47 _ a47 hN47 hbs47 hdp47 o_ ho_; obtain rfl := Option.some.inj ho_
   have z_w47 := E47.size
   have hx := hx.keep0 E47
   have op := op.keep0 E47
   have ks := all9 ks fun _ h => h.keep0 E47
   have hk := hk.keep0 E47
   have hB12 := hB12.keep0 E47
   have hB46 := hB46.keep0 E47
   have hb := hb.step0 E47
   have q47_35 : Sl a47 35 pv := (hdp47 4 _ 35 (by kernel_rfl) rfl rfl).2 rfl
   have q47_36 : Sl a47 36 (Value.int .i64 (((pos (kys D) k) : Nat) : Int)) := (hdp47 5 _ 36 (by kernel_rfl) rfl rfl).2 rfl
   have q47_38 : Sl a47 38 (Value.slice (some ⟨b44, 0, none⟩) 1 1) := (Option.some.inj ((hdp47 7 _ 38 (by kernel_rfl) rfl rfl).1 0 rfl)).symm
   refine op_fn (vs := [pv, (Value.int .i64 (((pos (kys D) k) : Nat) : Int)), (Value.slice (some ⟨b44, 0, none⟩) 1 1)]) ok72 ⟨(ev_base hN47 rfl q47_35), ⟨(ev_base hN47 rfl q47_36), ⟨(ev_base hN47 rfl q47_38), trivial⟩⟩⟩ (InsA op hB46 (one_pA ks (fun _ h => h)) (by simp only [List.all_cons, List.all_nil, Bool.true_and, Bool.and_true, hk.one]; try rfl) (by first | omega | (simp only [List.length_insertIdx, List.length_set, List.length_drop, List.length_take]; omega) | (simp; omega)) (by first | omega | (simp only [List.length_insertIdx, List.length_set, List.length_drop, List.length_take]; omega) | (simp; omega)) ne_b44_pv) ?_
   rintro v48 w49 ⟨E50, hO48, hm48⟩
   have hin51 := inF_step (n := w.heap.size) hm48 (by omega) (fun k _ h => hL.wv k h)
   have z_w49 := E50.size
   have hx := hx.keepO op E50 (by decide)
   have ks := all9 ks fun _ h => h.keepT op E50 (by decide)
   have hk := hk.keepT op E50 (by decide)
   have hB12 := hB12.keep E50 (fun hh => ne_b10_pv hh.symm)
   have hb := hb.stepL E50 (fun k _ h => hL.wv k h)
   have hO48 : Own w49 0 109 3 v48 (D.insertIdx (pos (kys D) k) (kv, k, x)).length ((D.insertIdx (pos (kys D) k) (kv, k, x)).flatMap cA) := hO48.cast (by rw [List.length_insertIdx, if_pos (by first | omega | (simp only [List.length_insertIdx, List.length_set, List.length_drop, List.length_take]; omega) | (simp; omega))]) (flat_ins cA_len (kv, k, x) (by first | omega | (simp only [List.length_insertIdx, List.length_set, List.length_drop, List.length_take]; omega) | (simp; omega)))
   refine ke_end rfl (by decide) rfl ⟨hx, hB12⟩ ?_
   intro w52 E52 a52 hN52 hd52 hbs52 hph52
   have hd52 := hd52.trans ((by simp only [putsL_defers] : _ = _).trans hd)
   have z_w52 := E52.size
   have hx := hx.keep0 E52
   have ks := all9 ks fun _ h => h.keep0 E52
   have hk := hk.keep0 E52
   have hO48 := hO48.keep0 E52
   have hb := hb.step0 E52
   have s52_0 := (hbs52 0 rfl).trans (sl_base hN rfl s0)
   have s52_4 := (hbs52 4 rfl).trans (sl_hit hN rfl)
   have s52_31 : Sl a52 31 (ptr p 0) := (hph52 0 _ 31 rfl rfl).2 rfl
   have s52_39 : Sl a52 39 v48 := (Option.some.inj ((hph52 8 _ 39 rfl rfl).1 1 rfl)).symm
   refine split_end ?_
   refine from_seq (tl := [_, _, _]) (by decide) (by kernel_rfl) rfl ?_
   refine op_nil (ev_base hN52 rfl s52_31) (op_field fld105_0 (ev_hit hN52 rfl) ?_)
   have hx_old := hx
   refine op_store (vs := [v48]) (cs' := [v48, (Value.slice none 0 0), (Value.slice none 0 0)]) size102 (ev_hit hN52 rfl) (ev_base hN52 rfl s52_39) hO48.cl rfl (by simp only [List.all_cons, List.all_nil, Bool.true_and, Bool.and_true, hO48.one]; try rfl) hx (Nat.le_of_ble_eq_true rfl) rfl ?_
   intro w53 hx E54
   have z_w53 := E54.size
   have ks := all9 ks fun _ h => h.keepX hx_old E54 (by decide)
   have hk := hk.keepX hx_old E54 (by decide)
   have hO48 := hO48.keepX hx_old E54 (by decide)
   have hb := hb.stepB E54 hL.wp
   refine reg_nil (hK13 _ _ (seq_any fun K55 hK55 => one_reg ?_))
   have hl1 : (D.insertIdx (pos (kys D) k) (kv, k, x)).length = D.length + 1 := by rw [List.length_insertIdx, if_pos hpl]
   have ks56 : ∀ x9 ∈ ((D.insertIdx (pos (kys D) k) (kv, k, x)).map pk), Own w53 0 5 1 x9.1 x9.2.length (x9.2.map u8v) := ks_ins ks hk hpl
   refine op_move (ev_base hN52 rfl s52_0) ?_
   rcases Bool.eq_false_or_eq_true (decide ((D.insertIdx (pos (kys D) k) (kv, k, x)).length ≤ 6)) with k86 | k86
   · -- 86T
    refine op_fn (vs := [(ptr p 0)]) ok75 ⟨(ev_hit hN52 rfl), trivial⟩ (Ret.flip (halvesLsA hx hO48 (of_decide_eq_true k86))) ?_
    rintro _ _ ⟨rfl, rfl⟩
    refine op_move (ev_hit hN52 rfl) (op_extract (ev_hit hN52 rfl) rfl ?_)
    refine op_extract (ev_hit hN52 rfl) rfl ?_
    refine op_assign (ev_hit hN52 rfl) ?_
    refine op_assign (ev_hit hN52 rfl) ?_
    refine reg_nil ?_
    refine hK55 _ _ (seq_any fun K57 hK57 => one_reg (op_move (ev_base hN52 rfl s52_4) (op_move (ev_hit hN52 rfl) (op_move (ev_hit hN52 rfl) (op_assign (ev_hit hN52 rfl) ?_)))))
    refine op_assign (ev_hit hN52 rfl) ?_
    refine op_assign (ev_hit hN52 rfl) ?_
    refine reg_nil (hK57 _ _ (wp_ret ?_))
    refine retN (rs := [.tmp 4, .tmp 5, .tmp 6]) (vs := [(Value.bool false), (Value.slice none 0 0), (Value.pointer none)]) rfl hd52 ⟨(ev_hit hN52 rfl), ⟨(ev_hit hN52 rfl), ⟨(ev_hit hN52 rfl), trivial⟩⟩⟩ rfl ⟨_, rfl, ?_⟩
    exact ⟨hb, _, _, by rw [put_miss (kv := kv) c21 hpl]; rfl, out_small ((congrArg Prod.snd (put_miss (kv := kv) c21 hpl)).trans (congrArg Prod.snd (rfl : (true, halves 0 _) = (true, halves 0 _)) |>.trans (halves_small (by simpa using of_decide_eq_true k86)))) (mkLeaf (D := (D.insertIdx (pos (kys D) k) (kv, k, x))) (κ := kA) hx hO48 ks56 (kr_ins hL.kr hkr hpl) rfl) (newF_in (leafW_in (fun _ => hL.wp) hin51))⟩
   · -- 86F
    refine op_fn (vs := [(ptr p 0)]) ok75 ⟨(ev_hit hN52 rfl), trivial⟩ (halvesLbA hx hO48 ks56 (by have := of_decide_eq_false k86; omega) (by first | omega | (simp only [List.length_insertIdx, List.length_set, List.length_drop, List.length_take]; omega) | (simp; omega))) ?_
    rintro _ w59 ⟨E60, q58, qv58, rfl, hx58, op58, lo58, hB58, hO58⟩
    have E60 := E60.grown (row := some p) (fun k _ h => by rw [h])
    have hx_old := hx
    have hlt61 : ∀ j, leafW p (hiV v48 ((D.insertIdx (pos (kys D) k) (kv, k, x)).length - 3)) j → j < w53.heap.size := leafW_lt hx.lt (fun j h => (hO48.lt j ((hiV_ob _ _).symm.trans h)).2)
    have z_w59 := E60.size
    have ks56 := all9 ks56 fun _ h => h.keepX hx_old E60 (by decide)
    have hb := hb.stepB E60 hL.wp
    refine op_move (ev_hit hN52 rfl) (op_extract (ev_hit hN52 rfl) rfl ?_)
    refine op_extract (ev_hit hN52 rfl) rfl ?_
    refine op_assign (ev_hit hN52 rfl) ?_
    refine op_assign (ev_hit hN52 rfl) ?_
    refine reg_nil ?_
    refine hK55 _ _ (seq_any fun K62 hK62 => one_reg (op_move (ev_base hN52 rfl s52_4) (op_move (ev_hit hN52 rfl) (op_move (ev_hit hN52 rfl) (op_assign (ev_hit hN52 rfl) ?_)))))
    refine op_assign (ev_hit hN52 rfl) ?_
    refine op_assign (ev_hit hN52 rfl) ?_
    refine reg_nil (hK62 _ _ (wp_ret ?_))
    refine retN (rs := [.tmp 4, .tmp 5, .tmp 6]) (vs := [(Value.bool false), (((D.insertIdx (pos (kys D) k) (kv, k, x)).drop ((D.insertIdx (pos (kys D) k) (kv, k, x)).length - 3)).getD 0 default).1, (ptr q58 0)]) rfl hd52 ⟨(ev_hit hN52 rfl), ⟨(ev_hit hN52 rfl), ⟨(ev_hit hN52 rfl), trivial⟩⟩⟩ rfl ⟨_, rfl, ?_⟩
    exact ⟨hb, _, _, by rw [put_miss (kv := kv) c21 hpl]; rfl, out_big ((congrArg Prod.snd (put_miss (kv := kv) c21 hpl)).trans (halves_big (D := (D.insertIdx (pos (kys D) k) (kv, k, x))) (by have := of_decide_eq_false k86; omega))) (ks56 _ (drop_key (by omega))) ((kr_ins hL.kr hkr hpl) _ (drop_key (by omega))) (mkLeaf (D := (D.insertIdx (pos (kys D) k) (kv, k, x)).take ((D.insertIdx (pos (kys D) k) (kv, k, x)).length - 3)) (κ := kA) hx58 op58 (ks_sub ks56 (fun _ h => List.mem_of_mem_take h)) (ks_sub (kr_ins hL.kr hkr hpl) (fun _ h => List.mem_of_mem_take h)) rfl) (mkLeaf (D := (D.insertIdx (pos (kys D) k) (kv, k, x)).drop ((D.insertIdx (pos (kys D) k) (kv, k, x)).length - 3)) (κ := kA) hB58 hO58 (ks_sub ks56 (fun _ h => List.mem_of_mem_drop h)) (ks_sub (kr_ins hL.kr hkr hpl) (fun _ h => List.mem_of_mem_drop h)) rfl) (newF_in (leafW_in (fun _ => hL.wp) (inF_step (n := w.heap.size) (.inl (hiV_ob _ _)) (Nat.le_refl _) hin51))) (fun j hj => .inr (Nat.le_trans (by omega) ((leafW_fresh lo58 hO58) j hj))) (new_dj hlt61 (leafW_fresh lo58 hO58))⟩

end Go.Proofs.Ytcpfdfejojghbaa
