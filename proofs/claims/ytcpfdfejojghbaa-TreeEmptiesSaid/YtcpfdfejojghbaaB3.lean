/- Walks, written by a program: what each function of the translation hands back. -/
import Derived.Test.YtcpfdfejojghbaaB2
namespace Go.Proofs.Ytcpfdfejojghbaa
open Go.Gx Go.RowKit
attribute [local irreducible] wpList wpStill Code.wp Calls
open Go.Bt
theorem halvesLsI {p : Nat} {pv : Value} {D : List (DP (Int))} {w : World} (hx : Bx w p 115 [pv, .slice none 0 0, .slice none 0 0]) (op : Own w 0 51 2 pv D.length (D.flatMap cI)) (h6 : D.length ≤ 6) : Ret Try.prog 86 #[(ptr p 0)] w (fun v' w' => v' = .tuple #[.slice none 0 0, .pointer none] ∧ w' = w) := by
 have hb := Below.refl w.heap.size w
 refine enter (N := 104) Try.func86 rfl rfl (by simp) fun a0 hN hd hA => ?_
 have s0 : a0.tmps.getD 0 undef = (ptr p 0) := hA 0 (by simp)
 clear hA
 refine seq_any fun K1549 hK1549 => ?_
 refine one_reg ?_
 refine op_assign rfl ?_
 refine op_assign rfl ?_
 refine reg_nil ?_
 refine hK1549 _ _ ?_
 refine seq_any fun K1550 hK1550 => ?_
 refine seq_any fun K1551 hK1551 => ?_
 refine one_reg ?_
 refine op_move (ev_base hN rfl s0) ?_
 refine op_fn (vs := [(ptr p 0)]) ok52 ⟨(ev_hit hN rfl), trivial⟩ (Ret.flip (sizeLI hx op)) ?_
 rintro _ _ ⟨rfl, rfl⟩
 refine op_leq (ev_hit hN rfl) rfl (fun c10 => ?_) (fun c10 => ?_)
 · -- 10T
  refine reg_nil ?_
  refine hK1551 _ _ ?_
  refine wp_cond_true (ev_hit hN rfl) ?_
  refine seq_any fun K1552 hK1552 => ?_
  refine one_reg ?_
  refine op_assign rfl ?_
  refine op_assign rfl ?_
  refine reg_nil ?_
  refine hK1552 _ _ ?_
  refine wp_ret (then_ret ( ?_))
  refine ret2 rfl hd (ev_hit hN rfl) (ev_hit hN rfl) ⟨_, rfl, ?_⟩
  -- path 10T
  exact ⟨rfl, rfl⟩
 · -- 10F
  exfalso; omega

theorem halvesNsI {p : Nat} {kv cv : Value} {K : List DK} {P : List Nat} {w : World} (hx : Bx w p 115 [.slice none 0 0, kv, cv]) (ok : Own w 0 27 1 kv K.length (K.flatMap cK)) (oc : Own w 0 69 1 cv P.length (P.flatMap cN)) (hP : P.length = K.length + 1) (h6 : K.length ≤ 6) : Ret Try.prog 86 #[(ptr p 0)] w (fun v' w' => v' = .tuple #[.slice none 0 0, .pointer none] ∧ w' = w) := by
 have hb := Below.refl w.heap.size w
 refine enter (N := 104) Try.func86 rfl rfl (by simp) fun a0 hN hd hA => ?_
 have s0 : a0.tmps.getD 0 undef = (ptr p 0) := hA 0 (by simp)
 clear hA
 refine seq_any fun K1553 hK1553 => ?_
 refine one_reg ?_
 refine op_assign rfl ?_
 refine op_assign rfl ?_
 refine reg_nil ?_
 refine hK1553 _ _ ?_
 refine seq_any fun K1554 hK1554 => ?_
 refine seq_any fun K1555 hK1555 => ?_
 refine one_reg ?_
 refine op_move (ev_base hN rfl s0) ?_
 refine op_fn (vs := [(ptr p 0)]) ok52 ⟨(ev_hit hN rfl), trivial⟩ (Ret.flip (sizeNI hx ok oc (by omega) (by omega))) ?_
 rintro _ _ ⟨rfl, rfl⟩
 refine op_leq (ev_hit hN rfl) rfl (fun c10 => ?_) (fun c10 => ?_)
 · -- 10T
  refine reg_nil ?_
  refine hK1555 _ _ ?_
  refine wp_cond_true (ev_hit hN rfl) ?_
  refine seq_any fun K1556 hK1556 => ?_
  refine one_reg ?_
  refine op_assign rfl ?_
  refine op_assign rfl ?_
  refine reg_nil ?_
  refine hK1556 _ _ ?_
  refine wp_ret (then_ret ( ?_))
  refine ret2 rfl hd (ev_hit hN rfl) (ev_hit hN rfl) ⟨_, rfl, ?_⟩
  -- path 10T
  exact ⟨rfl, rfl⟩
 · -- 10F
  exfalso; omega

theorem halvesLbI {p : Nat} {pv : Value} {D : List (DP (Int))} {w : World} (hx : Bx w p 115 [pv, .slice none 0 0, .slice none 0 0]) (op : Own w 0 51 2 pv D.length (D.flatMap cI)) (ks : ∀ x9 ∈ D.map pk, Own w 0 5 1 x9.1 x9.2.length (x9.2.map u8v)) (h6 : 6 < D.length) (hn : D.length ≤ 1000) : Ret Try.prog 86 #[(ptr p 0)] w (fun v' w' => Gr w w' (fun y => y = p) ∧ ∃ q qv, v' = .tuple #[((D.drop (D.length - 3)).getD 0 default).1, ptr q 0] ∧ Bx w' p 115 [hiV pv (D.length - 3), .slice none 0 0, .slice none 0 0] ∧ Own w' 0 51 2 (hiV pv (D.length - 3)) (D.take (D.length - 3)).length ((D.take (D.length - 3)).flatMap cI) ∧ w.heap.size ≤ q ∧ Bx w' q 115 [qv, .slice none 0 0, .slice none 0 0] ∧ Own w' w.heap.size 51 2 qv (D.drop (D.length - 3)).length ((D.drop (D.length - 3)).flatMap cI)) := by
 have hi_p := hx.lt
 obtain ⟨cp, hcp1, hcp2, hcp3⟩ := op.cap
 have hb := Gr.refl w (fun y => y = p)
 refine enter (N := 104) Try.func86 rfl rfl (by simp) fun a0 hN hd hA => ?_
 have s0 : a0.tmps.getD 0 undef = (ptr p 0) := hA 0 (by simp)
 clear hA
 refine seq_any fun K1557 hK1557 => ?_
 refine one_reg ?_
 refine op_assign rfl ?_
 refine op_assign rfl ?_
 refine reg_nil ?_
 refine hK1557 _ _ ?_
 refine seq_any fun K1558 hK1558 => ?_
 refine seq_any fun K1559 hK1559 => ?_
 refine one_reg ?_
 refine op_move (ev_base hN rfl s0) ?_
 refine op_fn (vs := [(ptr p 0)]) ok52 ⟨(ev_hit hN rfl), trivial⟩ (Ret.flip (sizeLI hx op)) ?_
 rintro _ _ ⟨rfl, rfl⟩
 refine op_leq (ev_hit hN rfl) rfl (fun c10 => ?_) (fun c10 => ?_)
 · -- 10T
  exfalso; omega
 · -- 10F
  refine reg_nil ?_
  refine hK1559 _ _ ?_
  refine wp_cond_false (ev_hit hN rfl) ?_
  refine wp_skip ?_
  refine hK1558 _ _ ?_
  refine seq_any fun K1560 hK1560 => ?_
  refine one_reg ?_
  refine op_build (pv := []) (v := (Value.agg #[(Value.slice none 0 0), (Value.slice none 0 0), (Value.slice none 0 0)])) trivial (by kernel_rfl) ?_
  refine op_box (cs := [(Value.slice none 0 0), (Value.slice none 0 0), (Value.slice none 0 0)]) (ev_hit hN rfl) rfl ?_
  intro w1561 b1562 lo_b1562 hi_b1562 hB1564 E1563
  have z_w1561 := E1563.size
  have hx := hx.keep0 E1563
  have op := op.keep0 E1563
  have ks : ∀ x9 ∈ (D.map pk), Own w1561 0 5 1 x9.1 x9.2.length (x9.2.map u8v) := fun x9 hx9 => (ks x9 hx9).keep0 E1563
  have hb := hb.step0 E1563
  refine op_assign (ev_hit hN rfl) ?_
  refine reg_nil ?_
  refine hK1560 _ _ ?_
  refine seq_any fun K1565 hK1565 => ?_
  refine seq_any fun K1566 hK1566 => ?_
  refine one_reg ?_
  refine op_move (ev_base hN rfl s0) ?_
  refine op_fn (vs := [(ptr p 0)]) ok81 ⟨(ev_hit hN rfl), trivial⟩ (Ret.flip (leafLI hx op)) ?_
  rintro _ _ ⟨rfl, rfl⟩
  refine reg_nil ?_
  refine hK1566 _ _ ?_
  refine wp_cond_true (ev_hit hN rfl) ?_
  refine seq_any fun K1567 hK1567 => ?_
  refine one_reg ?_
  refine op_move (ev_base hN rfl s0) ?_
  refine op_nil (ev_hit hN rfl) ?_
  refine op_field fld115_0 (ev_hit hN rfl) ?_
  refine op_load1 (v := pv) one48 (ev_hit hN rfl) (hx.cell rfl) ?_
  refine op_len_rd Try.underlying48 (ev_hit hN rfl) op.rdw ?_
  refine op_sub (r := ((D.length - 3 : Nat) : Int)) (ev_hit hN rfl) rfl ((sub64 (by omega)).trans (by omega)) ?_
  refine op_assign (ev_hit hN rfl) ?_
  refine reg_nil ?_
  refine hK1567 _ _ ?_
  refine seq_any fun K1568 hK1568 => ?_
  refine one_reg ?_
  refine op_move (ev_hit hN rfl) ?_
  refine op_move (ev_base hN rfl s0) ?_
  refine op_nil (ev_hit hN rfl) ?_
  refine op_field fld115_0 (ev_hit hN rfl) ?_
  refine op_load1 (v := pv) one48 (ev_hit hN rfl) (hx.cell rfl) ?_
  refine op_move (ev_hit hN rfl) ?_
  refine op_slice_cutS (k := (D.length - 3)) slt48 (ev_hit hN rfl) op (ev_hit hN rfl) (by omega) (by omega) ?_
  refine op_fn (vs := [(cutS 2 pv (D.length - 3))]) ok89 ⟨(ev_hit hN rfl), trivial⟩ (clPI (RdC.mono (((op.cutO (k := (D.length - 3)) (by omega)).rdw).cast (by simp) (flat_drop cI_len _ _)) (Nat.zero_le _) (Nat.le_refl _)) (by simp; omega) (one_pI ks (fun _ h => List.mem_of_mem_drop h))) ?_
  rintro v1569 w1570 ⟨E1571, hO1569⟩
  have dj1572 : DJ v1569 pv := fun k hk hg => by have q1 := (hO1569.lt k hk).1; have q2 := (op.lt k hg).2; omega
  have E1571 := grown_of_below E1571
  have z_w1570 := E1571.size
  have hx := hx.keep0 E1571
  have op := op.keep0 E1571
  have ks : ∀ x9 ∈ (D.map pk), Own w1570 0 5 1 x9.1 x9.2.length (x9.2.map u8v) := fun x9 hx9 => (ks x9 hx9).keep0 E1571
  have hB1564 := hB1564.keep0 E1571
  have hb := hb.step0 E1571
  have hO1569 := hO1569.mono (base' := w.heap.size) (by omega)
  skip
  refine op_nil (ev_hit hN rfl) ?_
  refine op_field fld115_0 (ev_hit hN rfl) ?_
  have hB1564_old := hB1564
  refine op_store (vs := [v1569]) (cs' := [v1569, (Value.slice none 0 0), (Value.slice none 0 0)]) size48 (ev_hit hN rfl) (ev_hit hN rfl) hO1569.cl rfl (by simp only [List.all_cons, List.all_nil, Bool.true_and, Bool.and_true, hO1569.one]; try rfl) hB1564 (Nat.le_of_ble_eq_true rfl) rfl ?_
  intro w1575 hB1564 E1576
  have z_w1575 := E1576.size
  have hx := hx.keep E1576 (by simp; omega)
  have op := op.keepX hB1564_old E1576 (by decide)
  have ks : ∀ x9 ∈ (D.map pk), Own w1575 0 5 1 x9.1 x9.2.length (x9.2.map u8v) := fun x9 hx9 => (ks x9 hx9).keepX hB1564_old E1576 (by decide)
  have hO1569 := hO1569.keepX hB1564_old E1576 (by decide)
  have hb := hb.step1 E1576 (by omega)
  refine reg_nil ?_
  refine hK1568 _ _ ?_
  refine seq_any fun K1577 hK1577 => ?_
  refine one_reg ?_
  refine op_move (ev_base hN rfl s0) ?_
  refine op_move (ev_base hN rfl s0) ?_
  refine op_nil (ev_hit hN rfl) ?_
  refine op_field fld115_0 (ev_hit hN rfl) ?_
  refine op_load1 (v := pv) one48 (ev_hit hN rfl) (hx.cell rfl) ?_
  refine op_move (ev_hit hN rfl) ?_
  refine op_slice_hiC (m := (D.length - 3)) slt48 (ev_hit hN rfl) hcp3 (ev_hit hN rfl) (by omega) (by omega) ?_
  refine op_nil (ev_hit hN rfl) ?_
  refine op_field fld115_0 (ev_hit hN rfl) ?_
  have hx_old := hx
  refine op_store (vs := [(hiV pv (D.length - 3))]) (cs' := [(hiV pv (D.length - 3)), (Value.slice none 0 0), (Value.slice none 0 0)]) size48 (ev_hit hN rfl) (ev_hit hN rfl) (own_cl (op.hiCut (k := (D.length - 3)) (by omega))) rfl (by simp only [List.all_cons, List.all_nil, Bool.true_and, Bool.and_true, (own_one (op.hiCut (k := (D.length - 3)) (by omega)))]; try rfl) hx (Nat.le_of_ble_eq_true rfl) rfl ?_
  intro w1580 hx E1581
  have z_w1580 := E1581.size
  have op := op.keepX hx_old E1581 (by decide)
  have ks : ∀ x9 ∈ (D.map pk), Own w1580 0 5 1 x9.1 x9.2.length (x9.2.map u8v) := fun x9 hx9 => (ks x9 hx9).keepX hx_old E1581 (by decide)
  have hO1569 := hO1569.keepX hx_old E1581 (by decide)
  have hB1564 := hB1564.keep E1581 (by simp; omega)
  have hb := hb.stepB E1581 rfl
  refine reg_nil ?_
  refine hK1577 _ _ ?_
  refine seq_any fun K1582 hK1582 => ?_
  refine one_reg ?_
  refine op_move (ev_hit hN rfl) ?_
  refine op_nil (ev_hit hN rfl) ?_
  refine op_field fld115_0 (ev_hit hN rfl) ?_
  refine op_load1 (v := v1569) one48 (ev_hit hN rfl) (hB1564.cell rfl) ?_
  refine op_index_rd slt48 (ev_hit hN rfl) hO1569.rdw rfl (by omega) (by first | omega | (simp only [List.length_drop, List.length_take]; omega)) ?_
  intro b1583 o1584 h0b1583 h1b1583 hc1585
  refine op_field fld51_0 (ev_hit hN rfl) ?_
  refine op_load1 (v := ((D.drop (D.length - 3)).getD 0 default).1) one27 (ev_hit hN rfl) (hc1585 0 (((D.drop (D.length - 3)).getD 0 default).1) (by decide) ((el_pI (i := 0) (by omega) (by first | omega | (simp only [List.length_drop, List.length_take]; omega))) 0 (((D.drop (D.length - 3)).getD 0 default).1) rfl)) ?_
  refine op_move (ev_hit hN rfl) ?_
  refine op_assign (ev_hit hN rfl) ?_
  refine op_assign (ev_hit hN rfl) ?_
  refine reg_nil ?_
  refine hK1582 _ _ ?_
  refine wp_ret (then_ret ( ?_))
  refine ret2 rfl hd (ev_hit hN rfl) (ev_hit hN rfl) ⟨_, rfl, ?_⟩
  -- path 10F
  exact ⟨hb, b1562, v1569, rfl, hx, (op.hiCut (k := (D.length - 3)) (by omega)).cast (by simp) (flat_take cI_len _ _), by omega, hB1564, hO1569⟩

theorem halvesNbI {p : Nat} {kv cv : Value} {K : List DK} {P : List Nat} {w : World} (hx : Bx w p 115 [.slice none 0 0, kv, cv]) (ok : Own w 0 27 1 kv K.length (K.flatMap cK)) (oc : Own w 0 69 1 cv P.length (P.flatMap cN)) (ks : ∀ x9 ∈ K, Own w 0 5 1 x9.1 x9.2.length (x9.2.map u8v)) (hP : P.length = K.length + 1) (h6 : 6 < K.length) (hn : K.length ≤ 900) : Ret Try.prog 86 #[(ptr p 0)] w (fun v' w' => Gr w w' (fun y => y = p) ∧ ∃ q qk qc, v' = .tuple #[(K.getD (K.length / 2) default).1, ptr q 0] ∧ Bx w' p 115 [.slice none 0 0, hiV kv (K.length / 2), hiV cv ((K.length / 2) + 1)] ∧ Own w' 0 27 1 (hiV kv (K.length / 2)) (K.take (K.length / 2)).length ((K.take (K.length / 2)).flatMap cK) ∧ Own w' 0 69 1 (hiV cv ((K.length / 2) + 1)) (P.take ((K.length / 2) + 1)).length ((P.take ((K.length / 2) + 1)).flatMap cN) ∧ w.heap.size ≤ q ∧ Bx w' q 115 [.slice none 0 0, qk, qc] ∧ Own w' w.heap.size 27 1 qk (K.drop ((K.length / 2) + 1)).length ((K.drop ((K.length / 2) + 1)).flatMap cK) ∧ Own w' w.heap.size 69 1 qc (P.drop ((K.length / 2) + 1)).length ((P.drop ((K.length / 2) + 1)).flatMap cN)) := by
 have hi_p := hx.lt
 obtain ⟨ck, hck1, hck2, hck3⟩ := ok.cap
 obtain ⟨cc, hcc1, hcc2, hcc3⟩ := oc.cap
 have hb := Gr.refl w (fun y => y = p)
 refine enter (N := 104) Try.func86 rfl rfl (by simp) fun a0 hN hd hA => ?_
 have s0 : a0.tmps.getD 0 undef = (ptr p 0) := hA 0 (by simp)
 clear hA
 refine seq_any fun K1586 hK1586 => ?_
 refine one_reg ?_
 refine op_assign rfl ?_
 refine op_assign rfl ?_
 refine reg_nil ?_
 refine hK1586 _ _ ?_
 refine seq_any fun K1587 hK1587 => ?_
 refine seq_any fun K1588 hK1588 => ?_
 refine one_reg ?_
 refine op_move (ev_base hN rfl s0) ?_
 refine op_fn (vs := [(ptr p 0)]) ok52 ⟨(ev_hit hN rfl), trivial⟩ (Ret.flip (sizeNI hx ok oc (by omega) (by omega))) ?_
 rintro _ _ ⟨rfl, rfl⟩
 refine op_leq (ev_hit hN rfl) rfl (fun c10 => ?_) (fun c10 => ?_)
 · -- 10T
  exfalso; omega
 · -- 10F
  refine reg_nil ?_
  refine hK1588 _ _ ?_
  refine wp_cond_false (ev_hit hN rfl) ?_
  refine wp_skip ?_
  refine hK1587 _ _ ?_
  refine seq_any fun K1589 hK1589 => ?_
  refine one_reg ?_
  refine op_build (pv := []) (v := (Value.agg #[(Value.slice none 0 0), (Value.slice none 0 0), (Value.slice none 0 0)])) trivial (by kernel_rfl) ?_
  refine op_box (cs := [(Value.slice none 0 0), (Value.slice none 0 0), (Value.slice none 0 0)]) (ev_hit hN rfl) rfl ?_
  intro w1590 b1591 lo_b1591 hi_b1591 hB1593 E1592
  have z_w1590 := E1592.size
  have hx := hx.keep0 E1592
  have ok := ok.keep0 E1592
  have oc := oc.keep0 E1592
  have ks : ∀ x9 ∈ K, Own w1590 0 5 1 x9.1 x9.2.length (x9.2.map u8v) := fun x9 hx9 => (ks x9 hx9).keep0 E1592
  have hb := hb.step0 E1592
  refine op_assign (ev_hit hN rfl) ?_
  refine reg_nil ?_
  refine hK1589 _ _ ?_
  refine seq_any fun K1594 hK1594 => ?_
  refine seq_any fun K1595 hK1595 => ?_
  refine one_reg ?_
  refine op_move (ev_base hN rfl s0) ?_
  refine op_fn (vs := [(ptr p 0)]) ok81 ⟨(ev_hit hN rfl), trivial⟩ (Ret.flip (leafNI hx ok oc (by omega) (by omega))) ?_
  rintro _ _ ⟨rfl, rfl⟩
  refine reg_nil ?_
  refine hK1595 _ _ ?_
  refine wp_cond_false (ev_hit hN rfl) ?_
  refine wp_skip ?_
  refine hK1594 _ _ ?_
  refine seq_any fun K1596 hK1596 => ?_
  refine one_reg ?_
  refine op_move (ev_base hN rfl s0) ?_
  refine op_nil (ev_hit hN rfl) ?_
  refine op_field fld115_1 (ev_hit hN rfl) ?_
  refine op_load1 (v := kv) one90 (ev_hit hN rfl) (hx.cell rfl) ?_
  refine op_len_rd Try.underlying90 (ev_hit hN rfl) ok.rdw ?_
  refine op_quo (r := ((K.length / 2 : Nat) : Int)) (ev_hit hN rfl) rfl (by decide) (by rw [IntKind.wrap_i64, Int.tdiv_eq_ediv_of_nonneg (by omega)]; omega) ?_
  refine op_assign (ev_hit hN rfl) ?_
  refine reg_nil ?_
  refine hK1596 _ _ ?_
  refine seq_any fun K1597 hK1597 => ?_
  refine one_reg ?_
  refine op_move (ev_base hN rfl s0) ?_
  refine op_nil (ev_hit hN rfl) ?_
  refine op_field fld115_1 (ev_hit hN rfl) ?_
  refine op_load1 (v := kv) one90 (ev_hit hN rfl) (hx.cell rfl) ?_
  refine op_move (ev_hit hN rfl) ?_
  refine op_index_rd slt90 (ev_hit hN rfl) ok.rdw (ev_hit hN rfl) (by omega) (by omega) ?_
  intro b1598 o1599 h0b1598 h1b1598 hc1600
  refine op_load1 (v := (K.getD (K.length / 2) default).1) one27 (ev_hit hN rfl) (by have := hc1600 0 (K.getD (K.length / 2) default).1 (by decide) (el_kd (i := (K.length / 2)) (by omega) (by first | omega | (simp only [List.length_drop, List.length_take]; omega))); simpa using this) ?_
  refine op_assign (ev_hit hN rfl) ?_
  refine reg_nil ?_
  refine hK1597 _ _ ?_
  refine seq_any fun K1601 hK1601 => ?_
  refine reg_split (hd := [_, _, _, _, _, _, _, _, _, _, _, _, _, _, _, _, _, _, _, _, _]) (tl := _) 21 mixed (by kernel_rfl) rfl rfl ?_
  refine any_env (φ := phiV [(fun uz => uz = (ptr b1591 0)), (fun uz => uz = (ptr b1591 0)), (fun uz => uz = (ptr p 0)), (fun uz => uz = (ptr p 0)), (fun uz => uz = (ptr p 1)), (fun uz => uz = kv), (fun uz => uz = (Value.int .i64 ((K.length / 2 : Nat) : Int))), (fun uz => uz = (Value.int .i64 (((K.length / 2 : Nat) : Int) + 1))), (fun uz => uz = (cutS 1 kv ((K.length / 2) + 1))), (fun _ => True), (fun uz => uz = (ptr p 0)), (fun uz => uz = (ptr p 0)), (fun uz => uz = (ptr p 2)), (fun uz => uz = cv), (fun uz => uz = (Value.int .i64 ((K.length / 2 : Nat) : Int))), (fun uz => uz = (Value.int .i64 (((K.length / 2 : Nat) : Int) + 1))), (fun uz => uz = (cutS 1 cv ((K.length / 2) + 1))), (fun _ => True), (fun uz => uz = (ptr b1591 0)), (fun uz => uz = (ptr b1591 1)), (fun _ => True)]) (G := fun w' => Bx w' p 115 [(Value.slice none 0 0), kv, cv]) [9, 17, 20] (by kernel_rfl) (by kernel_rfl) (by kernel_rfl) (by kernel_rfl) hN (fun w1 w2 E h => h.keep0 E) hx (ObEs.cons ?_ (ObEs.cons ?_ (ObEs.cons ?_ (ObEs.cons ?_ (ObEs.cons ?_ (ObEs.cons ?_ (ObEs.cons ?_ (ObEs.cons ?_ (ObEs.cons ?_ (ObEs.pass rfl (ObEs.cons ?_ (ObEs.cons ?_ (ObEs.cons ?_ (ObEs.cons ?_ (ObEs.cons ?_ (ObEs.cons ?_ (ObEs.cons ?_ (ObEs.pass rfl (ObEs.cons ?_ (ObEs.cons ?_ (ObEs.pass rfl (ObEs.nil)))))))))))))))))))))) (by simp only [putsL_defers]) ?_
  ·
   intro eA aA wA hNA hGA hbsA hdpA
   have qA_4 := (hbsA 4 rfl).trans (sl_hit hN rfl)
   refine op_move (ev_base hNA rfl qA_4) ?_
   exact obE_end rfl rfl rfl
  ·
   intro eA aA wA hNA hGA hbsA hdpA
   have qA_4 := (hbsA 4 rfl).trans (sl_hit hN rfl)
   refine op_move (ev_base hNA rfl qA_4) ?_
   exact obE_end rfl rfl rfl
  ·
   intro eA aA wA hNA hGA hbsA hdpA
   have qA_0 := (hbsA 0 rfl).trans (sl_base hN rfl s0)
   refine op_move (ev_base hNA rfl qA_0) ?_
   exact obE_end rfl rfl rfl
  ·
   intro eA aA wA hNA hGA hbsA hdpA
   have qA_63 : Sl aA 63 (ptr p 0) := (hdpA 2 _ 63 (by kernel_rfl) rfl rfl).2 rfl
   refine op_nil (ev_base hNA rfl qA_63) ?_
   exact obE_end rfl rfl rfl
  ·
   intro eA aA wA hNA hGA hbsA hdpA
   have qA_64 : Sl aA 64 (ptr p 0) := (hdpA 3 _ 64 (by kernel_rfl) rfl rfl).2 rfl
   refine op_field fld115_1 (ev_base hNA rfl qA_64) ?_
   exact obE_end rfl rfl rfl
  ·
   intro eA aA wA hNA hGA hbsA hdpA
   have qA_65 : Sl aA 65 (ptr p 1) := (hdpA 4 _ 65 (by kernel_rfl) rfl rfl).2 rfl
   refine op_load1 (v := kv) one90 (ev_base hNA rfl qA_65) (hGA.cell rfl) ?_
   exact obE_end rfl rfl rfl
  ·
   intro eA aA wA hNA hGA hbsA hdpA
   have qA_6 := (hbsA 6 rfl).trans (sl_hit hN rfl)
   refine op_move (ev_base hNA rfl qA_6) ?_
   exact obE_end rfl rfl rfl
  ·
   intro eA aA wA hNA hGA hbsA hdpA
   have qA_67 : Sl aA 67 (Value.int .i64 ((K.length / 2 : Nat) : Int)) := (hdpA 6 _ 67 (by kernel_rfl) rfl rfl).2 rfl
   refine op_add (ev_base hNA rfl qA_67) rfl (add64 (by omega)) ?_
   exact obE_end rfl rfl rfl
  ·
   intro eA aA wA hNA hGA hbsA hdpA
   have qA_66 : Sl aA 66 kv := (hdpA 5 _ 66 (by kernel_rfl) rfl rfl).2 rfl
   have qA_68 : Sl aA 68 (Value.int .i64 (((K.length / 2 : Nat) : Int) + 1)) := (hdpA 7 _ 68 (by kernel_rfl) rfl rfl).2 rfl
   refine op_slice_cutS (k := (K.length / 2) + 1) slt90 (ev_base hNA rfl qA_66) ok (ev_base hNA rfl qA_68) (by omega) (by omega) ?_
   exact obE_end rfl rfl rfl
  ·
   intro eA aA wA hNA hGA hbsA hdpA
   have qA_0 := (hbsA 0 rfl).trans (sl_base hN rfl s0)
   refine op_move (ev_base hNA rfl qA_0) ?_
   exact obE_end rfl rfl rfl
  ·
   intro eA aA wA hNA hGA hbsA hdpA
   have qA_71 : Sl aA 71 (ptr p 0) := (hdpA 10 _ 71 (by kernel_rfl) rfl rfl).2 rfl
   refine op_nil (ev_base hNA rfl qA_71) ?_
   exact obE_end rfl rfl rfl
  ·
   intro eA aA wA hNA hGA hbsA hdpA
   have qA_72 : Sl aA 72 (ptr p 0) := (hdpA 11 _ 72 (by kernel_rfl) rfl rfl).2 rfl
   refine op_field fld115_2 (ev_base hNA rfl qA_72) ?_
   exact obE_end rfl rfl rfl
  ·
   intro eA aA wA hNA hGA hbsA hdpA
   have qA_73 : Sl aA 73 (ptr p 2) := (hdpA 12 _ 73 (by kernel_rfl) rfl rfl).2 rfl
   refine op_load1 (v := cv) one113 (ev_base hNA rfl qA_73) (hGA.cell rfl) ?_
   exact obE_end rfl rfl rfl
  ·
   intro eA aA wA hNA hGA hbsA hdpA
   have qA_6 := (hbsA 6 rfl).trans (sl_hit hN rfl)
   refine op_move (ev_base hNA rfl qA_6) ?_
   exact obE_end rfl rfl rfl
  ·
   intro eA aA wA hNA hGA hbsA hdpA
   have qA_75 : Sl aA 75 (Value.int .i64 ((K.length / 2 : Nat) : Int)) := (hdpA 14 _ 75 (by kernel_rfl) rfl rfl).2 rfl
   refine op_add (ev_base hNA rfl qA_75) rfl (add64 (by omega)) ?_
   exact obE_end rfl rfl rfl
  ·
   intro eA aA wA hNA hGA hbsA hdpA
   have qA_74 : Sl aA 74 cv := (hdpA 13 _ 74 (by kernel_rfl) rfl rfl).2 rfl
   have qA_76 : Sl aA 76 (Value.int .i64 (((K.length / 2 : Nat) : Int) + 1)) := (hdpA 15 _ 76 (by kernel_rfl) rfl rfl).2 rfl
   refine op_slice_cutS (k := (K.length / 2) + 1) slt113 (ev_base hNA rfl qA_74) oc (ev_base hNA rfl qA_76) (by omega) (by omega) ?_
   exact obE_end rfl rfl rfl
  ·
   intro eA aA wA hNA hGA hbsA hdpA
   have qA_61 : Sl aA 61 (ptr b1591 0) := (hdpA 0 _ 61 (by kernel_rfl) rfl rfl).2 rfl
   refine op_nil (ev_base hNA rfl qA_61) ?_
   exact obE_end rfl rfl rfl
  ·
   intro eA aA wA hNA hGA hbsA hdpA
   have qA_79 : Sl aA 79 (ptr b1591 0) := (hdpA 18 _ 79 (by kernel_rfl) rfl rfl).2 rfl
   refine op_field fld115_1 (ev_base hNA rfl qA_79) ?_
   exact obE_end rfl rfl rfl
  ·
   intro w1602 E1602 _ a1602 hN1602 hbs1602 hdp1602 o_ ho_; obtain rfl := Option.some.inj ho_
   have z_w1602 := E1602.size
   have hx := hx.keep0 E1602
   have ok := ok.keep0 E1602
   have oc := oc.keep0 E1602
   have ks : ∀ x9 ∈ K, Own w1602 0 5 1 x9.1 x9.2.length (x9.2.map u8v) := fun x9 hx9 => (ks x9 hx9).keep0 E1602
   have hB1593 := hB1593.keep0 E1602
   have hb := hb.step0 E1602
   have q1602_69 : Sl a1602 69 (cutS 1 kv ((K.length / 2) + 1)) := (hdp1602 8 _ 69 (by kernel_rfl) rfl rfl).2 rfl
   refine op_fn (vs := [(cutS 1 kv ((K.length / 2) + 1))]) ok90 ⟨(ev_base hN1602 rfl q1602_69), trivial⟩ (clK (RdC.mono (((ok.cutO (k := (K.length / 2) + 1) (by omega)).rdw).cast (by simp) (flat_drop cK_len _ _)) (Nat.zero_le _) (Nat.le_refl _)) (by simp; omega) (one_kd ks (fun _ h => List.mem_of_mem_drop h))) ?_
   rintro v1603 w1604 ⟨E1605, hO1603⟩
   have dj1606 : DJ v1603 kv := fun k hk hg => by have q1 := (hO1603.lt k hk).1; have q2 := (ok.lt k hg).2; omega
   have E1605 := grown_of_below E1605
   have z_w1604 := E1605.size
   have hx := hx.keep0 E1605
   have ok := ok.keep0 E1605
   have oc := oc.keep0 E1605
   have ks : ∀ x9 ∈ K, Own w1604 0 5 1 x9.1 x9.2.length (x9.2.map u8v) := fun x9 hx9 => (ks x9 hx9).keep0 E1605
   have hB1593 := hB1593.keep0 E1605
   have hb := hb.step0 E1605
   have hO1603 := hO1603.mono (base' := w.heap.size) (by omega)
   skip
   refine ke_end rfl (by decide) rfl hx ?_
   intro w1607 E1607 _ a1607 hN1607 hbs1607 hdp1607 o_ ho_; obtain rfl := Option.some.inj ho_
   have z_w1607 := E1607.size
   have hx := hx.keep0 E1607
   have ok := ok.keep0 E1607
   have oc := oc.keep0 E1607
   have ks : ∀ x9 ∈ K, Own w1607 0 5 1 x9.1 x9.2.length (x9.2.map u8v) := fun x9 hx9 => (ks x9 hx9).keep0 E1607
   have hB1593 := hB1593.keep0 E1607
   have hO1603 := hO1603.keep0 E1607
   have hb := hb.step0 E1607
   have q1607_77 : Sl a1607 77 (cutS 1 cv ((K.length / 2) + 1)) := (hdp1607 16 _ 77 (by kernel_rfl) rfl rfl).2 rfl
   refine op_fn (vs := [(cutS 1 cv ((K.length / 2) + 1))]) ok119 ⟨(ev_base hN1607 rfl q1607_77), trivial⟩ (clNI (RdC.mono (((oc.cutO (k := (K.length / 2) + 1) (by omega)).rdw).cast (by simp) (flat_drop cN_len _ _)) (Nat.zero_le _) (Nat.le_refl _)) (by simp; omega)) ?_
   rintro v1608 w1609 ⟨E1610, hO1608⟩
   have dj1611 : DJ v1608 cv := fun k hk hg => by have q1 := (hO1608.lt k hk).1; have q2 := (oc.lt k hg).2; omega
   have E1610 := grown_of_below E1610
   have z_w1609 := E1610.size
   have hx := hx.keep0 E1610
   have ok := ok.keep0 E1610
   have oc := oc.keep0 E1610
   have ks : ∀ x9 ∈ K, Own w1609 0 5 1 x9.1 x9.2.length (x9.2.map u8v) := fun x9 hx9 => (ks x9 hx9).keep0 E1610
   have hB1593 := hB1593.keep0 E1610
   have hO1603 := hO1603.keep0 E1610
   have hb := hb.step0 E1610
   have hO1608 := hO1608.mono (base' := w.heap.size) (by omega)
   skip
   refine ke_end rfl (by decide) rfl hx ?_
   intro w1612 E1612 _ a1612 hN1612 hbs1612 hdp1612 o_ ho_; obtain rfl := Option.some.inj ho_
   have z_w1612 := E1612.size
   have hx := hx.keep0 E1612
   have ok := ok.keep0 E1612
   have oc := oc.keep0 E1612
   have ks : ∀ x9 ∈ K, Own w1612 0 5 1 x9.1 x9.2.length (x9.2.map u8v) := fun x9 hx9 => (ks x9 hx9).keep0 E1612
   have hB1593 := hB1593.keep0 E1612
   have hO1603 := hO1603.keep0 E1612
   have hO1608 := hO1608.keep0 E1612
   have hb := hb.step0 E1612
   have q1612_80 : Sl a1612 80 (ptr b1591 1) := (hdp1612 19 _ 80 (by kernel_rfl) rfl rfl).2 rfl
   have q1612_70 : Sl a1612 70 v1603 := (Option.some.inj ((hdp1612 9 _ 70 (by kernel_rfl) rfl rfl).1 0 rfl)).symm
   have hB1593_old := hB1593
   refine op_store (vs := [v1603]) (cs' := [(Value.slice none 0 0), v1603, (Value.slice none 0 0)]) size90 (ev_base hN1612 rfl q1612_80) (ev_base hN1612 rfl q1612_70) hO1603.cl rfl (by simp only [List.all_cons, List.all_nil, Bool.true_and, Bool.and_true, hO1603.one]; try rfl) hB1593 (Nat.le_of_ble_eq_true rfl) rfl ?_
   intro w1615 hB1593 E1616
   have z_w1615 := E1616.size
   have hx := hx.keep E1616 (by simp; omega)
   have ok := ok.keepX hB1593_old E1616 (by decide)
   have oc := oc.keepX hB1593_old E1616 (by decide)
   have ks : ∀ x9 ∈ K, Own w1615 0 5 1 x9.1 x9.2.length (x9.2.map u8v) := fun x9 hx9 => (ks x9 hx9).keepX hB1593_old E1616 (by decide)
   have hO1603 := hO1603.keepX hB1593_old E1616 (by decide)
   have hO1608 := hO1608.keepX hB1593_old E1616 (by decide)
   have hb := hb.step1 E1616 (by omega)
   refine ke_end0 rfl hx ?_
   intro w1617 E1617 a1617 hN1617 hd1617 hbs1617 hph1617
   have hd1617 := hd1617.trans ((by simp only [putsL_defers] : _ = _).trans hd)
   have z_w1617 := E1617.size
   have hx := hx.keep0 E1617
   have ok := ok.keep0 E1617
   have oc := oc.keep0 E1617
   have ks : ∀ x9 ∈ K, Own w1617 0 5 1 x9.1 x9.2.length (x9.2.map u8v) := fun x9 hx9 => (ks x9 hx9).keep0 E1617
   have hO1603 := hO1603.keep0 E1617
   have hO1608 := hO1608.keep0 E1617
   have hB1593 := hB1593.keep0 E1617
   have hb := hb.step0 E1617
   have s1617_0 := (hbs1617 0 rfl).trans (sl_base hN rfl s0)
   have s1617_2 := (hbs1617 2 rfl).trans (sl_hit hN rfl)
   have s1617_3 := (hbs1617 3 rfl).trans (sl_hit hN rfl)
   have s1617_4 := (hbs1617 4 rfl).trans (sl_hit hN rfl)
   have s1617_6 := (hbs1617 6 rfl).trans (sl_hit hN rfl)
   have s1617_7 := (hbs1617 7 rfl).trans (sl_hit hN rfl)
   have s1617_62 : Sl a1617 62 (ptr b1591 0) := (hph1617 1 _ 62 rfl rfl).2 rfl
   have s1617_78 : Sl a1617 78 v1608 := (Option.some.inj ((hph1617 17 _ 78 rfl rfl).1 1 rfl)).symm
   refine split_end ?_
   refine from_seq (tl := [_, _, _]) (by decide) (by kernel_rfl) rfl ?_
   refine op_nil (ev_base hN1617 rfl s1617_62) ?_
   refine op_field fld115_2 (ev_hit hN1617 rfl) ?_
   have hB1593_old := hB1593
   refine op_store (vs := [v1608]) (cs' := [(Value.slice none 0 0), v1603, v1608]) size113 (ev_hit hN1617 rfl) (ev_base hN1617 rfl s1617_78) hO1608.cl rfl (by simp only [List.all_cons, List.all_nil, Bool.true_and, Bool.and_true, hO1608.one]; try rfl) hB1593 (Nat.le_of_ble_eq_true rfl) rfl ?_
   intro w1620 hB1593 E1621
   have z_w1620 := E1621.size
   have hx := hx.keep E1621 (by simp; omega)
   have ok := ok.keepX hB1593_old E1621 (by decide)
   have oc := oc.keepX hB1593_old E1621 (by decide)
   have ks : ∀ x9 ∈ K, Own w1620 0 5 1 x9.1 x9.2.length (x9.2.map u8v) := fun x9 hx9 => (ks x9 hx9).keepX hB1593_old E1621 (by decide)
   have hO1603 := hO1603.keepX hB1593_old E1621 (by decide)
   have hO1608 := hO1608.keepX hB1593_old E1621 (by decide)
   have hb := hb.step1 E1621 (by omega)
   refine reg_nil ?_
   refine hK1601 _ _ ?_
   refine seq_any fun K1622 hK1622 => ?_
   refine reg_split (hd := [_, _, _, _, _, _, _, _, _, _, _, _, _, _, _, _, _, _]) (tl := _) 18 mixed (by kernel_rfl) rfl rfl ?_
   refine any_envk (φ := phiV [(fun uz => uz = (ptr p 0)), (fun uz => uz = (ptr p 0)), (fun uz => uz = (ptr p 0)), (fun uz => uz = (ptr p 0)), (fun uz => uz = (ptr p 1)), (fun uz => uz = kv), (fun uz => uz = (Value.int .i64 ((K.length / 2 : Nat) : Int))), (fun uz => uz = (hiV kv (K.length / 2))), (fun uz => uz = (ptr p 0)), (fun uz => uz = (ptr p 0)), (fun uz => uz = (ptr p 2)), (fun uz => uz = cv), (fun uz => uz = (Value.int .i64 ((K.length / 2 : Nat) : Int))), (fun uz => uz = (Value.int .i64 (((K.length / 2 : Nat) : Int) + 1))), (fun uz => uz = (hiV cv ((K.length / 2) + 1))), (fun uz => uz = (ptr p 0)), (fun uz => uz = (ptr p 1)), (fun _ => True)]) (G := fun c9 w' => c9 ≤ 0 → (Bx w' p 115 [(Value.slice none 0 0), kv, cv])) [17] (by kernel_rfl) (by kernel_rfl) (by kernel_rfl) (by kernel_rfl) hN1617 (fun _ w1 w2 E h hc9 => (h hc9).keep0 E) (fun _ => hx) (ObKs.cons ?_ (ObKs.cons ?_ (ObKs.cons ?_ (ObKs.cons ?_ (ObKs.cons ?_ (ObKs.cons ?_ (ObKs.cons ?_ (ObKs.cons ?_ (ObKs.cons ?_ (ObKs.cons ?_ (ObKs.cons ?_ (ObKs.cons ?_ (ObKs.cons ?_ (ObKs.cons ?_ (ObKs.cons ?_ (ObKs.cons ?_ (ObKs.cons ?_ (ObKs.pass rfl (ObKs.nil))))))))))))))))))) (by simp only [putsL_defers]) ?_
   ·
    intro eA aA wA hNA hckA hGA hbsA hdpA
    have qA_0 := (hbsA 0 rfl).trans (sl_base hN1617 rfl s1617_0)
    refine op_move (ev_base hNA rfl qA_0) ?_
    exact obK_end rfl rfl rfl
   ·
    intro eA aA wA hNA hckA hGA hbsA hdpA
    have qA_0 := (hbsA 0 rfl).trans (sl_base hN1617 rfl s1617_0)
    refine op_move (ev_base hNA rfl qA_0) ?_
    exact obK_end rfl rfl rfl
   ·
    intro eA aA wA hNA hckA hGA hbsA hdpA
    have qA_0 := (hbsA 0 rfl).trans (sl_base hN1617 rfl s1617_0)
    refine op_move (ev_base hNA rfl qA_0) ?_
    exact obK_end rfl rfl rfl
   ·
    intro eA aA wA hNA hckA hGA hbsA hdpA
    have qA_85 : Sl aA 85 (ptr p 0) := (hdpA 2 _ 85 (by kernel_rfl) rfl rfl).2 rfl
    refine op_nil (ev_base hNA rfl qA_85) ?_
    exact obK_end rfl rfl rfl
   ·
    intro eA aA wA hNA hckA hGA hbsA hdpA
    have qA_86 : Sl aA 86 (ptr p 0) := (hdpA 3 _ 86 (by kernel_rfl) rfl rfl).2 rfl
    refine op_field fld115_1 (ev_base hNA rfl qA_86) ?_
    exact obK_end rfl rfl rfl
   ·
    intro eA aA wA hNA hckA hGA hbsA hdpA
    have qA_87 : Sl aA 87 (ptr p 1) := (hdpA 4 _ 87 (by kernel_rfl) rfl rfl).2 rfl
    have hGA := hGA (hckA 0 17 rfl (by kernel_rfl))
    refine op_load1 (v := kv) one90 (ev_base hNA rfl qA_87) (hGA.cell rfl) ?_
    exact obK_end rfl rfl rfl
   ·
    intro eA aA wA hNA hckA hGA hbsA hdpA
    have qA_6 := (hbsA 6 rfl).trans (sl_base hN1617 rfl s1617_6)
    refine op_move (ev_base hNA rfl qA_6) ?_
    exact obK_end rfl rfl rfl
   ·
    intro eA aA wA hNA hckA hGA hbsA hdpA
    have qA_88 : Sl aA 88 kv := (hdpA 5 _ 88 (by kernel_rfl) rfl rfl).2 rfl
    have qA_89 : Sl aA 89 (Value.int .i64 ((K.length / 2 : Nat) : Int)) := (hdpA 6 _ 89 (by kernel_rfl) rfl rfl).2 rfl
    refine op_slice_hiC (m := (K.length / 2)) slt90 (ev_base hNA rfl qA_88) hck3 (ev_base hNA rfl qA_89) (by omega) (by omega) ?_
    exact obK_end rfl rfl rfl
   ·
    intro eA aA wA hNA hckA hGA hbsA hdpA
    have qA_0 := (hbsA 0 rfl).trans (sl_base hN1617 rfl s1617_0)
    refine op_move (ev_base hNA rfl qA_0) ?_
    exact obK_end rfl rfl rfl
   ·
    intro eA aA wA hNA hckA hGA hbsA hdpA
    have qA_91 : Sl aA 91 (ptr p 0) := (hdpA 8 _ 91 (by kernel_rfl) rfl rfl).2 rfl
    refine op_nil (ev_base hNA rfl qA_91) ?_
    exact obK_end rfl rfl rfl
   ·
    intro eA aA wA hNA hckA hGA hbsA hdpA
    have qA_92 : Sl aA 92 (ptr p 0) := (hdpA 9 _ 92 (by kernel_rfl) rfl rfl).2 rfl
    refine op_field fld115_2 (ev_base hNA rfl qA_92) ?_
    exact obK_end rfl rfl rfl
   ·
    intro eA aA wA hNA hckA hGA hbsA hdpA
    have qA_93 : Sl aA 93 (ptr p 2) := (hdpA 10 _ 93 (by kernel_rfl) rfl rfl).2 rfl
    have hGA := hGA (hckA 0 17 rfl (by kernel_rfl))
    refine op_load1 (v := cv) one113 (ev_base hNA rfl qA_93) (hGA.cell rfl) ?_
    exact obK_end rfl rfl rfl
   ·
    intro eA aA wA hNA hckA hGA hbsA hdpA
    have qA_6 := (hbsA 6 rfl).trans (sl_base hN1617 rfl s1617_6)
    refine op_move (ev_base hNA rfl qA_6) ?_
    exact obK_end rfl rfl rfl
   ·
    intro eA aA wA hNA hckA hGA hbsA hdpA
    have qA_95 : Sl aA 95 (Value.int .i64 ((K.length / 2 : Nat) : Int)) := (hdpA 12 _ 95 (by kernel_rfl) rfl rfl).2 rfl
    refine op_add (ev_base hNA rfl qA_95) rfl (add64 (by omega)) ?_
    exact obK_end rfl rfl rfl
   ·
    intro eA aA wA hNA hckA hGA hbsA hdpA
    have qA_94 : Sl aA 94 cv := (hdpA 11 _ 94 (by kernel_rfl) rfl rfl).2 rfl
    have qA_96 : Sl aA 96 (Value.int .i64 (((K.length / 2 : Nat) : Int) + 1)) := (hdpA 13 _ 96 (by kernel_rfl) rfl rfl).2 rfl
    refine op_slice_hiC (m := (K.length / 2) + 1) slt113 (ev_base hNA rfl qA_94) hcc3 (ev_base hNA rfl qA_96) (by omega) (by omega) ?_
    exact obK_end rfl rfl rfl
   ·
    intro eA aA wA hNA hckA hGA hbsA hdpA
    have qA_83 : Sl aA 83 (ptr p 0) := (hdpA 0 _ 83 (by kernel_rfl) rfl rfl).2 rfl
    refine op_nil (ev_base hNA rfl qA_83) ?_
    exact obK_end rfl rfl rfl
   ·
    intro eA aA wA hNA hckA hGA hbsA hdpA
    have qA_98 : Sl aA 98 (ptr p 0) := (hdpA 15 _ 98 (by kernel_rfl) rfl rfl).2 rfl
    refine op_field fld115_1 (ev_base hNA rfl qA_98) ?_
    exact obK_end rfl rfl rfl
   ·
    intro w1623 E1623 _ a1623 hN1623 hbs1623 hdp1623 o_ ho_; obtain rfl := Option.some.inj ho_
    have z_w1623 := E1623.size
    have hx := hx.keep0 E1623
    have ok := ok.keep0 E1623
    have oc := oc.keep0 E1623
    have ks : ∀ x9 ∈ K, Own w1623 0 5 1 x9.1 x9.2.length (x9.2.map u8v) := fun x9 hx9 => (ks x9 hx9).keep0 E1623
    have hO1603 := hO1603.keep0 E1623
    have hO1608 := hO1608.keep0 E1623
    have hB1593 := hB1593.keep0 E1623
    have hb := hb.step0 E1623
    have q1623_99 : Sl a1623 99 (ptr p 1) := (hdp1623 16 _ 99 (by kernel_rfl) rfl rfl).2 rfl
    have q1623_90 : Sl a1623 90 (hiV kv (K.length / 2)) := (hdp1623 7 _ 90 (by kernel_rfl) rfl rfl).2 rfl
    have hx_old := hx
    refine op_store (vs := [(hiV kv (K.length / 2))]) (cs' := [(Value.slice none 0 0), (hiV kv (K.length / 2)), cv]) size90 (ev_base hN1623 rfl q1623_99) (ev_base hN1623 rfl q1623_90) (own_cl (ok.hiCut (k := (K.length / 2)) (by omega))) rfl (by simp only [List.all_cons, List.all_nil, Bool.true_and, Bool.and_true, (own_one (ok.hiCut (k := (K.length / 2)) (by omega)))]; try rfl) hx (Nat.le_of_ble_eq_true rfl) rfl ?_
    intro w1626 hx E1627
    have z_w1626 := E1627.size
    have ok := ok.keepX hx_old E1627 (by decide)
    have oc := oc.keepX hx_old E1627 (by decide)
    have ks : ∀ x9 ∈ K, Own w1626 0 5 1 x9.1 x9.2.length (x9.2.map u8v) := fun x9 hx9 => (ks x9 hx9).keepX hx_old E1627 (by decide)
    have hO1603 := hO1603.keepX hx_old E1627 (by decide)
    have hO1608 := hO1608.keepX hx_old E1627 (by decide)
    have hB1593 := hB1593.keep E1627 (by simp; omega)
    have hb := hb.stepB E1627 rfl
    refine kk_end0 rfl (fun h => absurd h (by simp)) ?_
    intro w1628 E1628 a1628 hN1628 hd1628 hbs1628 hph1628
    have hd1628 := hd1628.trans ((by simp only [putsL_defers] : _ = _).trans hd1617)
    have z_w1628 := E1628.size
    have ok := ok.keep0 E1628
    have oc := oc.keep0 E1628
    have ks : ∀ x9 ∈ K, Own w1628 0 5 1 x9.1 x9.2.length (x9.2.map u8v) := fun x9 hx9 => (ks x9 hx9).keep0 E1628
    have hO1603 := hO1603.keep0 E1628
    have hO1608 := hO1608.keep0 E1628
    have hB1593 := hB1593.keep0 E1628
    have hx := hx.keep0 E1628
    have hb := hb.step0 E1628
    have s1628_2 := (hbs1628 2 rfl).trans (sl_base hN1617 rfl s1617_2)
    have s1628_3 := (hbs1628 3 rfl).trans (sl_base hN1617 rfl s1617_3)
    have s1628_4 := (hbs1628 4 rfl).trans (sl_base hN1617 rfl s1617_4)
    have s1628_7 := (hbs1628 7 rfl).trans (sl_base hN1617 rfl s1617_7)
    have s1628_84 : Sl a1628 84 (ptr p 0) := (hph1628 1 _ 84 rfl rfl).2 rfl
    have s1628_97 : Sl a1628 97 (hiV cv ((K.length / 2) + 1)) := (hph1628 14 _ 97 rfl rfl).2 rfl
    refine split_end ?_
    refine from_seq (tl := [_, _, _]) (by decide) (by kernel_rfl) rfl ?_
    refine op_nil (ev_base hN1628 rfl s1628_84) ?_
    refine op_field fld115_2 (ev_hit hN1628 rfl) ?_
    have hx_old := hx
    refine op_store (vs := [(hiV cv ((K.length / 2) + 1))]) (cs' := [(Value.slice none 0 0), (hiV kv (K.length / 2)), (hiV cv ((K.length / 2) + 1))]) size113 (ev_hit hN1628 rfl) (ev_base hN1628 rfl s1628_97) (own_cl (oc.hiCut (k := (K.length / 2) + 1) (by omega))) rfl (by simp only [List.all_cons, List.all_nil, Bool.true_and, Bool.and_true, (own_one (oc.hiCut (k := (K.length / 2) + 1) (by omega)))]; try rfl) hx (Nat.le_of_ble_eq_true rfl) rfl ?_
    intro w1631 hx E1632
    have z_w1631 := E1632.size
    have ok := ok.keepX hx_old E1632 (by decide)
    have oc := oc.keepX hx_old E1632 (by decide)
    have ks : ∀ x9 ∈ K, Own w1631 0 5 1 x9.1 x9.2.length (x9.2.map u8v) := fun x9 hx9 => (ks x9 hx9).keepX hx_old E1632 (by decide)
    have hO1603 := hO1603.keepX hx_old E1632 (by decide)
    have hO1608 := hO1608.keepX hx_old E1632 (by decide)
    have hB1593 := hB1593.keep E1632 (by simp; omega)
    have hb := hb.stepB E1632 rfl
    refine reg_nil ?_
    refine hK1622 _ _ ?_
    refine seq_any fun K1633 hK1633 => ?_
    refine one_reg ?_
    refine op_move (ev_base hN1628 rfl s1628_7) ?_
    refine op_move (ev_base hN1628 rfl s1628_4) ?_
    refine op_assign (ev_hit hN1628 rfl) ?_
    refine op_assign (ev_hit hN1628 rfl) ?_
    refine reg_nil ?_
    refine hK1633 _ _ ?_
    refine wp_ret ?_
    refine ret2 rfl hd1628 (ev_hit hN1628 rfl) (ev_hit hN1628 rfl) ⟨_, rfl, ?_⟩
    -- path 10F
    exact ⟨hb, b1591, v1603, v1608, rfl, hx, (ok.hiCut (k := (K.length / 2)) (by omega)).cast (by simp; omega) (flat_take cK_len _ _), (oc.hiCut (k := (K.length / 2) + 1) (by omega)).cast (by simp; omega) (flat_take cN_len _ _), by omega, hB1593, hO1603, hO1608⟩

end Go.Proofs.Ytcpfdfejojghbaa

/- Walks, written by a program: what each function of the translation hands back. -/
namespace Go.Proofs.Ytcpfdfejojghbaa
open Go.Gx Go.RowKit
attribute [local irreducible] wpList wpStill Code.wp Calls
theorem ovl99 {v : Value} {n i base ub m2 : Nat} {cs xs : List Value} {w : World} (hU : Bx w ub 27 xs) (O : Own w base 27 1 v n cs) (hne : v.ownBlock ≠ some ub) (hn0 : 0 < n) : (callFunc 99 #[.slice (some ⟨ub, 0, none⟩) m2 m2, cutS 1 v i]).run Try.prog w = .ok (.value (.bool false)) w :=
  run_ovl (tR := 4) slt90 Try.func99 (by kernel_rfl) (by kernel_rfl) (by kernel_rfl) (by kernel_rfl) hU O hne hn0
theorem ovl115 {v : Value} {n i base ub m2 : Nat} {cs xs : List Value} {w : World} (hU : Bx w ub 51 xs) (O : Own w base 51 2 v n cs) (hne : v.ownBlock ≠ some ub) (hn0 : 0 < n) : (callFunc 115 #[.slice (some ⟨ub, 0, none⟩) m2 m2, cutS 2 v i]).run Try.prog w = .ok (.value (.bool false)) w :=
  run_ovl (tR := 4) slt48 Try.func115 (by kernel_rfl) (by kernel_rfl) (by kernel_rfl) (by kernel_rfl) hU O hne hn0
theorem ovl117 {v : Value} {n i base ub m2 : Nat} {cs xs : List Value} {w : World} (hU : Bx w ub 69 xs) (O : Own w base 69 1 v n cs) (hne : v.ownBlock ≠ some ub) (hn0 : 0 < n) : (callFunc 117 #[.slice (some ⟨ub, 0, none⟩) m2 m2, cutS 1 v i]).run Try.prog w = .ok (.value (.bool false)) w :=
  run_ovl (tR := 4) slt113 Try.func117 (by kernel_rfl) (by kernel_rfl) (by kernel_rfl) (by kernel_rfl) hU O hne hn0
end Go.Proofs.Ytcpfdfejojghbaa

/- Walks, written by a program: what each function of the translation hands back. -/
namespace Go.Proofs.Ytcpfdfejojghbaa
open Go.Gx Go.RowKit
attribute [local irreducible] wpList wpStill Code.wp Calls

theorem InsK {n i ub : Nat} {v x0 : Value} {cs : List Value} {w : World} (hO : Own w 0 27 1 v n cs) (hU : Bx w ub 27 [x0]) (h1 : cs.all Value.oneCell' = true) (hx1 : ([x0]).all Value.oneCell' = true) (hi : i ≤ n) (hn : n ≤ 1000) (hne : v.ownBlock ≠ some ub) : Ret Try.prog 67 #[v, (Value.int .i64 ((i : Nat) : Int)), (Value.slice (some ⟨ub, 0, none⟩) 1 1)] w (fun v' w' => w.grownBy w' v.ownBlock ∧ Own w' 0 27 1 v' (n + 1) (cs.take (i * 1) ++ [x0] ++ cs.drop (i * 1)) ∧ (v'.ownBlock = v.ownBlock ∨ ∀ k, v'.ownBlock = some k → w.heap.size ≤ k)) := by
 have h0 : 0 ≤ w.heap.size := Nat.zero_le _
 have hlt := hU.lt
 have hO0 := hO.1
 have hb := grown_refl w v.ownBlock
 refine enter (N := 95) Try.func67 rfl rfl (by simp) fun a0 hN hd hA => ?_
 have s0 : a0.tmps.getD 0 undef = v := hA 0 (by simp)
 have s1 : a0.tmps.getD 1 undef = (Value.int .i64 ((i : Nat) : Int)) := hA 1 (by simp)
 have s2 : a0.tmps.getD 2 undef = (Value.slice (some ⟨ub, 0, none⟩) 1 1) := hA 2 (by simp)
 clear hA
 refine seq_any fun K773 hK773 => ?_
 refine one_reg ?_
 refine op_assign rfl ?_
 refine reg_nil ?_
 refine hK773 _ _ ?_
 refine seq_any fun K774 hK774 => ?_
 refine one_reg ?_
 refine op_move (ev_base hN rfl s0) ?_
 refine op_move (ev_base hN rfl s1) ?_
 refine op_slice_cutS (k := i) slt90 (ev_hit hN rfl) hO (ev_hit hN rfl) (by omega) hi ?_
 refine reg_nil ?_
 refine hK774 _ _ ?_
 refine seq_any fun K775 hK775 => ?_
 refine one_reg ?_
 refine op_move (ev_base hN rfl s2) ?_
 refine op_len_rd Try.underlying90 (ev_hit hN rfl) (RdC.ofBx (sz := 1) (n := 1) hU rfl (by decide)) ?_
 refine op_assign (ev_hit hN rfl) ?_
 refine reg_nil ?_
 refine hK775 _ _ ?_
 refine seq_any fun K776 hK776 => ?_
 refine seq_any fun K777 hK777 => ?_
 refine one_reg ?_
 refine op_move (ev_hit hN rfl) ?_
 refine op_bin (v := .bool false) (ev_hit hN rfl) rfl (by rw [binOp_eql]; rfl) ?_
 refine reg_nil ?_
 refine hK777 _ _ ?_
 refine wp_cond_false (ev_hit hN rfl) ?_
 refine wp_skip ?_
 refine hK776 _ _ ?_
 refine seq_any fun K778 hK778 => ?_
 refine one_reg ?_
 refine op_move (ev_base hN rfl s0) ?_
 refine op_len_rd Try.underlying90 (ev_hit hN rfl) hO.rdw ?_
 refine op_assign (ev_hit hN rfl) ?_
 refine reg_nil ?_
 refine hK778 _ _ ?_
 refine seq_any fun K779 hK779 => ?_
 refine seq_any fun K780 hK780 => ?_
 refine one_reg ?_
 refine op_move (ev_base hN rfl s1) ?_
 refine op_move (ev_hit hN rfl) ?_
 refine op_eql (ev_hit hN rfl) (ev_hit hN rfl) (fun c22 => ?_) (fun c22 => ?_)
 · -- 22T
  refine reg_nil ?_
  refine hK780 _ _ ?_
  refine wp_cond_true (ev_hit hN rfl) ?_
  refine seq_any fun K781 hK781 => ?_
  refine one_reg ?_
  refine op_move (ev_base hN rfl s0) ?_
  refine op_move (ev_base hN rfl s2) ?_
  have hP787 := hO
  refine op_append slt90 (ev_hit hN rfl) hP787 (ev_hit hN rfl) (Src.ofRd Try.underlying90 (by decide) (RdC.ofBx (sz := 1) (n := 1) hU rfl (by decide)) hx1) (by unfold maxLen; omega) (by omega) (Nat.le_trans (by assumption) hb.size) ?_
  intro v782 w783 hO785 E784 hm786
  have z_w783 := E784.size
  have hU := hU.keep E784 (fun hh => hne hh.symm)
  have hb := grow_stepX hb E784 rfl
  have hO785 : Own w783 0 27 1 v782 (n + 1) ((cs ++ [x0])) := by simpa [u8v, sv] using hO785
  have ne_ub_v782 : v782.ownBlock ≠ some ub := ne_step (w1 := w) ⟨E784, hm786⟩ (by omega) hne
  refine op_assign (ev_hit hN rfl) ?_
  refine reg_nil ?_
  refine hK781 _ _ ?_
  refine wp_ret (then_ret ( ?_))
  refine ret1 rfl hd (ev_hit hN rfl) ⟨_, rfl, ?_⟩
  -- path 22T
  exact ⟨hb, hO785.cast rfl (by rw [show i = n by omega]; exact (ins_end hO0).symm), hm786⟩
 · -- 22F
  refine reg_nil ?_
  refine hK780 _ _ ?_
  refine wp_cond_false (ev_hit hN rfl) ?_
  refine wp_skip ?_
  refine hK779 _ _ ?_
  refine seq_any fun K788 hK788 => ?_
  refine seq_any fun K789 hK789 => ?_
  refine one_reg ?_
  refine op_move (ev_hit hN rfl) ?_
  refine op_move (ev_hit hN rfl) ?_
  refine op_add (ev_hit hN rfl) (ev_hit hN rfl) (add64 (by omega)) ?_
  refine op_move (ev_base hN rfl s0) ?_
  obtain ⟨cap790, hcap791_1, hcap791_2, hcap791⟩ := hO.capOf
  have hcap791_3 : cap790 ≤ 9223372036854775807 := hcap791_2
  refine op_cap (c := cap790) Try.underlying90 (by rw [(ev_hit hN rfl)]; exact hcap791) ?_
  refine op_gtr (ev_hit hN rfl) (ev_hit hN rfl) (fun c31 => ?_) (fun c31 => ?_)
  · -- 31T
   refine reg_nil ?_
   refine hK789 _ _ ?_
   refine wp_cond_true (ev_hit hN rfl) ?_
   refine seq_any fun K792 hK792 => ?_
   refine one_reg ?_
   refine op_move (ev_base hN rfl s0) ?_
   refine op_move (ev_base hN rfl s1) ?_
   refine op_slice_hiC (m := i) slt90 (ev_hit hN rfl) hcap791 (ev_hit hN rfl) rfl (by omega) ?_
   refine op_move (ev_hit hN rfl) ?_
   refine op_move (ev_hit hN rfl) ?_
   refine op_add (ev_hit hN rfl) (ev_hit hN rfl) (add64 (by omega)) ?_
   refine op_move (ev_base hN rfl s1) ?_
   refine op_sub (r := ((n + 1 - i : Nat) : Int)) (ev_hit hN rfl) (ev_hit hN rfl) ((sub64 (by omega)).trans (by omega)) ?_
   refine op_append_zeros_grow (i := i) (m := n + 1 - i) slt90 Try.underlying3 (ev_hit hN rfl) hO hcap791 hi (ev_hit hN rfl) rfl (by omega) (by omega) (by omega) (by omega) (Nat.zero_le _) ?_
   intro v793 w794 zs795 hO796 E797 hf798
   have hO796 : Own w794 w.heap.size 27 1 v793 (n + 1) (cs.take (i * 1) ++ zs795) := (hO796.cast (by omega) rfl).rebase hf798
   have hzl : zs795.length = (n - i) * 1 + 1 * 1 := by have q1 := hO796.1; have q2 := hO.1; rw [List.length_append, List.length_take] at q1; omega
   have ne799 := fresh_ne hf798 hlt
   have dj800 : DJ v793 v := fun k hk hg => by have q1 := (hO796.lt k hk).1; have q2 := (hO.lt k hg).2; omega
   have z_w794 := E797.size
   have hO := hO.keep0 E797
   have hU := hU.keep0 E797
   have hb := grow_step0 hb E797
   refine op_assign (ev_hit hN rfl) ?_
   refine reg_nil ?_
   refine hK792 _ _ ?_
   refine seq_any fun K801 hK801 => ?_
   refine one_reg ?_
   refine op_move (ev_hit hN rfl) ?_
   refine op_move (ev_base hN rfl s1) ?_
   refine op_slice_cutS (k := i) slt90 (ev_hit hN rfl) hO796 (ev_hit hN rfl) (by omega) (by omega) ?_
   refine op_move (ev_base hN rfl s2) ?_
   have hP805 := hO796
   refine op_copy_cutS (k := i) (q := 1) slt90 (ev_hit hN rfl) hP805 (ev_hit hN rfl) (RdC.ofBx (sz := 1) (n := 1) hU rfl (by decide)) hx1 (by omega) (Nat.le_refl _) (.inl rfl) ?_
   intro w802 hO804 E803
   have z_w802 := E803.size
   have hO := hO.keepD E803 dj800.symm
   have hU := hU.keep E803 (fun hh => ne799 hh.symm)
   have hb := grow_stepO hb hP805 E803 (by omega)
   refine reg_nil ?_
   refine hK801 _ _ ?_
   refine seq_any fun K806 hK806 => ?_
   refine reg_from mixed ?_
   intro w808 E807
   have z_w808 := E807.size
   have hO := hO.keep0 E807
   have hU := hU.keep0 E807
   have hO804 := hO804.keep0 E807
   have hb := grow_step0 hb E807
   refine from_still (m := 8) 8 (hd := [_, _, _, _, _, _, _, _]) (by kernel_rfl) rfl rfl ?_
   refine st_step rfl (fun _ h9 => op_move (ev_hit hN rfl) h9) ?_
   refine st_step rfl (fun _ h9 => op_move (ev_base hN rfl s1) h9) ?_
   refine st_step rfl (fun _ h9 => op_move (ev_hit hN rfl) h9) ?_
   refine st_step rfl (fun _ h9 => op_add (ev_hit hN rfl) (ev_hit hN rfl) (add64 (by omega)) h9) ?_
   refine st_step rfl (fun _ h9 => op_slice_cutS (k := i + 1) slt90 (ev_hit hN rfl) hO804 (ev_hit hN rfl) (by omega) (by omega) h9) ?_
   refine st_step rfl (fun _ h9 => op_move (ev_base hN rfl s0) h9) ?_
   refine st_step rfl (fun _ h9 => op_move (ev_base hN rfl s1) h9) ?_
   refine st_step rfl (fun _ h9 => op_slice_cutS (k := i) slt90 (ev_hit hN rfl) hO (ev_hit hN rfl) (by omega) hi h9) ?_
   refine st_nil ?_
   refine from_seq (tl := [_]) (by decide) (by kernel_rfl) rfl ?_
   have hP812 := hO804
   refine op_copy_cutS (k := i + 1) (q := n - i) slt90 (ev_hit hN rfl) hP812 (ev_hit hN rfl) (hO.cutO hi).rdw (all_drop_take h1) (by omega) (Nat.le_refl _) (.inl rfl) ?_
   intro w809 hO811 E810
   have z_w809 := E810.size
   have hO := hO.keepD E810 dj800.symm
   have hU := hU.keep E810 (fun hh => ne799 hh.symm)
   have hb := grow_stepO hb hP812 E810 (by omega)
   refine reg_nil ?_
   refine hK806 _ _ ?_
   refine seq_any fun K813 hK813 => ?_
   refine one_reg ?_
   refine op_move (ev_hit hN rfl) ?_
   refine op_assign (ev_hit hN rfl) ?_
   refine reg_nil ?_
   refine hK813 _ _ ?_
   refine wp_ret (then_ret ( ?_))
   refine ret1 rfl hd (ev_hit hN rfl) ⟨_, rfl, ?_⟩
   -- path 22F 31T
   exact ⟨hb, (hO811.mono (Nat.zero_le _)).cast rfl (by rw [Nat.add_mul i 1 1]; exact ins_grow (by omega) hzl rfl), .inr hf798⟩
  · -- 31F
   refine reg_nil ?_
   refine hK789 _ _ ?_
   refine wp_cond_false (ev_hit hN rfl) ?_
   refine wp_skip ?_
   refine hK788 _ _ ?_
   refine seq_any fun K814 hK814 => ?_
   refine one_reg ?_
   refine op_move (ev_base hN rfl s0) ?_
   refine op_move (ev_hit hN rfl) ?_
   refine op_move (ev_hit hN rfl) ?_
   refine op_add (ev_hit hN rfl) (ev_hit hN rfl) (add64 (by omega)) ?_
   refine op_slice_hiC (m := n + 1) slt90 (ev_hit hN rfl) hcap791 (ev_hit hN rfl) (by omega) (by omega) ?_
   obtain ⟨sp815, hW816⟩ := hO.wide (m := n + 1) hcap791 (by omega) (by omega)
   refine op_assign (ev_hit hN rfl) ?_
   refine reg_nil ?_
   refine hK814 _ _ ?_
   refine seq_any fun K817 hK817 => ?_
   refine seq_any fun K818 hK818 => ?_
   refine one_reg ?_
   refine op_move (ev_base hN rfl s2) ?_
   refine op_move (ev_hit hN rfl) ?_
   refine op_move (ev_base hN rfl s1) ?_
   refine op_move (ev_hit hN rfl) ?_
   refine op_add (ev_hit hN rfl) (ev_hit hN rfl) (add64 (by omega)) ?_
   refine op_slice_cutS (k := i + 1) slt90 (ev_hit hN rfl) hW816 (ev_hit hN rfl) (by omega) (by omega) ?_
   refine op_ext2 (ev_hit hN rfl) (ev_hit hN rfl) (ovl99 hU hW816 (hiV_ne hne) (by omega)) ?_
   refine op_not (ev_hit hN rfl) ?_
   refine reg_nil ?_
   refine hK818 _ _ ?_
   refine wp_cond_true (ev_hit hN rfl) ?_
   refine seq_any fun K819 hK819 => ?_
   refine reg_from mixed ?_
   intro w821 E820
   have z_w821 := E820.size
   have hU := hU.keep0 E820
   have hW816 := hW816.keep0 E820
   have hb := grow_step0 hb E820
   refine from_still (m := 8) 8 (hd := [_, _, _, _, _, _, _, _]) (by kernel_rfl) rfl rfl ?_
   refine st_step rfl (fun _ h9 => op_move (ev_hit hN rfl) h9) ?_
   refine st_step rfl (fun _ h9 => op_move (ev_base hN rfl s1) h9) ?_
   refine st_step rfl (fun _ h9 => op_move (ev_hit hN rfl) h9) ?_
   refine st_step rfl (fun _ h9 => op_add (ev_hit hN rfl) (ev_hit hN rfl) (add64 (by omega)) h9) ?_
   refine st_step rfl (fun _ h9 => op_slice_cutS (k := i + 1) slt90 (ev_hit hN rfl) hW816 (ev_hit hN rfl) (by omega) (by omega) h9) ?_
   refine st_step rfl (fun _ h9 => op_move (ev_hit hN rfl) h9) ?_
   refine st_step rfl (fun _ h9 => op_move (ev_base hN rfl s1) h9) ?_
   refine st_step rfl (fun _ h9 => op_slice_cutS (k := i) slt90 (ev_hit hN rfl) hW816 (ev_hit hN rfl) (by omega) (by omega) h9) ?_
   refine st_nil ?_
   refine from_seq (tl := [_]) (by decide) (by kernel_rfl) rfl ?_
   have hP825 := hW816
   refine op_copy_cutS (k := i + 1) (q := n - i) slt90 (ev_hit hN rfl) hP825 (ev_hit hN rfl) (hW816.cutO (k := i) (by omega)).rdw (all_mid h1 (by have := hO0; omega)) (by omega) (by omega) (.inr (by omega)) ?_
   intro w822 hO824 E823
   have z_w822 := E823.size
   have hU := hU.keep E823 (fun hh => (hiV_ne hne) hh.symm)
   have hb := grow_stepX hb E823 (hiV_ob v (n + 1))
   refine reg_nil ?_
   refine hK819 _ _ ?_
   refine seq_any fun K826 hK826 => ?_
   refine one_reg ?_
   refine op_move (ev_hit hN rfl) ?_
   refine op_move (ev_base hN rfl s1) ?_
   refine op_slice_cutS (k := i) slt90 (ev_hit hN rfl) hO824 (ev_hit hN rfl) (by omega) (by omega) ?_
   refine op_move (ev_base hN rfl s2) ?_
   have hP830 := hO824
   refine op_copy_cutS (k := i) (q := 1) slt90 (ev_hit hN rfl) hP830 (ev_hit hN rfl) (RdC.ofBx (sz := 1) (n := 1) hU rfl (by decide)) hx1 (by omega) (by decide) (.inl rfl) ?_
   intro w827 hO829 E828
   have z_w827 := E828.size
   have hU := hU.keep E828 (fun hh => (hiV_ne hne) hh.symm)
   have hb := grow_stepX hb E828 (hiV_ob v (n + 1))
   refine reg_nil ?_
   refine hK826 _ _ ?_
   refine seq_any fun K831 hK831 => ?_
   refine one_reg ?_
   refine op_move (ev_hit hN rfl) ?_
   refine op_assign (ev_hit hN rfl) ?_
   refine reg_nil ?_
   refine hK831 _ _ ?_
   refine wp_ret (then_ret ( ?_))
   refine ret1 rfl hd (ev_hit hN rfl) ⟨_, rfl, ?_⟩
   -- path 22F 31F
   exact ⟨hb, hO829.cast rfl (by rw [Nat.add_mul i 1 1]; exact ins_room (by omega) (by have := hW816.1; omega) rfl), .inl (hiV_ob _ _)⟩

theorem InsI {n i ub : Nat} {v x0 x1 : Value} {cs : List Value} {w : World} (hO : Own w 0 51 2 v n cs) (hU : Bx w ub 51 [x0, x1]) (h1 : cs.all Value.oneCell' = true) (hx1 : ([x0, x1]).all Value.oneCell' = true) (hi : i ≤ n) (hn : n ≤ 1000) (hne : v.ownBlock ≠ some ub) : Ret Try.prog 83 #[v, (Value.int .i64 ((i : Nat) : Int)), (Value.slice (some ⟨ub, 0, none⟩) 1 1)] w (fun v' w' => w.grownBy w' v.ownBlock ∧ Own w' 0 51 2 v' (n + 1) (cs.take (i * 2) ++ [x0, x1] ++ cs.drop (i * 2)) ∧ (v'.ownBlock = v.ownBlock ∨ ∀ k, v'.ownBlock = some k → w.heap.size ≤ k)) := by
 have h0 : 0 ≤ w.heap.size := Nat.zero_le _
 have hlt := hU.lt
 have hO0 := hO.1
 have hb := grown_refl w v.ownBlock
 refine enter (N := 95) Try.func83 rfl rfl (by simp) fun a0 hN hd hA => ?_
 have s0 : a0.tmps.getD 0 undef = v := hA 0 (by simp)
 have s1 : a0.tmps.getD 1 undef = (Value.int .i64 ((i : Nat) : Int)) := hA 1 (by simp)
 have s2 : a0.tmps.getD 2 undef = (Value.slice (some ⟨ub, 0, none⟩) 1 1) := hA 2 (by simp)
 clear hA
 refine seq_any fun K832 hK832 => ?_
 refine one_reg ?_
 refine op_assign rfl ?_
 refine reg_nil ?_
 refine hK832 _ _ ?_
 refine seq_any fun K833 hK833 => ?_
 refine one_reg ?_
 refine op_move (ev_base hN rfl s0) ?_
 refine op_move (ev_base hN rfl s1) ?_
 refine op_slice_cutS (k := i) slt48 (ev_hit hN rfl) hO (ev_hit hN rfl) (by omega) hi ?_
 refine reg_nil ?_
 refine hK833 _ _ ?_
 refine seq_any fun K834 hK834 => ?_
 refine one_reg ?_
 refine op_move (ev_base hN rfl s2) ?_
 refine op_len_rd Try.underlying48 (ev_hit hN rfl) (RdC.ofBx (sz := 2) (n := 1) hU rfl (by decide)) ?_
 refine op_assign (ev_hit hN rfl) ?_
 refine reg_nil ?_
 refine hK834 _ _ ?_
 refine seq_any fun K835 hK835 => ?_
 refine seq_any fun K836 hK836 => ?_
 refine one_reg ?_
 refine op_move (ev_hit hN rfl) ?_
 refine op_bin (v := .bool false) (ev_hit hN rfl) rfl (by rw [binOp_eql]; rfl) ?_
 refine reg_nil ?_
 refine hK836 _ _ ?_
 refine wp_cond_false (ev_hit hN rfl) ?_
 refine wp_skip ?_
 refine hK835 _ _ ?_
 refine seq_any fun K837 hK837 => ?_
 refine one_reg ?_
 refine op_move (ev_base hN rfl s0) ?_
 refine op_len_rd Try.underlying48 (ev_hit hN rfl) hO.rdw ?_
 refine op_assign (ev_hit hN rfl) ?_
 refine reg_nil ?_
 refine hK837 _ _ ?_
 refine seq_any fun K838 hK838 => ?_
 refine seq_any fun K839 hK839 => ?_
 refine one_reg ?_
 refine op_move (ev_base hN rfl s1) ?_
 refine op_move (ev_hit hN rfl) ?_
 refine op_eql (ev_hit hN rfl) (ev_hit hN rfl) (fun c22 => ?_) (fun c22 => ?_)
 · -- 22T
  refine reg_nil ?_
  refine hK839 _ _ ?_
  refine wp_cond_true (ev_hit hN rfl) ?_
  refine seq_any fun K840 hK840 => ?_
  refine one_reg ?_
  refine op_move (ev_base hN rfl s0) ?_
  refine op_move (ev_base hN rfl s2) ?_
  have hP846 := hO
  refine op_append slt48 (ev_hit hN rfl) hP846 (ev_hit hN rfl) (Src.ofRd Try.underlying48 (by decide) (RdC.ofBx (sz := 2) (n := 1) hU rfl (by decide)) hx1) (by unfold maxLen; omega) (by omega) (Nat.le_trans (by assumption) hb.size) ?_
  intro v841 w842 hO844 E843 hm845
  have z_w842 := E843.size
  have hU := hU.keep E843 (fun hh => hne hh.symm)
  have hb := grow_stepX hb E843 rfl
  have hO844 : Own w842 0 51 2 v841 (n + 1) ((cs ++ [x0, x1])) := by simpa [u8v, sv] using hO844
  have ne_ub_v841 : v841.ownBlock ≠ some ub := ne_step (w1 := w) ⟨E843, hm845⟩ (by omega) hne
  refine op_assign (ev_hit hN rfl) ?_
  refine reg_nil ?_
  refine hK840 _ _ ?_
  refine wp_ret (then_ret ( ?_))
  refine ret1 rfl hd (ev_hit hN rfl) ⟨_, rfl, ?_⟩
  -- path 22T
  exact ⟨hb, hO844.cast rfl (by rw [show i = n by omega]; exact (ins_end hO0).symm), hm845⟩
 · -- 22F
  refine reg_nil ?_
  refine hK839 _ _ ?_
  refine wp_cond_false (ev_hit hN rfl) ?_
  refine wp_skip ?_
  refine hK838 _ _ ?_
  refine seq_any fun K847 hK847 => ?_
  refine seq_any fun K848 hK848 => ?_
  refine one_reg ?_
  refine op_move (ev_hit hN rfl) ?_
  refine op_move (ev_hit hN rfl) ?_
  refine op_add (ev_hit hN rfl) (ev_hit hN rfl) (add64 (by omega)) ?_
  refine op_move (ev_base hN rfl s0) ?_
  obtain ⟨cap849, hcap850_1, hcap850_2, hcap850⟩ := hO.capOf
  have hcap850_3 : cap849 ≤ 9223372036854775807 := hcap850_2
  refine op_cap (c := cap849) Try.underlying48 (by rw [(ev_hit hN rfl)]; exact hcap850) ?_
  refine op_gtr (ev_hit hN rfl) (ev_hit hN rfl) (fun c31 => ?_) (fun c31 => ?_)
  · -- 31T
   refine reg_nil ?_
   refine hK848 _ _ ?_
   refine wp_cond_true (ev_hit hN rfl) ?_
   refine seq_any fun K851 hK851 => ?_
   refine one_reg ?_
   refine op_move (ev_base hN rfl s0) ?_
   refine op_move (ev_base hN rfl s1) ?_
   refine op_slice_hiC (m := i) slt48 (ev_hit hN rfl) hcap850 (ev_hit hN rfl) rfl (by omega) ?_
   refine op_move (ev_hit hN rfl) ?_
   refine op_move (ev_hit hN rfl) ?_
   refine op_add (ev_hit hN rfl) (ev_hit hN rfl) (add64 (by omega)) ?_
   refine op_move (ev_base hN rfl s1) ?_
   refine op_sub (r := ((n + 1 - i : Nat) : Int)) (ev_hit hN rfl) (ev_hit hN rfl) ((sub64 (by omega)).trans (by omega)) ?_
   refine op_append_zeros_grow (i := i) (m := n + 1 - i) slt48 Try.underlying3 (ev_hit hN rfl) hO hcap850 hi (ev_hit hN rfl) rfl (by omega) (by omega) (by omega) (by omega) (Nat.zero_le _) ?_
   intro v852 w853 zs854 hO855 E856 hf857
   have hO855 : Own w853 w.heap.size 51 2 v852 (n + 1) (cs.take (i * 2) ++ zs854) := (hO855.cast (by omega) rfl).rebase hf857
   have hzl : zs854.length = (n - i) * 2 + 1 * 2 := by have q1 := hO855.1; have q2 := hO.1; rw [List.length_append, List.length_take] at q1; omega
   have ne858 := fresh_ne hf857 hlt
   have dj859 : DJ v852 v := fun k hk hg => by have q1 := (hO855.lt k hk).1; have q2 := (hO.lt k hg).2; omega
   have z_w853 := E856.size
   have hO := hO.keep0 E856
   have hU := hU.keep0 E856
   have hb := grow_step0 hb E856
   refine op_assign (ev_hit hN rfl) ?_
   refine reg_nil ?_
   refine hK851 _ _ ?_
   refine seq_any fun K860 hK860 => ?_
   refine one_reg ?_
   refine op_move (ev_hit hN rfl) ?_
   refine op_move (ev_base hN rfl s1) ?_
   refine op_slice_cutS (k := i) slt48 (ev_hit hN rfl) hO855 (ev_hit hN rfl) (by omega) (by omega) ?_
   refine op_move (ev_base hN rfl s2) ?_
   have hP864 := hO855
   refine op_copy_cutS (k := i) (q := 1) slt48 (ev_hit hN rfl) hP864 (ev_hit hN rfl) (RdC.ofBx (sz := 2) (n := 1) hU rfl (by decide)) hx1 (by omega) (Nat.le_refl _) (.inl rfl) ?_
   intro w861 hO863 E862
   have z_w861 := E862.size
   have hO := hO.keepD E862 dj859.symm
   have hU := hU.keep E862 (fun hh => ne858 hh.symm)
   have hb := grow_stepO hb hP864 E862 (by omega)
   refine reg_nil ?_
   refine hK860 _ _ ?_
   refine seq_any fun K865 hK865 => ?_
   refine reg_from mixed ?_
   intro w867 E866
   have z_w867 := E866.size
   have hO := hO.keep0 E866
   have hU := hU.keep0 E866
   have hO863 := hO863.keep0 E866
   have hb := grow_step0 hb E866
   refine from_still (m := 8) 8 (hd := [_, _, _, _, _, _, _, _]) (by kernel_rfl) rfl rfl ?_
   refine st_step rfl (fun _ h9 => op_move (ev_hit hN rfl) h9) ?_
   refine st_step rfl (fun _ h9 => op_move (ev_base hN rfl s1) h9) ?_
   refine st_step rfl (fun _ h9 => op_move (ev_hit hN rfl) h9) ?_
   refine st_step rfl (fun _ h9 => op_add (ev_hit hN rfl) (ev_hit hN rfl) (add64 (by omega)) h9) ?_
   refine st_step rfl (fun _ h9 => op_slice_cutS (k := i + 1) slt48 (ev_hit hN rfl) hO863 (ev_hit hN rfl) (by omega) (by omega) h9) ?_
   refine st_step rfl (fun _ h9 => op_move (ev_base hN rfl s0) h9) ?_
   refine st_step rfl (fun _ h9 => op_move (ev_base hN rfl s1) h9) ?_
   refine st_step rfl (fun _ h9 => op_slice_cutS (k := i) slt48 (ev_hit hN rfl) hO (ev_hit hN rfl) (by omega) hi h9) ?_
   refine st_nil ?_
   refine from_seq (tl := [_]) (by decide) (by kernel_rfl) rfl ?_
   have hP871 := hO863
   refine op_copy_cutS (k := i + 1) (q := n - i) slt48 (ev_hit hN rfl) hP871 (ev_hit hN rfl) (hO.cutO hi).rdw (all_drop_take h1) (by omega) (Nat.le_refl _) (.inl rfl) ?_
   intro w868 hO870 E869
   have z_w868 := E869.size
   have hO := hO.keepD E869 dj859.symm
   have hU := hU.keep E869 (fun hh => ne858 hh.symm)
   have hb := grow_stepO hb hP871 E869 (by omega)
   refine reg_nil ?_
   refine hK865 _ _ ?_
   refine seq_any fun K872 hK872 => ?_
   refine one_reg ?_
   refine op_move (ev_hit hN rfl) ?_
   refine op_assign (ev_hit hN rfl) ?_
   refine reg_nil ?_
   refine hK872 _ _ ?_
   refine wp_ret (then_ret ( ?_))
   refine ret1 rfl hd (ev_hit hN rfl) ⟨_, rfl, ?_⟩
   -- path 22F 31T
   exact ⟨hb, (hO870.mono (Nat.zero_le _)).cast rfl (by rw [Nat.add_mul i 1 2]; exact ins_grow (by omega) hzl rfl), .inr hf857⟩
  · -- 31F
   refine reg_nil ?_
   refine hK848 _ _ ?_
   refine wp_cond_false (ev_hit hN rfl) ?_
   refine wp_skip ?_
   refine hK847 _ _ ?_
   refine seq_any fun K873 hK873 => ?_
   refine one_reg ?_
   refine op_move (ev_base hN rfl s0) ?_
   refine op_move (ev_hit hN rfl) ?_
   refine op_move (ev_hit hN rfl) ?_
   refine op_add (ev_hit hN rfl) (ev_hit hN rfl) (add64 (by omega)) ?_
   refine op_slice_hiC (m := n + 1) slt48 (ev_hit hN rfl) hcap850 (ev_hit hN rfl) (by omega) (by omega) ?_
   obtain ⟨sp874, hW875⟩ := hO.wide (m := n + 1) hcap850 (by omega) (by omega)
   refine op_assign (ev_hit hN rfl) ?_
   refine reg_nil ?_
   refine hK873 _ _ ?_
   refine seq_any fun K876 hK876 => ?_
   refine seq_any fun K877 hK877 => ?_
   refine one_reg ?_
   refine op_move (ev_base hN rfl s2) ?_
   refine op_move (ev_hit hN rfl) ?_
   refine op_move (ev_base hN rfl s1) ?_
   refine op_move (ev_hit hN rfl) ?_
   refine op_add (ev_hit hN rfl) (ev_hit hN rfl) (add64 (by omega)) ?_
   refine op_slice_cutS (k := i + 1) slt48 (ev_hit hN rfl) hW875 (ev_hit hN rfl) (by omega) (by omega) ?_
   refine op_ext2 (ev_hit hN rfl) (ev_hit hN rfl) (ovl115 hU hW875 (hiV_ne hne) (by omega)) ?_
   refine op_not (ev_hit hN rfl) ?_
   refine reg_nil ?_
   refine hK877 _ _ ?_
   refine wp_cond_true (ev_hit hN rfl) ?_
   refine seq_any fun K878 hK878 => ?_
   refine reg_from mixed ?_
   intro w880 E879
   have z_w880 := E879.size
   have hU := hU.keep0 E879
   have hW875 := hW875.keep0 E879
   have hb := grow_step0 hb E879
   refine from_still (m := 8) 8 (hd := [_, _, _, _, _, _, _, _]) (by kernel_rfl) rfl rfl ?_
   refine st_step rfl (fun _ h9 => op_move (ev_hit hN rfl) h9) ?_
   refine st_step rfl (fun _ h9 => op_move (ev_base hN rfl s1) h9) ?_
   refine st_step rfl (fun _ h9 => op_move (ev_hit hN rfl) h9) ?_
   refine st_step rfl (fun _ h9 => op_add (ev_hit hN rfl) (ev_hit hN rfl) (add64 (by omega)) h9) ?_
   refine st_step rfl (fun _ h9 => op_slice_cutS (k := i + 1) slt48 (ev_hit hN rfl) hW875 (ev_hit hN rfl) (by omega) (by omega) h9) ?_
   refine st_step rfl (fun _ h9 => op_move (ev_hit hN rfl) h9) ?_
   refine st_step rfl (fun _ h9 => op_move (ev_base hN rfl s1) h9) ?_
   refine st_step rfl (fun _ h9 => op_slice_cutS (k := i) slt48 (ev_hit hN rfl) hW875 (ev_hit hN rfl) (by omega) (by omega) h9) ?_
   refine st_nil ?_
   refine from_seq (tl := [_]) (by decide) (by kernel_rfl) rfl ?_
   have hP884 := hW875
   refine op_copy_cutS (k := i + 1) (q := n - i) slt48 (ev_hit hN rfl) hP884 (ev_hit hN rfl) (hW875.cutO (k := i) (by omega)).rdw (all_mid h1 (by have := hO0; omega)) (by omega) (by omega) (.inr (by omega)) ?_
   intro w881 hO883 E882
   have z_w881 := E882.size
   have hU := hU.keep E882 (fun hh => (hiV_ne hne) hh.symm)
   have hb := grow_stepX hb E882 (hiV_ob v (n + 1))
   refine reg_nil ?_
   refine hK878 _ _ ?_
   refine seq_any fun K885 hK885 => ?_
   refine one_reg ?_
   refine op_move (ev_hit hN rfl) ?_
   refine op_move (ev_base hN rfl s1) ?_
   refine op_slice_cutS (k := i) slt48 (ev_hit hN rfl) hO883 (ev_hit hN rfl) (by omega) (by omega) ?_
   refine op_move (ev_base hN rfl s2) ?_
   have hP889 := hO883
   refine op_copy_cutS (k := i) (q := 1) slt48 (ev_hit hN rfl) hP889 (ev_hit hN rfl) (RdC.ofBx (sz := 2) (n := 1) hU rfl (by decide)) hx1 (by omega) (by decide) (.inl rfl) ?_
   intro w886 hO888 E887
   have z_w886 := E887.size
   have hU := hU.keep E887 (fun hh => (hiV_ne hne) hh.symm)
   have hb := grow_stepX hb E887 (hiV_ob v (n + 1))
   refine reg_nil ?_
   refine hK885 _ _ ?_
   refine seq_any fun K890 hK890 => ?_
   refine one_reg ?_
   refine op_move (ev_hit hN rfl) ?_
   refine op_assign (ev_hit hN rfl) ?_
   refine reg_nil ?_
   refine hK890 _ _ ?_
   refine wp_ret (then_ret ( ?_))
   refine ret1 rfl hd (ev_hit hN rfl) ⟨_, rfl, ?_⟩
   -- path 22F 31F
   exact ⟨hb, hO888.cast rfl (by rw [Nat.add_mul i 1 2]; exact ins_room (by omega) (by have := hW875.1; omega) rfl), .inl (hiV_ob _ _)⟩

theorem InsNI {n i ub : Nat} {v x0 : Value} {cs : List Value} {w : World} (hO : Own w 0 69 1 v n cs) (hU : Bx w ub 69 [x0]) (h1 : cs.all Value.oneCell' = true) (hx1 : ([x0]).all Value.oneCell' = true) (hi : i ≤ n) (hn : n ≤ 1000) (hne : v.ownBlock ≠ some ub) : Ret Try.prog 85 #[v, (Value.int .i64 ((i : Nat) : Int)), (Value.slice (some ⟨ub, 0, none⟩) 1 1)] w (fun v' w' => w.grownBy w' v.ownBlock ∧ Own w' 0 69 1 v' (n + 1) (cs.take (i * 1) ++ [x0] ++ cs.drop (i * 1)) ∧ (v'.ownBlock = v.ownBlock ∨ ∀ k, v'.ownBlock = some k → w.heap.size ≤ k)) := by
 have h0 : 0 ≤ w.heap.size := Nat.zero_le _
 have hlt := hU.lt
 have hO0 := hO.1
 have hb := grown_refl w v.ownBlock
 refine enter (N := 95) Try.func85 rfl rfl (by simp) fun a0 hN hd hA => ?_
 have s0 : a0.tmps.getD 0 undef = v := hA 0 (by simp)
 have s1 : a0.tmps.getD 1 undef = (Value.int .i64 ((i : Nat) : Int)) := hA 1 (by simp)
 have s2 : a0.tmps.getD 2 undef = (Value.slice (some ⟨ub, 0, none⟩) 1 1) := hA 2 (by simp)
 clear hA
 refine seq_any fun K891 hK891 => ?_
 refine one_reg ?_
 refine op_assign rfl ?_
 refine reg_nil ?_
 refine hK891 _ _ ?_
 refine seq_any fun K892 hK892 => ?_
 refine one_reg ?_
 refine op_move (ev_base hN rfl s0) ?_
 refine op_move (ev_base hN rfl s1) ?_
 refine op_slice_cutS (k := i) slt113 (ev_hit hN rfl) hO (ev_hit hN rfl) (by omega) hi ?_
 refine reg_nil ?_
 refine hK892 _ _ ?_
 refine seq_any fun K893 hK893 => ?_
 refine one_reg ?_
 refine op_move (ev_base hN rfl s2) ?_
 refine op_len_rd Try.underlying113 (ev_hit hN rfl) (RdC.ofBx (sz := 1) (n := 1) hU rfl (by decide)) ?_
 refine op_assign (ev_hit hN rfl) ?_
 refine reg_nil ?_
 refine hK893 _ _ ?_
 refine seq_any fun K894 hK894 => ?_
 refine seq_any fun K895 hK895 => ?_
 refine one_reg ?_
 refine op_move (ev_hit hN rfl) ?_
 refine op_bin (v := .bool false) (ev_hit hN rfl) rfl (by rw [binOp_eql]; rfl) ?_
 refine reg_nil ?_
 refine hK895 _ _ ?_
 refine wp_cond_false (ev_hit hN rfl) ?_
 refine wp_skip ?_
 refine hK894 _ _ ?_
 refine seq_any fun K896 hK896 => ?_
 refine one_reg ?_
 refine op_move (ev_base hN rfl s0) ?_
 refine op_len_rd Try.underlying113 (ev_hit hN rfl) hO.rdw ?_
 refine op_assign (ev_hit hN rfl) ?_
 refine reg_nil ?_
 refine hK896 _ _ ?_
 refine seq_any fun K897 hK897 => ?_
 refine seq_any fun K898 hK898 => ?_
 refine one_reg ?_
 refine op_move (ev_base hN rfl s1) ?_
 refine op_move (ev_hit hN rfl) ?_
 refine op_eql (ev_hit hN rfl) (ev_hit hN rfl) (fun c22 => ?_) (fun c22 => ?_)
 · -- 22T
  refine reg_nil ?_
  refine hK898 _ _ ?_
  refine wp_cond_true (ev_hit hN rfl) ?_
  refine seq_any fun K899 hK899 => ?_
  refine one_reg ?_
  refine op_move (ev_base hN rfl s0) ?_
  refine op_move (ev_base hN rfl s2) ?_
  have hP905 := hO
  refine op_append slt113 (ev_hit hN rfl) hP905 (ev_hit hN rfl) (Src.ofRd Try.underlying113 (by decide) (RdC.ofBx (sz := 1) (n := 1) hU rfl (by decide)) hx1) (by unfold maxLen; omega) (by omega) (Nat.le_trans (by assumption) hb.size) ?_
  intro v900 w901 hO903 E902 hm904
  have z_w901 := E902.size
  have hU := hU.keep E902 (fun hh => hne hh.symm)
  have hb := grow_stepX hb E902 rfl
  have hO903 : Own w901 0 69 1 v900 (n + 1) ((cs ++ [x0])) := by simpa [u8v, sv] using hO903
  have ne_ub_v900 : v900.ownBlock ≠ some ub := ne_step (w1 := w) ⟨E902, hm904⟩ (by omega) hne
  refine op_assign (ev_hit hN rfl) ?_
  refine reg_nil ?_
  refine hK899 _ _ ?_
  refine wp_ret (then_ret ( ?_))
  refine ret1 rfl hd (ev_hit hN rfl) ⟨_, rfl, ?_⟩
  -- path 22T
  exact ⟨hb, hO903.cast rfl (by rw [show i = n by omega]; exact (ins_end hO0).symm), hm904⟩
 · -- 22F
  refine reg_nil ?_
  refine hK898 _ _ ?_
  refine wp_cond_false (ev_hit hN rfl) ?_
  refine wp_skip ?_
  refine hK897 _ _ ?_
  refine seq_any fun K906 hK906 => ?_
  refine seq_any fun K907 hK907 => ?_
  refine one_reg ?_
  refine op_move (ev_hit hN rfl) ?_
  refine op_move (ev_hit hN rfl) ?_
  refine op_add (ev_hit hN rfl) (ev_hit hN rfl) (add64 (by omega)) ?_
  refine op_move (ev_base hN rfl s0) ?_
  obtain ⟨cap908, hcap909_1, hcap909_2, hcap909⟩ := hO.capOf
  have hcap909_3 : cap908 ≤ 9223372036854775807 := hcap909_2
  refine op_cap (c := cap908) Try.underlying113 (by rw [(ev_hit hN rfl)]; exact hcap909) ?_
  refine op_gtr (ev_hit hN rfl) (ev_hit hN rfl) (fun c31 => ?_) (fun c31 => ?_)
  · -- 31T
   refine reg_nil ?_
   refine hK907 _ _ ?_
   refine wp_cond_true (ev_hit hN rfl) ?_
   refine seq_any fun K910 hK910 => ?_
   refine one_reg ?_
   refine op_move (ev_base hN rfl s0) ?_
   refine op_move (ev_base hN rfl s1) ?_
   refine op_slice_hiC (m := i) slt113 (ev_hit hN rfl) hcap909 (ev_hit hN rfl) rfl (by omega) ?_
   refine op_move (ev_hit hN rfl) ?_
   refine op_move (ev_hit hN rfl) ?_
   refine op_add (ev_hit hN rfl) (ev_hit hN rfl) (add64 (by omega)) ?_
   refine op_move (ev_base hN rfl s1) ?_
   refine op_sub (r := ((n + 1 - i : Nat) : Int)) (ev_hit hN rfl) (ev_hit hN rfl) ((sub64 (by omega)).trans (by omega)) ?_
   refine op_append_zeros_grow (i := i) (m := n + 1 - i) slt113 Try.underlying3 (ev_hit hN rfl) hO hcap909 hi (ev_hit hN rfl) rfl (by omega) (by omega) (by omega) (by omega) (Nat.zero_le _) ?_
   intro v911 w912 zs913 hO914 E915 hf916
   have hO914 : Own w912 w.heap.size 69 1 v911 (n + 1) (cs.take (i * 1) ++ zs913) := (hO914.cast (by omega) rfl).rebase hf916
   have hzl : zs913.length = (n - i) * 1 + 1 * 1 := by have q1 := hO914.1; have q2 := hO.1; rw [List.length_append, List.length_take] at q1; omega
   have ne917 := fresh_ne hf916 hlt
   have dj918 : DJ v911 v := fun k hk hg => by have q1 := (hO914.lt k hk).1; have q2 := (hO.lt k hg).2; omega
   have z_w912 := E915.size
   have hO := hO.keep0 E915
   have hU := hU.keep0 E915
   have hb := grow_step0 hb E915
   refine op_assign (ev_hit hN rfl) ?_
   refine reg_nil ?_
   refine hK910 _ _ ?_
   refine seq_any fun K919 hK919 => ?_
   refine one_reg ?_
   refine op_move (ev_hit hN rfl) ?_
   refine op_move (ev_base hN rfl s1) ?_
   refine op_slice_cutS (k := i) slt113 (ev_hit hN rfl) hO914 (ev_hit hN rfl) (by omega) (by omega) ?_
   refine op_move (ev_base hN rfl s2) ?_
   have hP923 := hO914
   refine op_copy_cutS (k := i) (q := 1) slt113 (ev_hit hN rfl) hP923 (ev_hit hN rfl) (RdC.ofBx (sz := 1) (n := 1) hU rfl (by decide)) hx1 (by omega) (Nat.le_refl _) (.inl rfl) ?_
   intro w920 hO922 E921
   have z_w920 := E921.size
   have hO := hO.keepD E921 dj918.symm
   have hU := hU.keep E921 (fun hh => ne917 hh.symm)
   have hb := grow_stepO hb hP923 E921 (by omega)
   refine reg_nil ?_
   refine hK919 _ _ ?_
   refine seq_any fun K924 hK924 => ?_
   refine reg_from mixed ?_
   intro w926 E925
   have z_w926 := E925.size
   have hO := hO.keep0 E925
   have hU := hU.keep0 E925
   have hO922 := hO922.keep0 E925
   have hb := grow_step0 hb E925
   refine from_still (m := 8) 8 (hd := [_, _, _, _, _, _, _, _]) (by kernel_rfl) rfl rfl ?_
   refine st_step rfl (fun _ h9 => op_move (ev_hit hN rfl) h9) ?_
   refine st_step rfl (fun _ h9 => op_move (ev_base hN rfl s1) h9) ?_
   refine st_step rfl (fun _ h9 => op_move (ev_hit hN rfl) h9) ?_
   refine st_step rfl (fun _ h9 => op_add (ev_hit hN rfl) (ev_hit hN rfl) (add64 (by omega)) h9) ?_
   refine st_step rfl (fun _ h9 => op_slice_cutS (k := i + 1) slt113 (ev_hit hN rfl) hO922 (ev_hit hN rfl) (by omega) (by omega) h9) ?_
   refine st_step rfl (fun _ h9 => op_move (ev_base hN rfl s0) h9) ?_
   refine st_step rfl (fun _ h9 => op_move (ev_base hN rfl s1) h9) ?_
   refine st_step rfl (fun _ h9 => op_slice_cutS (k := i) slt113 (ev_hit hN rfl) hO (ev_hit hN rfl) (by omega) hi h9) ?_
   refine st_nil ?_
   refine from_seq (tl := [_]) (by decide) (by kernel_rfl) rfl ?_
   have hP930 := hO922
   refine op_copy_cutS (k := i + 1) (q := n - i) slt113 (ev_hit hN rfl) hP930 (ev_hit hN rfl) (hO.cutO hi).rdw (all_drop_take h1) (by omega) (Nat.le_refl _) (.inl rfl) ?_
   intro w927 hO929 E928
   have z_w927 := E928.size
   have hO := hO.keepD E928 dj918.symm
   have hU := hU.keep E928 (fun hh => ne917 hh.symm)
   have hb := grow_stepO hb hP930 E928 (by omega)
   refine reg_nil ?_
   refine hK924 _ _ ?_
   refine seq_any fun K931 hK931 => ?_
   refine one_reg ?_
   refine op_move (ev_hit hN rfl) ?_
   refine op_assign (ev_hit hN rfl) ?_
   refine reg_nil ?_
   refine hK931 _ _ ?_
   refine wp_ret (then_ret ( ?_))
   refine ret1 rfl hd (ev_hit hN rfl) ⟨_, rfl, ?_⟩
   -- path 22F 31T
   exact ⟨hb, (hO929.mono (Nat.zero_le _)).cast rfl (by rw [Nat.add_mul i 1 1]; exact ins_grow (by omega) hzl rfl), .inr hf916⟩
  · -- 31F
   refine reg_nil ?_
   refine hK907 _ _ ?_
   refine wp_cond_false (ev_hit hN rfl) ?_
   refine wp_skip ?_
   refine hK906 _ _ ?_
   refine seq_any fun K932 hK932 => ?_
   refine one_reg ?_
   refine op_move (ev_base hN rfl s0) ?_
   refine op_move (ev_hit hN rfl) ?_
   refine op_move (ev_hit hN rfl) ?_
   refine op_add (ev_hit hN rfl) (ev_hit hN rfl) (add64 (by omega)) ?_
   refine op_slice_hiC (m := n + 1) slt113 (ev_hit hN rfl) hcap909 (ev_hit hN rfl) (by omega) (by omega) ?_
   obtain ⟨sp933, hW934⟩ := hO.wide (m := n + 1) hcap909 (by omega) (by omega)
   refine op_assign (ev_hit hN rfl) ?_
   refine reg_nil ?_
   refine hK932 _ _ ?_
   refine seq_any fun K935 hK935 => ?_
   refine seq_any fun K936 hK936 => ?_
   refine one_reg ?_
   refine op_move (ev_base hN rfl s2) ?_
   refine op_move (ev_hit hN rfl) ?_
   refine op_move (ev_base hN rfl s1) ?_
   refine op_move (ev_hit hN rfl) ?_
   refine op_add (ev_hit hN rfl) (ev_hit hN rfl) (add64 (by omega)) ?_
   refine op_slice_cutS (k := i + 1) slt113 (ev_hit hN rfl) hW934 (ev_hit hN rfl) (by omega) (by omega) ?_
   refine op_ext2 (ev_hit hN rfl) (ev_hit hN rfl) (ovl117 hU hW934 (hiV_ne hne) (by omega)) ?_
   refine op_not (ev_hit hN rfl) ?_
   refine reg_nil ?_
   refine hK936 _ _ ?_
   refine wp_cond_true (ev_hit hN rfl) ?_
   refine seq_any fun K937 hK937 => ?_
   refine reg_from mixed ?_
   intro w939 E938
   have z_w939 := E938.size
   have hU := hU.keep0 E938
   have hW934 := hW934.keep0 E938
   have hb := grow_step0 hb E938
   refine from_still (m := 8) 8 (hd := [_, _, _, _, _, _, _, _]) (by kernel_rfl) rfl rfl ?_
   refine st_step rfl (fun _ h9 => op_move (ev_hit hN rfl) h9) ?_
   refine st_step rfl (fun _ h9 => op_move (ev_base hN rfl s1) h9) ?_
   refine st_step rfl (fun _ h9 => op_move (ev_hit hN rfl) h9) ?_
   refine st_step rfl (fun _ h9 => op_add (ev_hit hN rfl) (ev_hit hN rfl) (add64 (by omega)) h9) ?_
   refine st_step rfl (fun _ h9 => op_slice_cutS (k := i + 1) slt113 (ev_hit hN rfl) hW934 (ev_hit hN rfl) (by omega) (by omega) h9) ?_
   refine st_step rfl (fun _ h9 => op_move (ev_hit hN rfl) h9) ?_
   refine st_step rfl (fun _ h9 => op_move (ev_base hN rfl s1) h9) ?_
   refine st_step rfl (fun _ h9 => op_slice_cutS (k := i) slt113 (ev_hit hN rfl) hW934 (ev_hit hN rfl) (by omega) (by omega) h9) ?_
   refine st_nil ?_
   refine from_seq (tl := [_]) (by decide) (by kernel_rfl) rfl ?_
   have hP943 := hW934
   refine op_copy_cutS (k := i + 1) (q := n - i) slt113 (ev_hit hN rfl) hP943 (ev_hit hN rfl) (hW934.cutO (k := i) (by omega)).rdw (all_mid h1 (by have := hO0; omega)) (by omega) (by omega) (.inr (by omega)) ?_
   intro w940 hO942 E941
   have z_w940 := E941.size
   have hU := hU.keep E941 (fun hh => (hiV_ne hne) hh.symm)
   have hb := grow_stepX hb E941 (hiV_ob v (n + 1))
   refine reg_nil ?_
   refine hK937 _ _ ?_
   refine seq_any fun K944 hK944 => ?_
   refine one_reg ?_
   refine op_move (ev_hit hN rfl) ?_
   refine op_move (ev_base hN rfl s1) ?_
   refine op_slice_cutS (k := i) slt113 (ev_hit hN rfl) hO942 (ev_hit hN rfl) (by omega) (by omega) ?_
   refine op_move (ev_base hN rfl s2) ?_
   have hP948 := hO942
   refine op_copy_cutS (k := i) (q := 1) slt113 (ev_hit hN rfl) hP948 (ev_hit hN rfl) (RdC.ofBx (sz := 1) (n := 1) hU rfl (by decide)) hx1 (by omega) (by decide) (.inl rfl) ?_
   intro w945 hO947 E946
   have z_w945 := E946.size
   have hU := hU.keep E946 (fun hh => (hiV_ne hne) hh.symm)
   have hb := grow_stepX hb E946 (hiV_ob v (n + 1))
   refine reg_nil ?_
   refine hK944 _ _ ?_
   refine seq_any fun K949 hK949 => ?_
   refine one_reg ?_
   refine op_move (ev_hit hN rfl) ?_
   refine op_assign (ev_hit hN rfl) ?_
   refine reg_nil ?_
   refine hK949 _ _ ?_
   refine wp_ret (then_ret ( ?_))
   refine ret1 rfl hd (ev_hit hN rfl) ⟨_, rfl, ?_⟩
   -- path 22F 31F
   exact ⟨hb, hO947.cast rfl (by rw [Nat.add_mul i 1 1]; exact ins_room (by omega) (by have := hW934.1; omega) rfl), .inl (hiV_ob _ _)⟩

end Go.Proofs.Ytcpfdfejojghbaa

/- Walks, written by a program: what each function of the translation hands back. -/
namespace Go.Proofs.Ytcpfdfejojghbaa
open Go.Gx Go.RowKit
attribute [local irreducible] wpList wpStill Code.wp Calls

end Go.Proofs.Ytcpfdfejojghbaa

/- Walks, written by a program: what each function of the translation hands back. -/
namespace Go.Proofs.Ytcpfdfejojghbaa
open Go.Gx Go.RowKit
attribute [local irreducible] wpList wpStill Code.wp Calls

theorem DelI {n i : Nat} {v : Value} {cs : List Value} {w : World} (hO : Own w 0 51 2 v n cs) (h1 : cs.all Value.oneCell' = true) (hi : i < n) (hn : n ≤ 1000) : Ret Try.prog 87 #[v, (Value.int .i64 ((i : Nat) : Int)), (Value.int .i64 (((i + 1) : Nat) : Int))] w (fun v' w' => w.grownBy w' v.ownBlock ∧ Own w' 0 51 2 v' (n - 1) (cs.take (i * 2) ++ cs.drop ((i + 1) * 2)) ∧ v'.ownBlock = v.ownBlock) := by
 have h0 : 0 ≤ w.heap.size := Nat.zero_le _
 have hO0 := hO.1
 have hb := grown_refl w v.ownBlock
 refine enter (N := 33) Try.func87 rfl rfl (by simp) fun a0 hN hd hA => ?_
 have s0 : a0.tmps.getD 0 undef = v := hA 0 (by simp)
 have s1 : a0.tmps.getD 1 undef = (Value.int .i64 ((i : Nat) : Int)) := hA 1 (by simp)
 have s2 : a0.tmps.getD 2 undef = (Value.int .i64 (((i + 1) : Nat) : Int)) := hA 2 (by simp)
 clear hA
 refine seq_any fun K1186 hK1186 => ?_
 refine one_reg ?_
 refine op_assign rfl ?_
 refine reg_nil ?_
 refine hK1186 _ _ ?_
 refine seq_any fun K1187 hK1187 => ?_
 refine one_reg ?_
 refine op_move (ev_base hN rfl s0) ?_
 refine op_move (ev_base hN rfl s1) ?_
 refine op_move (ev_base hN rfl s2) ?_
 refine op_move (ev_base hN rfl s0) ?_
 refine op_len_rd Try.underlying48 (ev_hit hN rfl) hO.rdw ?_
 obtain ⟨cap1188, cap11881, cap11882, cap11883⟩ := hO.cap
 refine op_slice_any (i := i) (j := i + 1) (m := n) slt48 (ev_hit hN rfl) cap11883 (ev_hit hN rfl) (ev_hit hN rfl) (ev_hit hN rfl) rfl rfl rfl (by omega) (by omega) (by omega) ?_
 intro u1189
 refine reg_nil ?_
 refine hK1187 _ _ ?_
 refine seq_any fun K1190 hK1190 => ?_
 refine seq_any fun K1191 hK1191 => ?_
 refine one_reg ?_
 refine op_move (ev_base hN rfl s1) ?_
 refine op_move (ev_base hN rfl s2) ?_
 refine op_eql (ev_hit hN rfl) (ev_hit hN rfl) (fun c16 => ?_) (fun c16 => ?_)
 · -- 16T
  exfalso; omega
 · -- 16F
  refine reg_nil ?_
  refine hK1191 _ _ ?_
  refine wp_cond_false (ev_hit hN rfl) ?_
  refine wp_skip ?_
  refine hK1190 _ _ ?_
  refine seq_any fun K1192 hK1192 => ?_
  refine one_reg ?_
  refine op_move (ev_base hN rfl s0) ?_
  refine op_len_rd Try.underlying48 (ev_hit hN rfl) hO.rdw ?_
  refine op_assign (ev_hit hN rfl) ?_
  refine reg_nil ?_
  refine hK1192 _ _ ?_
  refine seq_any fun K1193 hK1193 => ?_
  refine reg_from mixed ?_
  intro w1195 E1194
  have z_w1195 := E1194.size
  have hO := hO.keep0 E1194
  have hb := grow_step0 hb E1194
  refine from_still (m := 6) 6 (hd := [_, _, _, _, _, _]) (by kernel_rfl) rfl rfl ?_
  refine st_step rfl (fun _ h9 => op_move (ev_base hN rfl s0) h9) ?_
  refine st_step rfl (fun _ h9 => op_move (ev_base hN rfl s1) h9) ?_
  refine st_step rfl (fun _ h9 => op_slice_hiC (m := i) slt48 (ev_hit hN rfl) cap11883 (ev_hit hN rfl) rfl (by omega) h9) ?_
  refine st_step rfl (fun _ h9 => op_move (ev_base hN rfl s0) h9) ?_
  refine st_step rfl (fun _ h9 => op_move (ev_base hN rfl s2) h9) ?_
  refine st_step rfl (fun _ h9 => op_slice_cutS (k := i + 1) slt48 (ev_hit hN rfl) hO (ev_hit hN rfl) (by omega) (by omega) h9) ?_
  refine st_nil ?_
  refine from_seq (tl := [_, _]) (by decide) (by kernel_rfl) rfl ?_
  have hP1199 := hO
  refine op_append_room (i := i) (m := (n - (i + 1))) slt48 (ev_hit hN rfl) hP1199 (ev_hit hN rfl) (Src.ofRd Try.underlying48 (by decide) (hP1199.cutO (k := i + 1) (by omega)).rdw (all_drop9 h1)) (by omega) ?_
  intro w1196 hO1198 E1197
  have z_w1196 := E1197.size
  have hb := grow_stepX hb E1197 rfl
  refine op_assign (ev_hit hN rfl) ?_
  refine reg_nil ?_
  refine hK1193 _ _ ?_
  refine seq_any fun K1200 hK1200 => ?_
  refine one_reg ?_
  refine op_move (ev_hit hN rfl) ?_
  refine op_move (ev_hit hN rfl) ?_
  refine op_len_rd Try.underlying48 (ev_hit hN rfl) (hO1198.hiCut (k := (i + (n - (i + 1)))) (by omega)).rdw ?_
  refine op_move (ev_hit hN rfl) ?_
  refine op_slice_spare (n' := (i + (n - (i + 1)))) slt48 (ev_hit hN rfl) hO1198 (ev_hit hN rfl) (ev_hit hN rfl) rfl rfl (by omega) ?_
  have hP1204 := hO1198
  refine op_clear_cutS slt48 (by kernel_rfl) (ev_hit hN rfl) hP1204 (by omega) ?_
  intro w1201 zs1205 hO1203 E1202
  have z_w1201 := E1202.size
  have hb := grow_stepX hb E1202 rfl
  refine reg_nil ?_
  refine hK1200 _ _ ?_
  refine seq_any fun K1206 hK1206 => ?_
  refine one_reg ?_
  refine op_move (ev_hit hN rfl) ?_
  refine op_assign (ev_hit hN rfl) ?_
  refine reg_nil ?_
  refine hK1206 _ _ ?_
  refine wp_ret ?_
  refine ret1 rfl hd (ev_hit hN rfl) ⟨_, rfl, ?_⟩
  -- path 16F
  exact ⟨hb, (hO1203.hiCut (k := (i + (n - (i + 1)))) (by omega)).cast (by omega) (by rw [Nat.add_mul i (n - (i + 1)) 2]; rw [Nat.add_mul i 1 2]; exact del_cut (a := i * 2) (s := 1 * 2) (r := (n - (i + 1)) * 2) (by omega)), hiV_ob _ _⟩

theorem DelK {n i : Nat} {v : Value} {cs : List Value} {w : World} (hO : Own w 0 27 1 v n cs) (h1 : cs.all Value.oneCell' = true) (hi : i < n) (hn : n ≤ 1000) : Ret Try.prog 121 #[v, (Value.int .i64 ((i : Nat) : Int)), (Value.int .i64 (((i + 1) : Nat) : Int))] w (fun v' w' => w.grownBy w' v.ownBlock ∧ Own w' 0 27 1 v' (n - 1) (cs.take (i * 1) ++ cs.drop ((i + 1) * 1)) ∧ v'.ownBlock = v.ownBlock) := by
 have h0 : 0 ≤ w.heap.size := Nat.zero_le _
 have hO0 := hO.1
 have hb := grown_refl w v.ownBlock
 refine enter (N := 33) Try.func121 rfl rfl (by simp) fun a0 hN hd hA => ?_
 have s0 : a0.tmps.getD 0 undef = v := hA 0 (by simp)
 have s1 : a0.tmps.getD 1 undef = (Value.int .i64 ((i : Nat) : Int)) := hA 1 (by simp)
 have s2 : a0.tmps.getD 2 undef = (Value.int .i64 (((i + 1) : Nat) : Int)) := hA 2 (by simp)
 clear hA
 refine seq_any fun K1207 hK1207 => ?_
 refine one_reg ?_
 refine op_assign rfl ?_
 refine reg_nil ?_
 refine hK1207 _ _ ?_
 refine seq_any fun K1208 hK1208 => ?_
 refine one_reg ?_
 refine op_move (ev_base hN rfl s0) ?_
 refine op_move (ev_base hN rfl s1) ?_
 refine op_move (ev_base hN rfl s2) ?_
 refine op_move (ev_base hN rfl s0) ?_
 refine op_len_rd Try.underlying90 (ev_hit hN rfl) hO.rdw ?_
 obtain ⟨cap1209, cap12091, cap12092, cap12093⟩ := hO.cap
 refine op_slice_any (i := i) (j := i + 1) (m := n) slt90 (ev_hit hN rfl) cap12093 (ev_hit hN rfl) (ev_hit hN rfl) (ev_hit hN rfl) rfl rfl rfl (by omega) (by omega) (by omega) ?_
 intro u1210
 refine reg_nil ?_
 refine hK1208 _ _ ?_
 refine seq_any fun K1211 hK1211 => ?_
 refine seq_any fun K1212 hK1212 => ?_
 refine one_reg ?_
 refine op_move (ev_base hN rfl s1) ?_
 refine op_move (ev_base hN rfl s2) ?_
 refine op_eql (ev_hit hN rfl) (ev_hit hN rfl) (fun c16 => ?_) (fun c16 => ?_)
 · -- 16T
  exfalso; omega
 · -- 16F
  refine reg_nil ?_
  refine hK1212 _ _ ?_
  refine wp_cond_false (ev_hit hN rfl) ?_
  refine wp_skip ?_
  refine hK1211 _ _ ?_
  refine seq_any fun K1213 hK1213 => ?_
  refine one_reg ?_
  refine op_move (ev_base hN rfl s0) ?_
  refine op_len_rd Try.underlying90 (ev_hit hN rfl) hO.rdw ?_
  refine op_assign (ev_hit hN rfl) ?_
  refine reg_nil ?_
  refine hK1213 _ _ ?_
  refine seq_any fun K1214 hK1214 => ?_
  refine reg_from mixed ?_
  intro w1216 E1215
  have z_w1216 := E1215.size
  have hO := hO.keep0 E1215
  have hb := grow_step0 hb E1215
  refine from_still (m := 6) 6 (hd := [_, _, _, _, _, _]) (by kernel_rfl) rfl rfl ?_
  refine st_step rfl (fun _ h9 => op_move (ev_base hN rfl s0) h9) ?_
  refine st_step rfl (fun _ h9 => op_move (ev_base hN rfl s1) h9) ?_
  refine st_step rfl (fun _ h9 => op_slice_hiC (m := i) slt90 (ev_hit hN rfl) cap12093 (ev_hit hN rfl) rfl (by omega) h9) ?_
  refine st_step rfl (fun _ h9 => op_move (ev_base hN rfl s0) h9) ?_
  refine st_step rfl (fun _ h9 => op_move (ev_base hN rfl s2) h9) ?_
  refine st_step rfl (fun _ h9 => op_slice_cutS (k := i + 1) slt90 (ev_hit hN rfl) hO (ev_hit hN rfl) (by omega) (by omega) h9) ?_
  refine st_nil ?_
  refine from_seq (tl := [_, _]) (by decide) (by kernel_rfl) rfl ?_
  have hP1220 := hO
  refine op_append_room (i := i) (m := (n - (i + 1))) slt90 (ev_hit hN rfl) hP1220 (ev_hit hN rfl) (Src.ofRd Try.underlying90 (by decide) (hP1220.cutO (k := i + 1) (by omega)).rdw (all_drop9 h1)) (by omega) ?_
  intro w1217 hO1219 E1218
  have z_w1217 := E1218.size
  have hb := grow_stepX hb E1218 rfl
  refine op_assign (ev_hit hN rfl) ?_
  refine reg_nil ?_
  refine hK1214 _ _ ?_
  refine seq_any fun K1221 hK1221 => ?_
  refine one_reg ?_
  refine op_move (ev_hit hN rfl) ?_
  refine op_move (ev_hit hN rfl) ?_
  refine op_len_rd Try.underlying90 (ev_hit hN rfl) (hO1219.hiCut (k := (i + (n - (i + 1)))) (by omega)).rdw ?_
  refine op_move (ev_hit hN rfl) ?_
  refine op_slice_spare (n' := (i + (n - (i + 1)))) slt90 (ev_hit hN rfl) hO1219 (ev_hit hN rfl) (ev_hit hN rfl) rfl rfl (by omega) ?_
  have hP1225 := hO1219
  refine op_clear_cutS slt90 (by kernel_rfl) (ev_hit hN rfl) hP1225 (by omega) ?_
  intro w1222 zs1226 hO1224 E1223
  have z_w1222 := E1223.size
  have hb := grow_stepX hb E1223 rfl
  refine reg_nil ?_
  refine hK1221 _ _ ?_
  refine seq_any fun K1227 hK1227 => ?_
  refine one_reg ?_
  refine op_move (ev_hit hN rfl) ?_
  refine op_assign (ev_hit hN rfl) ?_
  refine reg_nil ?_
  refine hK1227 _ _ ?_
  refine wp_ret ?_
  refine ret1 rfl hd (ev_hit hN rfl) ⟨_, rfl, ?_⟩
  -- path 16F
  exact ⟨hb, (hO1224.hiCut (k := (i + (n - (i + 1)))) (by omega)).cast (by omega) (by rw [Nat.add_mul i (n - (i + 1)) 1]; rw [Nat.add_mul i 1 1]; exact del_cut (a := i * 1) (s := 1 * 1) (r := (n - (i + 1)) * 1) (by omega)), hiV_ob _ _⟩

theorem DelN {n i : Nat} {v : Value} {cs : List Value} {w : World} (hO : Own w 0 69 1 v n cs) (h1 : cs.all Value.oneCell' = true) (hi : i < n) (hn : n ≤ 1000) : Ret Try.prog 122 #[v, (Value.int .i64 ((i : Nat) : Int)), (Value.int .i64 (((i + 1) : Nat) : Int))] w (fun v' w' => w.grownBy w' v.ownBlock ∧ Own w' 0 69 1 v' (n - 1) (cs.take (i * 1) ++ cs.drop ((i + 1) * 1)) ∧ v'.ownBlock = v.ownBlock) := by
 have h0 : 0 ≤ w.heap.size := Nat.zero_le _
 have hO0 := hO.1
 have hb := grown_refl w v.ownBlock
 refine enter (N := 33) Try.func122 rfl rfl (by simp) fun a0 hN hd hA => ?_
 have s0 : a0.tmps.getD 0 undef = v := hA 0 (by simp)
 have s1 : a0.tmps.getD 1 undef = (Value.int .i64 ((i : Nat) : Int)) := hA 1 (by simp)
 have s2 : a0.tmps.getD 2 undef = (Value.int .i64 (((i + 1) : Nat) : Int)) := hA 2 (by simp)
 clear hA
 refine seq_any fun K1228 hK1228 => ?_
 refine one_reg ?_
 refine op_assign rfl ?_
 refine reg_nil ?_
 refine hK1228 _ _ ?_
 refine seq_any fun K1229 hK1229 => ?_
 refine one_reg ?_
 refine op_move (ev_base hN rfl s0) ?_
 refine op_move (ev_base hN rfl s1) ?_
 refine op_move (ev_base hN rfl s2) ?_
 refine op_move (ev_base hN rfl s0) ?_
 refine op_len_rd Try.underlying113 (ev_hit hN rfl) hO.rdw ?_
 obtain ⟨cap1230, cap12301, cap12302, cap12303⟩ := hO.cap
 refine op_slice_any (i := i) (j := i + 1) (m := n) slt113 (ev_hit hN rfl) cap12303 (ev_hit hN rfl) (ev_hit hN rfl) (ev_hit hN rfl) rfl rfl rfl (by omega) (by omega) (by omega) ?_
 intro u1231
 refine reg_nil ?_
 refine hK1229 _ _ ?_
 refine seq_any fun K1232 hK1232 => ?_
 refine seq_any fun K1233 hK1233 => ?_
 refine one_reg ?_
 refine op_move (ev_base hN rfl s1) ?_
 refine op_move (ev_base hN rfl s2) ?_
 refine op_eql (ev_hit hN rfl) (ev_hit hN rfl) (fun c16 => ?_) (fun c16 => ?_)
 · -- 16T
  exfalso; omega
 · -- 16F
  refine reg_nil ?_
  refine hK1233 _ _ ?_
  refine wp_cond_false (ev_hit hN rfl) ?_
  refine wp_skip ?_
  refine hK1232 _ _ ?_
  refine seq_any fun K1234 hK1234 => ?_
  refine one_reg ?_
  refine op_move (ev_base hN rfl s0) ?_
  refine op_len_rd Try.underlying113 (ev_hit hN rfl) hO.rdw ?_
  refine op_assign (ev_hit hN rfl) ?_
  refine reg_nil ?_
  refine hK1234 _ _ ?_
  refine seq_any fun K1235 hK1235 => ?_
  refine reg_from mixed ?_
  intro w1237 E1236
  have z_w1237 := E1236.size
  have hO := hO.keep0 E1236
  have hb := grow_step0 hb E1236
  refine from_still (m := 6) 6 (hd := [_, _, _, _, _, _]) (by kernel_rfl) rfl rfl ?_
  refine st_step rfl (fun _ h9 => op_move (ev_base hN rfl s0) h9) ?_
  refine st_step rfl (fun _ h9 => op_move (ev_base hN rfl s1) h9) ?_
  refine st_step rfl (fun _ h9 => op_slice_hiC (m := i) slt113 (ev_hit hN rfl) cap12303 (ev_hit hN rfl) rfl (by omega) h9) ?_
  refine st_step rfl (fun _ h9 => op_move (ev_base hN rfl s0) h9) ?_
  refine st_step rfl (fun _ h9 => op_move (ev_base hN rfl s2) h9) ?_
  refine st_step rfl (fun _ h9 => op_slice_cutS (k := i + 1) slt113 (ev_hit hN rfl) hO (ev_hit hN rfl) (by omega) (by omega) h9) ?_
  refine st_nil ?_
  refine from_seq (tl := [_, _]) (by decide) (by kernel_rfl) rfl ?_
  have hP1241 := hO
  refine op_append_room (i := i) (m := (n - (i + 1))) slt113 (ev_hit hN rfl) hP1241 (ev_hit hN rfl) (Src.ofRd Try.underlying113 (by decide) (hP1241.cutO (k := i + 1) (by omega)).rdw (all_drop9 h1)) (by omega) ?_
  intro w1238 hO1240 E1239
  have z_w1238 := E1239.size
  have hb := grow_stepX hb E1239 rfl
  refine op_assign (ev_hit hN rfl) ?_
  refine reg_nil ?_
  refine hK1235 _ _ ?_
  refine seq_any fun K1242 hK1242 => ?_
  refine one_reg ?_
  refine op_move (ev_hit hN rfl) ?_
  refine op_move (ev_hit hN rfl) ?_
  refine op_len_rd Try.underlying113 (ev_hit hN rfl) (hO1240.hiCut (k := (i + (n - (i + 1)))) (by omega)).rdw ?_
  refine op_move (ev_hit hN rfl) ?_
  refine op_slice_spare (n' := (i + (n - (i + 1)))) slt113 (ev_hit hN rfl) hO1240 (ev_hit hN rfl) (ev_hit hN rfl) rfl rfl (by omega) ?_
  have hP1246 := hO1240
  refine op_clear_cutS slt113 (by kernel_rfl) (ev_hit hN rfl) hP1246 (by omega) ?_
  intro w1243 zs1247 hO1245 E1244
  have z_w1243 := E1244.size
  have hb := grow_stepX hb E1244 rfl
  refine reg_nil ?_
  refine hK1242 _ _ ?_
  refine seq_any fun K1248 hK1248 => ?_
  refine one_reg ?_
  refine op_move (ev_hit hN rfl) ?_
  refine op_assign (ev_hit hN rfl) ?_
  refine reg_nil ?_
  refine hK1248 _ _ ?_
  refine wp_ret ?_
  refine ret1 rfl hd (ev_hit hN rfl) ⟨_, rfl, ?_⟩
  -- path 16F
  exact ⟨hb, (hO1245.hiCut (k := (i + (n - (i + 1)))) (by omega)).cast (by omega) (by rw [Nat.add_mul i (n - (i + 1)) 1]; rw [Nat.add_mul i 1 1]; exact del_cut (a := i * 1) (s := 1 * 1) (r := (n - (i + 1)) * 1) (by omega)), hiV_ob _ _⟩

end Go.Proofs.Ytcpfdfejojghbaa

/- What nodes are made of anew: what is handed back by the functions that change trees. -/
namespace Go.Gx
open Go.Bt Go.RowKit
section
variable {V : Type} {κ : Kd V} {w w' : World} {F G H W W' W2 R : Nat → Prop} {base e sz n b t h p q i : Nat} {u m pv kv cv : Value} {cs : List Value} {D : List (DP V)} {K : List DK} {P : List Nat} {k : Ky} {x : V}
/-- What a node became, and what went behind it. -/
def OutR (κ : Kd V) (R : Nat → Prop) (w : World) (n : Nat) (W : Nat → Prop) (h p : Nat) (x : Tr V h × Option (Ky × Tr V h)) (u m : Value) : Prop :=
  match x with
  | (t, none) => u = nilV ∧ m = .pointer none ∧ ∃ W', TreeR κ R w h p t W' ∧ NewF n W W'
  | (t, some (k, t2)) => ∃ q W' W2, m = ptr q 0 ∧ Own w 0 5 1 u k.length (k.map u8v) ∧ (∀ j, Bl u j → R j) ∧ TreeR κ R w h p t W' ∧ TreeR κ R w h q t2 W2 ∧ NewF n W W' ∧ NewF n W W2 ∧ Dj W' W2
def leafW (p : Nat) (pv : Value) : Nat → Prop := fun y => y = p ∨ Bl pv y
theorem leafW_ty (B : Bx w p κ.tB [pv, nilV, nilV]) (O : Own w base κ.tP κ.pc pv n cs) : TyF κ w (leafW p pv) := (TyF.ofBx B (.inl rfl)).or (TyF.ofOwn O (.inr (.inl rfl)))
theorem mkLeaf {l : List (Ky × V)} (B : Bx w p κ.tB [pv, nilV, nilV]) (O : Own w base κ.tP κ.pc pv D.length (D.flatMap κ.ce)) (ks : ∀ x9 ∈ D.map pk, Own w 0 5 1 x9.1 x9.2.length (x9.2.map u8v)) (kr : ∀ x9 ∈ D.map pk, ∀ k, Bl x9.1 k → R k) (e : D.map Prod.snd = l) : TreeR κ R w 0 p (l : Tr V 0) (leafW p pv) :=
  ⟨pv, D, ⟨B, O.mono (Nat.zero_le _), ks, kr, .inl rfl, fun _ h => .inr h, leafW_ty B O⟩, e⟩
theorem leafW_fresh (hp : n ≤ p) (O : Own w n e sz pv b cs) : ∀ j, leafW p pv j → n ≤ j := fun j hj => hj.elim (fun e => e ▸ hp) (fun q => (O.lt j q).1)
/-- An old footprint and a new one are apart. -/
theorem new_dj (hW : ∀ j, W j → j < n) (h2 : ∀ j, W2 j → n ≤ j) : Dj W W2 := fun j h1 q => by have := hW j h1; have := h2 j q; omega
theorem inF_step {F : Nat → Prop} {v v2 : Value} {n n2 : Nat} (hm : v2.ownBlock = v.ownBlock ∨ ∀ k, v2.ownBlock = some k → n2 ≤ k) (hn : n ≤ n2) (h : ∀ k, k < n → Bl v k → F k) : ∀ k, k < n → Bl v2 k → F k := fun k hk hb => by
  rcases hm with hm | hm
  · exact h k hk (hm.symm.trans hb)
  · have := hm k hb; omega
theorem newF_in (h : ∀ k, k < n → W' k → W k) : NewF n W W' := fun k hk => by
  by_cases q : k < n
  · exact .inl (h k q hk)
  · exact .inr (by omega)
theorem leafW_in (hp : p < n → W p) (hv : ∀ k, k < n → Bl pv k → W k) : ∀ k, k < n → leafW p pv k → W k := fun k hk hj => hj.elim (fun e => by subst e; exact hp hk) (hv k hk)
/-! leaves that change -/
theorem set_map9 {i : Nat} {d : DP V} : (D.set i d).map Prod.snd = (D.map Prod.snd).set i d.2 := List.map_set ..
theorem put_found {x : V} (hc : (kys D).contains k = true) [Inhabited V] : putT 0 k x ((D.map Prod.snd : List (Ky × V)) : Tr V 0) = (true, ((D.set (pos (kys D) k) ((D.getD (pos (kys D) k) default).1, (D.getD (pos (kys D) k) default).2.1, x)).map Prod.snd : List (Ky × V)), none) := by
  rw [put0]
  have hh : hasK (D.map Prod.snd) k = true := hc
  rw [if_pos hh, set_map9]
  have hx : k ∈ kys D := List.contains_iff_mem.1 hc
  have hl : pos (kys D) k < D.length ∨ ¬ pos (kys D) k < D.length := Nat.lt_or_ge _ _ |>.imp id (Nat.not_lt_of_le)
  show (true, ((D.map Prod.snd).set (pos (kys D) k) (((D.map Prod.snd).getD (pos (kys D) k) (k, x)).1, x) : List (Ky × V)), (none : Option (Ky × Tr V 0))) = _
  rcases hl with hl | hl
  · have e : (D.map Prod.snd).getD (pos (kys D) k) (k, x) = (D.getD (pos (kys D) k) default).2 := by simp [List.getD_eq_getElem?_getD, hl]
    rw [e]
  · rw [List.set_eq_of_length_le (by simp; omega), List.set_eq_of_length_le (by simp; omega)]
theorem put_miss {x : V} {kv : Value} (hc : (kys D).contains k = false) (hi : pos (kys D) k ≤ D.length) : putT 0 k x ((D.map Prod.snd : List (Ky × V)) : Tr V 0) = (false, halves 0 (((D.insertIdx (pos (kys D) k) (kv, k, x)).map Prod.snd : List (Ky × V)) : Tr V 0)) := by
  rw [put0]
  have hh : ¬ hasK (D.map Prod.snd) k = true := by show ¬ (kys D).contains k = true; rw [hc]; decide
  rw [if_neg hh, ← map_ins9 (f := Prod.snd) hi]
  rfl
theorem pos_ltP (hs : Sorted (kys D)) (hc : (kys D).contains k = true) : pos (kys D) k < D.length := by
  obtain ⟨h, _⟩ := pos_hit hs (List.contains_iff_mem.1 hc)
  rwa [kys_len] at h
theorem halves_small {l : List (Ky × V)} (h6 : l.length ≤ 6) : halves 0 (l : Tr V 0) = (l, none) := if_pos h6
theorem halves_big [Inhabited V] (h6 : 6 < D.length) : halves 0 ((D.map Prod.snd : List (Ky × V)) : Tr V 0) = (((D.take (D.length - 3)).map Prod.snd : List (Ky × V)), some (((D.drop (D.length - 3)).getD 0 default).2.1, ((D.drop (D.length - 3)).map Prod.snd : List (Ky × V)))) := by
  have h : ¬ (D.map Prod.snd).length ≤ 6 := by simp; omega
  show (if (D.map Prod.snd).length ≤ 6 then _ else _) = _
  rw [if_neg h]
  have e1 : (D.map Prod.snd).length = D.length := by simp
  rw [e1, List.map_take, List.map_drop]
  have e2 : hd ((D.map Prod.snd).drop (D.length - 3)) = ((D.drop (D.length - 3)).getD 0 default).2.1 := by
    have hl : D.length - 3 < D.length := by omega
    simp [hd, List.head?_drop, List.getD_eq_getElem?_getD, hl]
  rw [e2]
  rfl
/-- A leaf that is parted in two, or is not. -/
theorem out_small {l : List (Ky × V)} {X : Tr V 0 × Option (Ky × Tr V 0)} (hX : X = (l, none)) (T : TreeR κ R w 0 p (l : Tr V 0) W') (N : NewF n W W') : OutR κ R w n W 0 p X nilV (.pointer none) := by
  subst hX; exact ⟨rfl, rfl, W', T, N⟩
theorem out_big {h : Nat} {t t2 : Tr V h} {X : Tr V h × Option (Ky × Tr V h)} (hX : X = (t, some (k, t2))) (O : Own w 0 5 1 u k.length (k.map u8v)) (hr : ∀ j, Bl u j → R j) (T : TreeR κ R w h p t W') (T2 : TreeR κ R w h q t2 W2) (N : NewF n W W') (N2 : NewF n W W2) (hd : Dj W' W2) : OutR κ R w n W h p X u (ptr q 0) := by
  subst hX; exact ⟨q, W', W2, rfl, O, hr, T, T2, N, N2, hd⟩
theorem ks_ins {d : DP V} (ks : ∀ x9 ∈ D.map pk, Own w 0 5 1 x9.1 x9.2.length (x9.2.map u8v)) (hd : Own w 0 5 1 d.1 d.2.1.length (d.2.1.map u8v)) (hi : i ≤ D.length) : ∀ x9 ∈ (D.insertIdx i d).map pk, Own w 0 5 1 x9.1 x9.2.length (x9.2.map u8v) := fun x hx => by
  rw [insIdx d hi, List.map_append, List.map_cons, List.mem_append, List.mem_cons] at hx
  rcases hx with hx | rfl | hx
  · obtain ⟨y, hy, rfl⟩ := List.mem_map.1 hx; exact ks _ (List.mem_map.2 ⟨y, List.mem_of_mem_take hy, rfl⟩)
  · exact hd
  · obtain ⟨y, hy, rfl⟩ := List.mem_map.1 hx; exact ks _ (List.mem_map.2 ⟨y, List.mem_of_mem_drop hy, rfl⟩)
theorem kr_ins {d : DP V} (kr : ∀ x9 ∈ D.map pk, ∀ k, Bl x9.1 k → R k) (hd : ∀ k, Bl d.1 k → R k) (hi : i ≤ D.length) : ∀ x9 ∈ (D.insertIdx i d).map pk, ∀ k, Bl x9.1 k → R k := fun x hx => by
  rw [insIdx d hi, List.map_append, List.map_cons, List.mem_append, List.mem_cons] at hx
  rcases hx with hx | rfl | hx
  · obtain ⟨y, hy, rfl⟩ := List.mem_map.1 hx; exact kr _ (List.mem_map.2 ⟨y, List.mem_of_mem_take hy, rfl⟩)
  · exact hd
  · obtain ⟨y, hy, rfl⟩ := List.mem_map.1 hx; exact kr _ (List.mem_map.2 ⟨y, List.mem_of_mem_drop hy, rfl⟩)
theorem ks_sub {A B : List (DP V)} {Q : DK → Prop} (ks : ∀ x9 ∈ A.map pk, Q x9) (h : ∀ x ∈ B, x ∈ A) : ∀ x9 ∈ B.map pk, Q x9 := fun x hx => by
  obtain ⟨y, hy, rfl⟩ := List.mem_map.1 hx; exact ks _ (List.mem_map.2 ⟨y, h y hy, rfl⟩)
theorem ks_mem [Inhabited V] (h : i < D.length) : pk (D.getD i default) ∈ D.map pk := List.mem_map.2 ⟨_, getD_mem h, rfl⟩
theorem drop_key [Inhabited V] {j : Nat} (h : j < D.length) : pk ((D.drop j).getD 0 default) ∈ D.map pk := by
  have e : (D.drop j).getD 0 default = D.getD j default := by simp [List.getD_eq_getElem?_getD]
  rw [e]; exact ks_mem h
theorem leafW_lt (hp : p < n) (hv : ∀ j, Bl pv j → j < n) : ∀ j, leafW p pv j → j < n := fun j hj => hj.elim (fun e => e ▸ hp) (hv j)
theorem ks_set {d : DP V} {Q : DK → Prop} (ks : ∀ x9 ∈ D.map pk, Q x9) (hd : Q (pk d)) : ∀ x9 ∈ (D.set i d).map pk, Q x9 := fun x hx => by
  obtain ⟨y, hy, rfl⟩ := List.mem_map.1 hx
  rcases List.mem_or_eq_of_mem_set hy with h | h
  · exact ks _ (List.mem_map.2 ⟨y, h, rfl⟩)
  · subst h; exact hd
end
theorem set_flat9 {α : Type} {f : α → List Value} {sz j : Nat} {d x : α} {vs : List Value} : ∀ {l : List α} {i : Nat}, (∀ u, (f u).length = sz) → i < l.length → j + vs.length ≤ sz → f x = (f (l.getD i d)).take j ++ vs ++ (f (l.getD i d)).drop (j + vs.length) →
    (l.flatMap f).take (i * sz + j) ++ vs ++ (l.flatMap f).drop (i * sz + j + vs.length) = (l.set i x).flatMap f
  | [], _, _, h, _, _ => absurd h (Nat.not_lt_zero _)
  | a :: t, 0, hf, _, hj, hx => by
    have ha := hf a
    simp only [List.getD_cons_zero] at hx
    simp only [Nat.zero_mul, Nat.zero_add, List.flatMap_cons, List.set_cons_zero, hx]
    rw [List.take_append_of_le_length (by omega), List.drop_append_of_le_length (by omega)]
    simp [List.append_assoc]
  | a :: t, i + 1, hf, h, hj, hx => by
    have ha := hf a
    simp only [List.getD_cons_succ] at hx
    have ih := set_flat9 (l := t) (i := i) hf (by simpa using h) hj hx
    have e1 : (i + 1) * sz + j = (f a).length + (i * sz + j) := by rw [ha, Nat.add_mul]; omega
    simp only [List.flatMap_cons, List.set_cons_succ]
    rw [e1, List.take_length_add_append, Nat.add_assoc, List.drop_length_add_append, ← ih]
    simp [List.append_assoc]
end Go.Gx

/- Walks, written by a program: what each function of the translation hands back. -/
namespace Go.Proofs.Ytcpfdfejojghbaa
open Go.Gx Go.RowKit
attribute [local irreducible] wpList wpStill Code.wp Calls
open Go.Bt
theorem putLI {k : List UInt8} {kv : Value} {x : Int} {R W : Nat → Prop} {p : Nat} {pv : Value} {D : List (DP (Int))} {w : World} (hL : LeafR kI R w p pv D W) (hs : Sorted (kys D)) (hn : D.length ≤ 6) (hk : Own w 0 5 1 kv k.length (k.map u8v)) (hkr : ∀ j, Bl kv j → R j) : Ret Try.prog 48 #[(ptr p 0), (Value.agg #[kv, (Value.int .i64 x)])] w (fun v' w' => Gr w w' W ∧ ∃ u m, v' = .tuple #[.bool (putT 0 k x ((D.map Prod.snd : List (Ky × (Int))) : Tr (Int) 0)).1, u, m] ∧ OutR kI R w' w.heap.size W 0 p (putT 0 k x ((D.map Prod.snd : List (Ky × (Int))) : Tr (Int) 0)).2 u m) := by
 have hx : Bx w p 115 [pv, .slice none 0 0, .slice none 0 0] := hL.bx
 have op : Own w 0 51 2 pv D.length (D.flatMap cI) := hL.op
 have ks := hL.ks
 have hi_p := hx.lt
 have hb := Gr.refl w W
 refine enter (N := 92) Try.func48 rfl rfl (by simp) fun a0 hN hd hA => ?_
 have s0 : a0.tmps.getD 0 undef = (ptr p 0) := hA 0 (by simp)
 have s1 : a0.tmps.getD 1 undef = (Value.agg #[kv, (Value.int .i64 x)]) := hA 1 (by simp)
 clear hA
 refine seq_any fun K1804 hK1804 => ?_
 refine one_reg ?_
 refine op_box (cs := [kv, (Value.int .i64 x)]) (ev_base hN rfl s1) rfl ?_
 intro w1805 b1806 lo_b1806 hi_b1806 hB1808 E1807
 have ne_b1806_pv : pv.ownBlock ≠ some b1806 := fun hh => by have := (op.lt _ hh).2; omega
 have z_w1805 := E1807.size
 have hx := hx.keep0 E1807
 have op := op.keep0 E1807
 have ks : ∀ x9 ∈ (D.map pk), Own w1805 0 5 1 x9.1 x9.2.length (x9.2.map u8v) := fun x9 hx9 => (ks x9 hx9).keep0 E1807
 have hk := hk.keep0 E1807
 have hb := hb.step0 E1807
 refine op_assign rfl ?_
 refine op_assign rfl ?_
 refine op_assign rfl ?_
 refine reg_nil ?_
 refine hK1804 _ _ ?_
 refine seq_any fun K1809 hK1809 => ?_
 refine seq_any fun K1810 hK1810 => ?_
 refine one_reg ?_
 refine op_move (ev_base hN rfl s0) ?_
 refine op_fn (vs := [(ptr p 0)]) ok81 ⟨(ev_hit hN rfl), trivial⟩ (Ret.flip (leafLI hx op)) ?_
 rintro _ _ ⟨rfl, rfl⟩
 refine reg_nil ?_
 refine hK1810 _ _ ?_
 refine wp_cond_true (ev_hit hN rfl) ?_
 refine seq_any fun K1811 hK1811 => ?_
 refine one_reg ?_
 refine op_move (ev_base hN rfl s0) ?_
 refine op_field fld51_0 (ev_hit hN rfl) ?_
 refine op_load1 (v := kv) one27 (ev_hit hN rfl) (hB1808.cell rfl) ?_
 refine op_fn (vs := [(ptr p 0), kv]) ok82 ⟨(ev_hit hN rfl), ⟨(ev_hit hN rfl), trivial⟩⟩ (findI hx op ks hs (by omega) (hk.rdw.mono (Nat.zero_le _) (by omega))) ?_
 rintro _ w1812 ⟨E1813, rfl⟩
 have E1813 := grown_of_below E1813
 have z_w1812 := E1813.size
 have hx := hx.keep0 E1813
 have op := op.keep0 E1813
 have ks : ∀ x9 ∈ (D.map pk), Own w1812 0 5 1 x9.1 x9.2.length (x9.2.map u8v) := fun x9 hx9 => (ks x9 hx9).keep0 E1813
 have hk := hk.keep0 E1813
 have hB1808 := hB1808.keep0 E1813
 have hb := hb.step0 E1813
 refine op_move (ev_hit hN rfl) ?_
 refine op_extract (ev_hit hN rfl) rfl ?_
 refine op_extract (ev_hit hN rfl) rfl ?_
 refine op_assign (ev_hit hN rfl) ?_
 refine op_assign (ev_hit hN rfl) ?_
 refine reg_nil ?_
 refine hK1811 _ _ ?_
 refine seq_any fun K1814 hK1814 => ?_
 refine seq_any fun K1815 hK1815 => ?_
 refine one_reg ?_
 rcases Bool.eq_false_or_eq_true (((kys D).contains k)) with c21 | c21
 · -- 21T
  rw [c21]
  refine op_move (ev_hit hN rfl) ?_
  refine reg_nil ?_
  refine hK1815 _ _ ?_
  refine wp_cond_true (ev_hit hN rfl) ?_
  refine seq_any fun K1816 hK1816 => ?_
  refine reg_from mixed ?_
  intro w1818 E1817
  have z_w1818 := E1817.size
  have hx := hx.keep0 E1817
  have op := op.keep0 E1817
  have ks : ∀ x9 ∈ (D.map pk), Own w1818 0 5 1 x9.1 x9.2.length (x9.2.map u8v) := fun x9 hx9 => (ks x9 hx9).keep0 E1817
  have hk := hk.keep0 E1817
  have hB1808 := hB1808.keep0 E1817
  have hb := hb.step0 E1817
  refine from_still (m := 9) 9 (hd := [_, _, _, _, _, _, _, _, _]) (by kernel_rfl) rfl rfl ?_
  have hpl := pos_ltP hs c21
  refine st_step rfl (fun _ h9 => op_move (ev_base hN rfl s0) h9) ?_
  refine st_step rfl (fun _ h9 => op_nil (ev_hit hN rfl) h9) ?_
  refine st_step rfl (fun _ h9 => op_field fld115_0 (ev_hit hN rfl) h9) ?_
  refine st_step rfl (fun _ h9 => op_load1 (v := pv) one48 (ev_hit hN rfl) (hx.cell rfl) h9) ?_
  refine st_step rfl (fun _ h9 => op_move (ev_hit hN rfl) h9) ?_
  refine st_step rfl (fun _ h9 => op_field fld51_1 (ev_hit hN rfl) h9) ?_
  refine st_step rfl (fun _ h9 => op_load1 (v := (Value.int .i64 x)) one3 (ev_hit hN rfl) (hB1808.cell rfl) h9) ?_
  refine st_index_own (i := ((pos (kys D) k))) slt48 (ev_hit hN rfl) op (ev_hit hN rfl) (by omega) (by omega) ?_
  intro b1819 o1820 lo_b1819 hA1821
  refine st_step rfl (fun _ h9 => op_field fld51_1 (ev_hit hN rfl) h9) ?_
  refine st_nil ?_
  refine from_seq (tl := [_]) (by decide) (by kernel_rfl) rfl ?_
  have hP1824 := op
  refine op_store_own (vs := [(Value.int .i64 x)]) size3 (ev_hit hN rfl) (ev_hit hN rfl) rfl rfl rfl hP1824 (hA1821.fld 1) (by have := hP1824.1; simp at this ⊢; omega) ?_
  intro w1822 hO1825 E1823
  have z_w1822 := E1823.size
  have hx := hx.keepO hP1824 E1823 (by decide)
  have ks : ∀ x9 ∈ (D.map pk), Own w1822 0 5 1 x9.1 x9.2.length (x9.2.map u8v) := fun x9 hx9 => (ks x9 hx9).keepT hP1824 E1823 (by decide)
  have hk := hk.keepT hP1824 E1823 (by decide)
  have hB1808 := hB1808.keep E1823 (fun hh => ne_b1806_pv hh.symm)
  have hb := hb.stepL E1823 (fun k _ h => hL.wv k h)
  have hO1825 : Own w1822 0 51 2 pv D.length (((D.set (pos (kys D) k) ((D.getD (pos (kys D) k) default).1, (D.getD (pos (kys D) k) default).2.1, x))).flatMap cI) := by exact hO1825.cast rfl (set_flat9 (f := cI) (d := default) cI_len (by omega) (by simp) rfl)
  refine reg_nil ?_
  refine hK1816 _ _ ?_
  refine seq_any fun K1826 hK1826 => ?_
  refine one_reg ?_
  refine op_assign rfl ?_
  refine op_assign rfl ?_
  refine op_assign rfl ?_
  refine reg_nil ?_
  refine hK1826 _ _ ?_
  refine wp_ret (then_ret (then_ret ( ?_)))
  refine retN (rs := [.tmp 4, .tmp 5, .tmp 6]) (vs := [(Value.bool true), (Value.slice none 0 0), (Value.pointer none)]) rfl hd ⟨(ev_hit hN rfl), ⟨(ev_hit hN rfl), ⟨(ev_hit hN rfl), trivial⟩⟩⟩ rfl ⟨_, rfl, ?_⟩
  -- path 21T
  exact ⟨hb, _, _, by rw [put_found c21]; rfl, out_small (congrArg Prod.snd (put_found c21)) (mkLeaf (D := (D.set (pos (kys D) k) ((D.getD (pos (kys D) k) default).1, (D.getD (pos (kys D) k) default).2.1, x))) (κ := kI) hx (hO1825.cast (by simp) rfl) (ks_set ks (ks _ (ks_mem hpl))) (ks_set hL.kr (hL.kr _ (ks_mem hpl))) rfl) (newF_in (leafW_in (fun _ => hL.wp) (fun k _ h => hL.wv k h)))⟩
 · -- 21F
  rw [c21]
  refine op_move (ev_hit hN rfl) ?_
  refine reg_nil ?_
  refine hK1815 _ _ ?_
  refine wp_cond_false (ev_hit hN rfl) ?_
  refine wp_skip ?_
  refine hK1814 _ _ ?_
  have hpl := pos_leP (D := D) (x := k)
  refine reg_split (hd := [_, _, _, _, _, _, _, _, _]) (tl := _) 9 mixed (by kernel_rfl) rfl rfl ?_
  refine any_env (φ := phiV [(fun uz => uz = (ptr p 0)), (fun uz => uz = (ptr p 0)), (fun uz => uz = (ptr p 0)), (fun uz => uz = (ptr p 0)), (fun uz => uz = pv), (fun uz => uz = (Value.int .i64 (((pos (kys D) k) : Nat) : Int))), (fun uz => uz = (Value.agg #[kv, (Value.int .i64 x)])), (fun _ => True), (fun _ => True)]) (G := fun w' => Bx w' p 115 [pv, (Value.slice none 0 0), (Value.slice none 0 0)] ∧ Bx w' b1806 51 [kv, (Value.int .i64 x)]) [7, 8] (by kernel_rfl) (by kernel_rfl) (by kernel_rfl) (by kernel_rfl) hN (fun w1 w2 E h => by obtain ⟨h0, h1⟩ := h; exact ⟨h0.keep0 E, h1.keep0 E⟩) ⟨hx, hB1808⟩ (ObEs.cons ?_ (ObEs.cons ?_ (ObEs.cons ?_ (ObEs.cons ?_ (ObEs.cons ?_ (ObEs.cons ?_ (ObEs.cons ?_ (ObEs.pass rfl (ObEs.pass rfl (ObEs.nil)))))))))) (by simp only [putsL_defers]) ?_
  ·
   intro eA aA wA hNA hGA hbsA hdpA
   have qA_0 := (hbsA 0 rfl).trans (sl_base hN rfl s0)
   refine op_move (ev_base hNA rfl qA_0) ?_
   exact obE_end rfl rfl rfl
  ·
   intro eA aA wA hNA hGA hbsA hdpA
   have qA_0 := (hbsA 0 rfl).trans (sl_base hN rfl s0)
   refine op_move (ev_base hNA rfl qA_0) ?_
   exact obE_end rfl rfl rfl
  ·
   intro eA aA wA hNA hGA hbsA hdpA
   have qA_32 : Sl aA 32 (ptr p 0) := (hdpA 1 _ 32 (by kernel_rfl) rfl rfl).2 rfl
   refine op_nil (ev_base hNA rfl qA_32) ?_
   exact obE_end rfl rfl rfl
  ·
   intro eA aA wA hNA hGA hbsA hdpA
   have qA_33 : Sl aA 33 (ptr p 0) := (hdpA 2 _ 33 (by kernel_rfl) rfl rfl).2 rfl
   refine op_field fld115_0 (ev_base hNA rfl qA_33) ?_
   exact obE_end rfl rfl rfl
  ·
   intro eA aA wA hNA hGA hbsA hdpA
   have qA_34 : Sl aA 34 (ptr p 0) := (hdpA 3 _ 34 (by kernel_rfl) rfl rfl).2 rfl
   obtain ⟨hx, hB1808⟩ := hGA
   refine op_load1 (v := pv) one48 (ev_base hNA rfl qA_34) (hx.cell rfl) ?_
   exact obE_end rfl rfl rfl
  ·
   intro eA aA wA hNA hGA hbsA hdpA
   have qA_7 := (hbsA 7 rfl).trans (sl_hit hN rfl)
   refine op_move (ev_base hNA rfl qA_7) ?_
   exact obE_end rfl rfl rfl
  ·
   intro eA aA wA hNA hGA hbsA hdpA
   have qA_3 := (hbsA 3 rfl).trans (sl_hit hN rfl)
   obtain ⟨hx, hB1808⟩ := hGA
   refine op_loadA (cs := [kv, (Value.int .i64 x)]) agg51 rfl (ev_base hNA rfl qA_3) (fun j u hu => by rw [Nat.zero_add]; exact hB1808.cell hu) ?_
   exact obE_end rfl rfl rfl
  ·
   intro w1827 E1827 _ a1827 hN1827 hbs1827 hdp1827 o_ ho_; obtain rfl := Option.some.inj ho_
   have z_w1827 := E1827.size
   have hx := hx.keep0 E1827
   have op := op.keep0 E1827
   have ks : ∀ x9 ∈ (D.map pk), Own w1827 0 5 1 x9.1 x9.2.length (x9.2.map u8v) := fun x9 hx9 => (ks x9 hx9).keep0 E1827
   have hk := hk.keep0 E1827
   have hB1808 := hB1808.keep0 E1827
   have hb := hb.step0 E1827
   have q1827_37 : Sl a1827 37 (Value.agg #[kv, (Value.int .i64 x)]) := (hdp1827 6 _ 37 (by kernel_rfl) rfl rfl).2 rfl
   refine op_bslice (e := 51) (pv := [(0, (Value.agg #[kv, (Value.int .i64 x)]))]) (cs := [kv, (Value.int .i64 x)]) ⟨rfl, (ev_base hN1827 rfl q1827_37), trivial⟩ (by obtain ⟨_, _, _, rfl⟩ := hk.sl; kernel_rfl) ?_
   intro w1828 b1829 lo_b1829 hi_b1829 hB1831 E1830
   have ne_b1829_pv : pv.ownBlock ≠ some b1829 := fun hh => by have := (op.lt _ hh).2; omega
   have z_w1828 := E1830.size
   have hx := hx.keep0 E1830
   have op := op.keep0 E1830
   have ks : ∀ x9 ∈ (D.map pk), Own w1828 0 5 1 x9.1 x9.2.length (x9.2.map u8v) := fun x9 hx9 => (ks x9 hx9).keep0 E1830
   have hk := hk.keep0 E1830
   have hB1808 := hB1808.keep0 E1830
   have hb := hb.step0 E1830
   refine ke_end rfl (by decide) rfl ⟨hx, hB1808⟩ ?_
   intro w1832 E1832 _ a1832 hN1832 hbs1832 hdp1832 o_ ho_; obtain rfl := Option.some.inj ho_
   have z_w1832 := E1832.size
   have hx := hx.keep0 E1832
   have op := op.keep0 E1832
   have ks : ∀ x9 ∈ (D.map pk), Own w1832 0 5 1 x9.1 x9.2.length (x9.2.map u8v) := fun x9 hx9 => (ks x9 hx9).keep0 E1832
   have hk := hk.keep0 E1832
   have hB1808 := hB1808.keep0 E1832
   have hB1831 := hB1831.keep0 E1832
   have hb := hb.step0 E1832
   have q1832_35 : Sl a1832 35 pv := (hdp1832 4 _ 35 (by kernel_rfl) rfl rfl).2 rfl
   have q1832_36 : Sl a1832 36 (Value.int .i64 (((pos (kys D) k) : Nat) : Int)) := (hdp1832 5 _ 36 (by kernel_rfl) rfl rfl).2 rfl
   have q1832_38 : Sl a1832 38 (Value.slice (some ⟨b1829, 0, none⟩) 1 1) := (Option.some.inj ((hdp1832 7 _ 38 (by kernel_rfl) rfl rfl).1 0 rfl)).symm
   refine op_fn (vs := [pv, (Value.int .i64 (((pos (kys D) k) : Nat) : Int)), (Value.slice (some ⟨b1829, 0, none⟩) 1 1)]) ok83 ⟨(ev_base hN1832 rfl q1832_35), ⟨(ev_base hN1832 rfl q1832_36), ⟨(ev_base hN1832 rfl q1832_38), trivial⟩⟩⟩ (InsI op hB1831 (one_pI ks (fun _ h => h)) (by simp only [List.all_cons, List.all_nil, Bool.true_and, Bool.and_true, hk.one]; try rfl) (by first | omega | (simp only [List.length_insertIdx, List.length_set, List.length_drop, List.length_take]; omega) | (simp; omega)) (by first | omega | (simp only [List.length_insertIdx, List.length_set, List.length_drop, List.length_take]; omega) | (simp; omega)) ne_b1829_pv) ?_
   rintro v1833 w1834 ⟨E1835, hO1833, hm1833⟩
   have hin1836 := inF_step (n := w.heap.size) hm1833 (by omega) (fun k _ h => hL.wv k h)
   have z_w1834 := E1835.size
   have hx := hx.keepO op E1835 (by decide)
   have ks : ∀ x9 ∈ (D.map pk), Own w1834 0 5 1 x9.1 x9.2.length (x9.2.map u8v) := fun x9 hx9 => (ks x9 hx9).keepT op E1835 (by decide)
   have hk := hk.keepT op E1835 (by decide)
   have hB1808 := hB1808.keep E1835 (fun hh => ne_b1806_pv hh.symm)
   have hB1831 := hB1831.keep E1835 (fun hh => ne_b1829_pv hh.symm)
   have hb := hb.stepL E1835 (fun k _ h => hL.wv k h)
   have hO1833 : Own w1834 0 51 2 v1833 (D.insertIdx (pos (kys D) k) (kv, k, x)).length ((D.insertIdx (pos (kys D) k) (kv, k, x)).flatMap cI) := hO1833.cast (by rw [List.length_insertIdx, if_pos (by first | omega | (simp only [List.length_insertIdx, List.length_set, List.length_drop, List.length_take]; omega) | (simp; omega))]) (flat_ins cI_len (kv, k, x) (by first | omega | (simp only [List.length_insertIdx, List.length_set, List.length_drop, List.length_take]; omega) | (simp; omega)))
   refine ke_end rfl (by decide) rfl ⟨hx, hB1808⟩ ?_
   intro w1837 E1837 a1837 hN1837 hd1837 hbs1837 hph1837
   have hd1837 := hd1837.trans ((by simp only [putsL_defers] : _ = _).trans hd)
   have z_w1837 := E1837.size
   have hx := hx.keep0 E1837
   have ks : ∀ x9 ∈ (D.map pk), Own w1837 0 5 1 x9.1 x9.2.length (x9.2.map u8v) := fun x9 hx9 => (ks x9 hx9).keep0 E1837
   have hk := hk.keep0 E1837
   have hB1808 := hB1808.keep0 E1837
   have hB1831 := hB1831.keep0 E1837
   have hO1833 := hO1833.keep0 E1837
   have hb := hb.step0 E1837
   have s1837_0 := (hbs1837 0 rfl).trans (sl_base hN rfl s0)
   have s1837_4 := (hbs1837 4 rfl).trans (sl_hit hN rfl)
   have s1837_5 := (hbs1837 5 rfl).trans (sl_hit hN rfl)
   have s1837_6 := (hbs1837 6 rfl).trans (sl_hit hN rfl)
   have s1837_31 : Sl a1837 31 (ptr p 0) := (hph1837 0 _ 31 rfl rfl).2 rfl
   have s1837_39 : Sl a1837 39 v1833 := (Option.some.inj ((hph1837 8 _ 39 rfl rfl).1 1 rfl)).symm
   refine split_end ?_
   refine from_seq (tl := [_, _, _]) (by decide) (by kernel_rfl) rfl ?_
   refine op_nil (ev_base hN1837 rfl s1837_31) ?_
   refine op_field fld115_0 (ev_hit hN1837 rfl) ?_
   have hx_old := hx
   refine op_store (vs := [v1833]) (cs' := [v1833, (Value.slice none 0 0), (Value.slice none 0 0)]) size48 (ev_hit hN1837 rfl) (ev_base hN1837 rfl s1837_39) hO1833.cl rfl (by simp only [List.all_cons, List.all_nil, Bool.true_and, Bool.and_true, hO1833.one]; try rfl) hx (Nat.le_of_ble_eq_true rfl) rfl ?_
   intro w1840 hx E1841
   have z_w1840 := E1841.size
   have ks : ∀ x9 ∈ (D.map pk), Own w1840 0 5 1 x9.1 x9.2.length (x9.2.map u8v) := fun x9 hx9 => (ks x9 hx9).keepX hx_old E1841 (by decide)
   have hk := hk.keepX hx_old E1841 (by decide)
   have hB1808 := hB1808.keep E1841 (fun hh => hB1808.ne hx_old (by decide) (Option.some.inj hh))
   have hB1831 := hB1831.keep E1841 (fun hh => hB1831.ne hx_old (by decide) (Option.some.inj hh))
   have hO1833 := hO1833.keepX hx_old E1841 (by decide)
   have hb := hb.stepB E1841 hL.wp
   refine reg_nil ?_
   refine hK1809 _ _ ?_
   refine seq_any fun K1842 hK1842 => ?_
   refine one_reg ?_
   have hl1 : (D.insertIdx (pos (kys D) k) (kv, k, x)).length = D.length + 1 := by rw [List.length_insertIdx, if_pos hpl]
   have ks1843 : ∀ x9 ∈ ((D.insertIdx (pos (kys D) k) (kv, k, x)).map pk), Own w1840 0 5 1 x9.1 x9.2.length (x9.2.map u8v) := ks_ins ks hk hpl
   refine op_move (ev_base hN1837 rfl s1837_0) ?_
   rcases Bool.eq_false_or_eq_true (decide ((D.insertIdx (pos (kys D) k) (kv, k, x)).length ≤ 6)) with k86 | k86
   · -- 86T
    refine op_fn (vs := [(ptr p 0)]) ok86 ⟨(ev_hit hN1837 rfl), trivial⟩ (Ret.flip (halvesLsI hx hO1833 (of_decide_eq_true k86))) ?_
    rintro _ _ ⟨rfl, rfl⟩
    refine op_move (ev_hit hN1837 rfl) ?_
    refine op_extract (ev_hit hN1837 rfl) rfl ?_
    refine op_extract (ev_hit hN1837 rfl) rfl ?_
    refine op_assign (ev_hit hN1837 rfl) ?_
    refine op_assign (ev_hit hN1837 rfl) ?_
    refine reg_nil ?_
    refine hK1842 _ _ ?_
    refine seq_any fun K1844 hK1844 => ?_
    refine one_reg ?_
    refine op_move (ev_base hN1837 rfl s1837_4) ?_
    refine op_move (ev_hit hN1837 rfl) ?_
    refine op_move (ev_hit hN1837 rfl) ?_
    refine op_assign (ev_hit hN1837 rfl) ?_
    refine op_assign (ev_hit hN1837 rfl) ?_
    refine op_assign (ev_hit hN1837 rfl) ?_
    refine reg_nil ?_
    refine hK1844 _ _ ?_
    refine wp_ret ?_
    refine retN (rs := [.tmp 4, .tmp 5, .tmp 6]) (vs := [(Value.bool false), (Value.slice none 0 0), (Value.pointer none)]) rfl hd1837 ⟨(ev_hit hN1837 rfl), ⟨(ev_hit hN1837 rfl), ⟨(ev_hit hN1837 rfl), trivial⟩⟩⟩ rfl ⟨_, rfl, ?_⟩
    -- path 21F 86T
    exact ⟨hb, _, _, by rw [put_miss (kv := kv) c21 hpl]; rfl, out_small ((congrArg Prod.snd (put_miss (kv := kv) c21 hpl)).trans (congrArg Prod.snd (rfl : (true, halves 0 _) = (true, halves 0 _)) |>.trans (halves_small (by simpa using of_decide_eq_true k86)))) (mkLeaf (D := (D.insertIdx (pos (kys D) k) (kv, k, x))) (κ := kI) hx hO1833 ks1843 (kr_ins hL.kr hkr hpl) rfl) (newF_in (leafW_in (fun _ => hL.wp) hin1836))⟩
   · -- 86F
    refine op_fn (vs := [(ptr p 0)]) ok86 ⟨(ev_hit hN1837 rfl), trivial⟩ (halvesLbI hx hO1833 ks1843 (by have := of_decide_eq_false k86; omega) (by first | omega | (simp only [List.length_insertIdx, List.length_set, List.length_drop, List.length_take]; omega) | (simp; omega))) ?_
    rintro _ w1846 ⟨E1847, q1845, qv1845, rfl, hx1845, op1845, lo1845, hB1845, hO1845⟩
    have E1847 := E1847.grown (row := some p) (fun k _ h => by rw [h])
    have hx_old := hx
    have hlt1848 : ∀ j, leafW p (hiV v1833 ((D.insertIdx (pos (kys D) k) (kv, k, x)).length - 3)) j → j < w1840.heap.size := leafW_lt hx.lt (fun j h => (hO1833.lt j ((hiV_ob _ _).symm.trans h)).2)
    have z_w1846 := E1847.size
    have ks : ∀ x9 ∈ (D.map pk), Own w1846 0 5 1 x9.1 x9.2.length (x9.2.map u8v) := fun x9 hx9 => (ks x9 hx9).keepX hx_old E1847 (by decide)
    have hk := hk.keepX hx_old E1847 (by decide)
    have hB1808 := hB1808.keep E1847 (fun hh => hB1808.ne hx_old (by decide) (Option.some.inj hh))
    have hB1831 := hB1831.keep E1847 (fun hh => hB1831.ne hx_old (by decide) (Option.some.inj hh))
    have ks1843 : ∀ x9 ∈ ((D.insertIdx (pos (kys D) k) (kv, k, x)).map pk), Own w1846 0 5 1 x9.1 x9.2.length (x9.2.map u8v) := fun x9 hx9 => (ks1843 x9 hx9).keepX hx_old E1847 (by decide)
    have hb := hb.stepB E1847 hL.wp
    refine op_move (ev_hit hN1837 rfl) ?_
    refine op_extract (ev_hit hN1837 rfl) rfl ?_
    refine op_extract (ev_hit hN1837 rfl) rfl ?_
    refine op_assign (ev_hit hN1837 rfl) ?_
    refine op_assign (ev_hit hN1837 rfl) ?_
    refine reg_nil ?_
    refine hK1842 _ _ ?_
    refine seq_any fun K1849 hK1849 => ?_
    refine one_reg ?_
    refine op_move (ev_base hN1837 rfl s1837_4) ?_
    refine op_move (ev_hit hN1837 rfl) ?_
    refine op_move (ev_hit hN1837 rfl) ?_
    refine op_assign (ev_hit hN1837 rfl) ?_
    refine op_assign (ev_hit hN1837 rfl) ?_
    refine op_assign (ev_hit hN1837 rfl) ?_
    refine reg_nil ?_
    refine hK1849 _ _ ?_
    refine wp_ret ?_
    refine retN (rs := [.tmp 4, .tmp 5, .tmp 6]) (vs := [(Value.bool false), (((D.insertIdx (pos (kys D) k) (kv, k, x)).drop ((D.insertIdx (pos (kys D) k) (kv, k, x)).length - 3)).getD 0 default).1, (ptr q1845 0)]) rfl hd1837 ⟨(ev_hit hN1837 rfl), ⟨(ev_hit hN1837 rfl), ⟨(ev_hit hN1837 rfl), trivial⟩⟩⟩ rfl ⟨_, rfl, ?_⟩
    -- path 21F 86F
    exact ⟨hb, _, _, by rw [put_miss (kv := kv) c21 hpl]; rfl, out_big ((congrArg Prod.snd (put_miss (kv := kv) c21 hpl)).trans (halves_big (D := (D.insertIdx (pos (kys D) k) (kv, k, x))) (by have := of_decide_eq_false k86; omega))) (ks1843 _ (drop_key (by omega))) ((kr_ins hL.kr hkr hpl) _ (drop_key (by omega))) (mkLeaf (D := (D.insertIdx (pos (kys D) k) (kv, k, x)).take ((D.insertIdx (pos (kys D) k) (kv, k, x)).length - 3)) (κ := kI) hx1845 op1845 (ks_sub ks1843 (fun _ h => List.mem_of_mem_take h)) (ks_sub (kr_ins hL.kr hkr hpl) (fun _ h => List.mem_of_mem_take h)) rfl) (mkLeaf (D := (D.insertIdx (pos (kys D) k) (kv, k, x)).drop ((D.insertIdx (pos (kys D) k) (kv, k, x)).length - 3)) (κ := kI) hB1845 hO1845 (ks_sub ks1843 (fun _ h => List.mem_of_mem_drop h)) (ks_sub (kr_ins hL.kr hkr hpl) (fun _ h => List.mem_of_mem_drop h)) rfl) (newF_in (leafW_in (fun _ => hL.wp) (inF_step (n := w.heap.size) (.inl (hiV_ob _ _)) (Nat.le_refl _) hin1836))) (fun j hj => .inr (Nat.le_trans (by omega) ((leafW_fresh lo1845 hO1845) j hj))) (new_dj hlt1848 (leafW_fresh lo1845 hO1845))⟩

end Go.Proofs.Ytcpfdfejojghbaa

/- Nodes that are not leaves: made anew, and parted. -/
namespace Go.Gx
open Go.Bt Go.RowKit
section
variable {V : Type} {κ : Kd V} {w w' : World} {F G G1 G2 H W W' W2 R : Nat → Prop} {base e sz n n2 b t h p q i : Nat} {u m pv kv cv qk qc : Value} {cs : List Value} {D : List (DP V)} {K : List DK} {P : List Nat} {k y : Ky} {x : V} {ts : List (Tr V h)} {c t2 : Tr V h}
variable {α : Type} {A : Nat → α → (Nat → Prop) → Prop} {ys9 : List α} {a : α} {f : Nat → Prop}
theorem Kids.cutc (K : Kids A P ys9 G) (hc : ys9[i]? = some a) : ∃ f G0, A (P.getD i default) a f ∧ Kids A (P.eraseIdx i) (ys9.eraseIdx i) G0 ∧ Dj f G0 ∧ (∀ k, f k → G k) ∧ (∀ k, G0 k → G k) := by
  obtain ⟨hi, rfl⟩ := List.getElem?_eq_some_iff.1 hc
  exact K.cut1 hi
/-- The first n kids, and the others. -/
theorem Kids.split (K : Kids A P ys9 G) (n : Nat) : ∃ G1 G2, Kids A (P.take n) (ys9.take n) G1 ∧ Kids A (P.drop n) (ys9.drop n) G2 ∧ Dj G1 G2 ∧ (∀ k, G1 k → G k) ∧ (∀ k, G2 k → G k) := by
  obtain ⟨L, rfl, rfl, h3, h4, h5⟩ := K
  have hp := h4
  rw [← List.take_append_drop n L, List.pairwise_append] at hp
  refine ⟨fun k => ∃ x ∈ L.take n, x.2.2 k, fun k => ∃ x ∈ L.drop n, x.2.2 k, ⟨L.take n, by rw [List.map_take], by rw [List.map_take], fun x hx => h3 x (List.mem_of_mem_take hx), hp.1, fun _ => Iff.rfl⟩, ⟨L.drop n, by rw [List.map_drop], by rw [List.map_drop], fun x hx => h3 x (List.mem_of_mem_drop hx), hp.2.1, fun _ => Iff.rfl⟩, ?_, fun k ⟨x, hx, hk⟩ => (h5 k).2 ⟨x, List.mem_of_mem_take hx, hk⟩, fun k ⟨x, hx, hk⟩ => (h5 k).2 ⟨x, List.mem_of_mem_drop hx, hk⟩⟩
  rintro k ⟨x, hx, hk⟩ ⟨y, hy, hk2⟩
  exact hp.2.2 x hx y hy k hk hk2
def nodeW (p : Nat) (kv cv : Value) (G : Nat → Prop) : Nat → Prop := fun j => j = p ∨ Bl kv j ∨ Bl cv j ∨ G j
theorem nodeW_ty (B : Bx w p κ.tB [nilV, kv, cv]) (O : Own w base 27 1 kv n cs) {base2 : Nat} {cs2 : List Value} (O2 : Own w base2 κ.tN 1 cv n2 cs2) (T : TyF κ w G) : TyF κ w (nodeW p kv cv G) := (TyF.ofBx B (.inl rfl)).or ((TyF.ofOwn O (.inr (.inr (.inl rfl)))).or ((TyF.ofOwn O2 (.inr (.inr (.inr rfl)))).or T))
theorem mkNode {base2 : Nat} (B : Bx w p κ.tB [nilV, kv, cv]) (O : Own w base 27 1 kv K.length (K.flatMap cK)) (O2 : Own w base2 κ.tN 1 cv P.length (P.flatMap cN)) (ks : ∀ x9 ∈ K, Own w 0 5 1 x9.1 x9.2.length (x9.2.map u8v)) (kr : ∀ x9 ∈ K, ∀ k, Bl x9.1 k → R k) (Ks : KidsR κ R w h P ts G) (np : ¬ G p) (nk : Dj (Bl kv) G) (nc : Dj (Bl cv) G) : TreeR κ R w (h + 1) p ((K.map Prod.snd, ts) : Tr V (h + 1)) (nodeW p kv cv G) :=
  ⟨kv, cv, K, P, G, ⟨B, O.mono (Nat.zero_le _), O2.mono (Nat.zero_le _), ks, kr, .inl rfl, fun _ h => .inr (.inl h), fun _ h => .inr (.inr (.inl h)), fun _ h => .inr (.inr (.inr h)), nodeW_ty B O O2 Ks.ty, np, nk, nc⟩, Ks, rfl⟩
theorem nodeW_in (hp : p < n → W p) (hk : ∀ j, j < n → Bl kv j → W j) (hc : ∀ j, j < n → Bl cv j → W j) (hg : ∀ j, j < n → G j → W j) : ∀ j, j < n → nodeW p kv cv G j → W j := fun j hj hh => by
  rcases hh with rfl | hh | hh | hh
  · exact hp hj
  · exact hk j hj hh
  · exact hc j hj hh
  · exact hg j hj hh
theorem nodeW_lt (hp : p < n) (hk : ∀ j, Bl kv j → j < n) (hc : ∀ j, Bl cv j → j < n) (hg : ∀ j, G j → j < n) : ∀ j, nodeW p kv cv G j → j < n := fun j hh => by
  rcases hh with rfl | hh | hh | hh
  · exact hp
  · exact hk j hh
  · exact hc j hh
  · exact hg j hh
theorem in_newF (h : NewF n F W') (hs : ∀ k, F k → W k) : ∀ k, k < n → W' k → W k := fun k hk hw => (h k hw).elim (hs k) (fun q => by omega)
theorem out_node_small {X : Tr V (h + 1) × Option (Ky × Tr V (h + 1))} (hX : X = (((K.map Prod.snd, ts) : Tr V (h + 1)), none)) (B : Bx w p κ.tB [nilV, kv, cv]) (O : Own w base 27 1 kv K.length (K.flatMap cK)) {base2 : Nat} (O2 : Own w base2 κ.tN 1 cv P.length (P.flatMap cN)) (ks : ∀ x9 ∈ K, Own w 0 5 1 x9.1 x9.2.length (x9.2.map u8v)) (kr : ∀ x9 ∈ K, ∀ k, Bl x9.1 k → R k) (Ks : KidsR κ R w h P ts G) (np : ¬ G p) (nk : Dj (Bl kv) G) (nc : Dj (Bl cv) G) (N : ∀ j, j < n → nodeW p kv cv G j → W j) : OutR κ R w n W (h + 1) p X nilV (.pointer none) := by
  subst hX; exact ⟨rfl, rfl, _, mkNode B O O2 ks kr Ks np nk nc, newF_in N⟩
/-- A node is parted: the old one, and a new one whose own blocks are all new. -/
theorem out_node_big [Inhabited V] {X : Tr V (h + 1) × Option (Ky × Tr V (h + 1))} {b9 m9 : Nat} (hX : X = (((K.take m9).map Prod.snd, ts.take (m9 + 1)), some ((K.getD m9 default).2, ((K.drop (m9 + 1)).map Prod.snd, ts.drop (m9 + 1))))) (hm : m9 < K.length)
    (B : Bx w p κ.tB [nilV, kv, cv]) (O : Own w 0 27 1 kv (K.take m9).length ((K.take m9).flatMap cK)) (O2 : Own w 0 κ.tN 1 cv (P.take (m9 + 1)).length ((P.take (m9 + 1)).flatMap cN))
    (B2 : Bx w q κ.tB [nilV, qk, qc]) (O3 : Own w b9 27 1 qk (K.drop (m9 + 1)).length ((K.drop (m9 + 1)).flatMap cK)) (O4 : Own w b9 κ.tN 1 qc (P.drop (m9 + 1)).length ((P.drop (m9 + 1)).flatMap cN)) (hq : b9 ≤ q) (hn : n ≤ b9)
    (ks : ∀ x9 ∈ K, Own w 0 5 1 x9.1 x9.2.length (x9.2.map u8v)) (kr : ∀ x9 ∈ K, ∀ k, Bl x9.1 k → R k) (Ks : KidsR κ R w h P ts G) (np : ¬ G p) (nk : Dj (Bl kv) G) (nc : Dj (Bl cv) G) (N : ∀ j, j < n → nodeW p kv cv G j → W j) (hlt : ∀ j, nodeW p kv cv G j → j < b9) : OutR κ R w n W (h + 1) p X (K.getD m9 default).1 (ptr q 0) := by
  obtain ⟨G1, G2, K1, K2, hd, s1, s2⟩ := Kids.split Ks (m9 + 1)
  have hmem := getD_mem (d := default) hm
  have sub : ∀ j, nodeW p kv cv G1 j → nodeW p kv cv G j := fun j hj => by
    rcases hj with hj | hj | hj | hj
    · exact .inl hj
    · exact .inr (.inl hj)
    · exact .inr (.inr (.inl hj))
    · exact .inr (.inr (.inr (s1 j hj)))
  have g2 : ∀ j, G2 j → j < b9 := fun j hj => hlt j (.inr (.inr (.inr (s2 j hj))))
  have fr : ∀ j, nodeW q qk qc G2 j → b9 ≤ j ∨ G2 j := fun j hj => by
    rcases hj with rfl | hj | hj | hj
    · exact .inl hq
    · exact .inl (O3.lt j hj).1
    · exact .inl (O4.lt j hj).1
    · exact .inr hj
  subst hX
  refine ⟨q, _, _, rfl, ks _ hmem, kr _ hmem, mkNode B O O2 (fun x hx => ks x (List.mem_of_mem_take hx)) (fun x hx => kr x (List.mem_of_mem_take hx)) K1 (fun h => np (s1 _ h)) (nk.mono s1) (nc.mono s1), mkNode B2 O3 O4 (fun x hx => ks x (List.mem_of_mem_drop hx)) (fun x hx => kr x (List.mem_of_mem_drop hx)) K2 (fun h => by have := g2 _ h; omega) (fun j hj hg => by have := (O3.lt j hj).1; have := g2 j hg; omega) (fun j hj hg => by have := (O4.lt j hj).1; have := g2 j hg; omega), newF_in fun j hj hw => N j hj (sub j hw), fun j hj => ?_, fun j hj hg => ?_⟩
  · rcases fr j hj with hj | hj
    · exact .inr (by omega)
    · by_cases hjn : j < n
      · exact .inl (N j hjn (.inr (.inr (.inr (s2 j hj)))))
      · exact .inr (by omega)
  · rcases fr j hg with hq' | hq'
    · have := hlt j (sub j hj); omega
    · rcases hj with rfl | hj | hj | hj
      · exact np (s2 _ hq')
      · exact nk j hj (s2 j hq')
      · exact nc j hj (s2 j hq')
      · exact hd j hj hq'
theorem halves_nsmall {ks : List Ky} (h6 : ks.length ≤ 6) : halves (h + 1) ((ks, ts) : Tr V (h + 1)) = ((ks, ts), none) := if_pos h6
theorem halves_nbig (h6 : 6 < K.length) : halves (h + 1) ((K.map Prod.snd, ts) : Tr V (h + 1)) = (((K.take (K.length / 2)).map Prod.snd, ts.take (K.length / 2 + 1)), some ((K.getD (K.length / 2) default).2, ((K.drop (K.length / 2 + 1)).map Prod.snd, ts.drop (K.length / 2 + 1)))) := by
  have hh : ¬ (K.map Prod.snd).length ≤ 6 := by simp; omega
  show (if (K.map Prod.snd).length ≤ 6 then _ else _) = _
  rw [if_neg hh]
  have e1 : (K.map Prod.snd).length = K.length := by simp
  have hl : K.length / 2 < K.length := by omega
  have e2 : (K.map Prod.snd).getD (K.length / 2) [] = (K.getD (K.length / 2) default).2 := getD_map9 hl
  show ((((K.map Prod.snd).take ((K.map Prod.snd).length / 2), ts.take ((K.map Prod.snd).length / 2 + 1)) : Tr V (h + 1)), some ((K.map Prod.snd).getD ((K.map Prod.snd).length / 2) [], (((K.map Prod.snd).drop ((K.map Prod.snd).length / 2 + 1), ts.drop ((K.map Prod.snd).length / 2 + 1)) : Tr V (h + 1)))) = _
  rw [e1, e2, List.map_take, List.map_drop]
theorem put_none (hc : ts[way (K.map Prod.snd) k]? = some c) (hr : (putT h k x c).2.2 = none) : putT (h + 1) k x ((K.map Prod.snd, ts) : Tr V (h + 1)) = ((putT h k x c).1, halves (h + 1) ((K.map Prod.snd, ts.set (way (K.map Prod.snd) k) (putT h k x c).2.1) : Tr V (h + 1))) := by
  have e : ts.getD (way (K.map Prod.snd) k) default = c := by rw [List.getD_eq_getElem?_getD, hc]; rfl
  rw [puts, e, hr]; rfl
theorem put_some (hc : ts[way (K.map Prod.snd) k]? = some c) (hr : (putT h k x c).2.2 = some (y, t2)) (hi : way (K.map Prod.snd) k ≤ K.length) : putT (h + 1) k x ((K.map Prod.snd, ts) : Tr V (h + 1)) = ((putT h k x c).1, halves (h + 1) (((K.insertIdx (way (K.map Prod.snd) k) (u, y)).map Prod.snd, (ts.set (way (K.map Prod.snd) k) (putT h k x c).2.1).insertIdx (way (K.map Prod.snd) k + 1) t2) : Tr V (h + 1))) := by
  have e : ts.getD (way (K.map Prod.snd) k) default = c := by rw [List.getD_eq_getElem?_getD, hc]; rfl
  rw [puts, e, hr, ← map_ins9 (f := Prod.snd) hi]; rfl
theorem outR_none {X : Tr V h × Option (Ky × Tr V h)} (hr : X.2.isSome = false) (O : OutR κ R w n W h p X u m) : X.2 = none ∧ u = nilV ∧ m = .pointer none ∧ ∃ W', TreeR κ R w h p X.1 W' ∧ NewF n W W' := by
  obtain ⟨t, o⟩ := X
  cases o with
  | none => obtain ⟨h1, h2, h3⟩ := O; exact ⟨rfl, h1, h2, h3⟩
  | some o => cases hr
theorem outR_some {X : Tr V h × Option (Ky × Tr V h)} (hr : X.2.isSome = true) (O : OutR κ R w n W h p X u m) : ∃ y t2 q W' W2, X.2 = some (y, t2) ∧ m = ptr q 0 ∧ Own w 0 5 1 u y.length (y.map u8v) ∧ (∀ j, Bl u j → R j) ∧ TreeR κ R w h p X.1 W' ∧ TreeR κ R w h q t2 W2 ∧ NewF n W W' ∧ NewF n W W2 ∧ Dj W' W2 := by
  obtain ⟨t, o⟩ := X
  cases o with
  | none => cases hr
  | some o => obtain ⟨y, t2⟩ := o; obtain ⟨q, W', W2, h⟩ := O; exact ⟨y, t2, q, W', W2, rfl, h⟩
theorem kks_ins {d : DK} {Q : DK → Prop} (ks : ∀ x9 ∈ K, Q x9) (hd : Q d) (hi : i ≤ K.length) : ∀ x9 ∈ K.insertIdx i d, Q x9 := fun x hx => by
  rw [insIdx d hi, List.mem_append, List.mem_cons] at hx
  rcases hx with hx | rfl | hx
  · exact ks _ (List.mem_of_mem_take hx)
  · exact hd
  · exact ks _ (List.mem_of_mem_drop hx)
end
end Go.Gx

/- Small laws for walks, the thirty-third part: a region of open order with great operations that are not all in a row: each order of them is told, the light ones come at any time. -/
namespace Go.Gx
open Go.RowKit
section
variable {P : Program} {ol : List Oper} {Q : Exit → Act → World → Prop} {bigs : List Nat} {φ : Nat → Value → Prop} {G : World → Prop} {a0 : Act} {N : Nat}
/-- What is told of an operation's value: of a great one, which it is of those that were handed back; of a light one, what is told ahead. -/
def PhT (bigs : List Nat) (φ : Nat → Value → Prop) (e : List (Nat × Value)) (j : Nat) (u : Value) : Prop := (bigs.contains j = true → e.lookup j = some u) ∧ (bigs.contains j = false → φ j u)
theorem PhT.mono {e : List (Nat × Value)} {i j : Nat} {v u : Value} (hij : j ≠ i) (h : PhT bigs φ e j u) : PhT bigs φ ((i, v) :: e) j u :=
  ⟨fun hb => by rw [List.lookup_cons, beq_false_of_ne hij]; exact h.1 hb, h.2⟩
structure TInv (ol : List Oper) (bigs : List Nat) (φ : Nat → Value → Prop) (a0 : Act) (N : Nat) (listed : Array Bool) (todo : List Nat) (e : List (Nat × Value)) (a : Act) : Prop where
  size : a.tmps.size = N
  defers : a.defers = a0.defers
  base : ∀ t, (∀ j o, ol[j]? = some o → listed.getD j true = true → o.dst ≠ some t) → a.tmps.getD t undef = a0.tmps.getD t undef
  phi : ∀ j o d, ol[j]? = some o → listed.getD j true = true → o.dst = some d → PhT bigs φ e j (a.tmps.getD d undef)
  closed : ∀ j o, ol[j]? = some o → listed.getD j true = true → ∀ x ∈ o.after, Region.binds .any x = true → listed.getD x.on false = true
  lsize : listed.size = ol.length
  todos : ∀ i, i ∈ todo ↔ i ∈ bigs ∧ listed.getD i true = false
  nodup : List.Nodup todo
/-- One great operation, and what is left to show behind it. -/
def KI (P : Program) (ol : List Oper) (bigs : List Nat) (φ : Nat → Value → Prop) (G : World → Prop) (a0 : Act) (N : Nat) (e : List (Nat × Value)) (i : Nat) (w : World) (K : Value → World → Prop) : Prop :=
  ∀ w1, w.grownBy w1 none → G w1 → ∀ a, a.tmps.size = N → (∀ t, safeB ol i t = true → a.tmps.getD t undef = a0.tmps.getD t undef) → (∀ j oj d, depB ol i j = true → ol[j]? = some oj → oj.dst = some d → PhT bigs φ e j (a.tmps.getD d undef)) →
    ∀ o, ol[i]? = some o → wpList P ol.toArray (fun ex a' w' => ex = .normal ∧ ∃ v, ((o.dst = none ∧ a' = a) ∨ ∃ d, o.dst = some d ∧ a' = putsL a [(d, v)]) ∧ K v w' ∧ G w') [o] (putsL a []) w1
def readyT (ol : List Oper) (todo : List Nat) : List Nat := todo.filter fun i => todo.all fun j => !depB ol i j
/-- What is left to show, with these great ones still to come. -/
def KT (P : Program) (ol : List Oper) (bigs : List Nat) (φ : Nat → Value → Prop) (G : World → Prop) (a0 : Act) (N : Nat) (Q : Exit → Act → World → Prop) : Nat → List Nat → List (Nat × Value) → World → Prop
  | 0, _, e, w => ∀ w1, w.grownBy w1 none → ∀ a', a'.tmps.size = N → a'.defers = a0.defers → (∀ t, (ol.all fun o => o.dst != some t) = true → a'.tmps.getD t undef = a0.tmps.getD t undef) →
      (∀ j oj d, ol[j]? = some oj → oj.dst = some d → PhT bigs φ e j (a'.tmps.getD d undef)) → Q .normal (putsL a' []) w1
  | n + 1, todo, e, w => ∀ i ∈ readyT ol todo, KI P ol bigs φ G a0 N e i w fun v w' => KT P ol bigs φ G a0 N Q n (todo.erase i) ((i, v) :: e) w'
theorem KT.stable : ∀ {n : Nat} {todo : List Nat} {e : List (Nat × Value)} {w w2 : World}, KT P ol bigs φ G a0 N Q n todo e w → w.grownBy w2 none → KT P ol bigs φ G a0 N Q n todo e w2
  | 0, _, _, _, _, h, E => fun w1 E1 => h w1 (grown_trans E E1)
  | _ + 1, _, _, _, _, h, E => fun i hi w1 E1 => h i hi w1 (grown_trans E E1)
/-- What a light operation must show. -/
def ObR9 (P : Program) (ol : List Oper) (bigs : List Nat) (φ : Nat → Value → Prop) (G : World → Prop) (a0 : Act) (N : Nat) (i : Nat) (o : Oper) : Prop :=
  ∀ (e : List (Nat × Value)) (a : Act) (w : World), a.tmps.size = N → G w → (∀ t, safeB ol i t = true → a.tmps.getD t undef = a0.tmps.getD t undef) → (∀ j oj d, depB ol i j = true → ol[j]? = some oj → oj.dst = some d → PhT bigs φ e j (a.tmps.getD d undef)) →
    wpList P ol.toArray (fun ex a' w' => ex = .normal ∧ (∃ d v, o.dst = some d ∧ a' = putsL a [(d, v)] ∧ φ i v) ∧ w.grownBy w' none) [o] (putsL a []) w
def ObRs9 (P : Program) (ol : List Oper) (bigs : List Nat) (φ : Nat → Value → Prop) (G : World → Prop) (a0 : Act) (N : Nat) : Nat → List Oper → Prop
  | _, [] => True
  | i, o :: r => (bigs.contains i = false → ObR9 P ol bigs φ G a0 N i o) ∧ ObRs9 P ol bigs φ G a0 N (i + 1) r
theorem ObRs9.nil {i : Nat} : ObRs9 P ol bigs φ G a0 N i [] := trivial
theorem ObRs9.cons {i : Nat} {o : Oper} {r : List Oper} (h : ObR9 P ol bigs φ G a0 N i o) (h' : ObRs9 P ol bigs φ G a0 N (i + 1) r) : ObRs9 P ol bigs φ G a0 N i (o :: r) := ⟨fun _ => h, h'⟩
theorem ObRs9.pass {i : Nat} {o : Oper} {r : List Oper} (hh : bigs.contains i = true) (h' : ObRs9 P ol bigs φ G a0 N (i + 1) r) : ObRs9 P ol bigs φ G a0 N i (o :: r) := ⟨fun h => absurd (hh.symm.trans h) (by decide), h'⟩
theorem ObRs9.getx : ∀ {l : List Oper} {i : Nat}, ObRs9 P ol bigs φ G a0 N i l → ∀ j o, l[j]? = some o → bigs.contains (i + j) = false → ObR9 P ol bigs φ G a0 N (i + j) o
  | [], _, _, j, o, h, _ => by simp at h
  | o' :: r, i, h, 0, o, hj, hs => by simp at hj; subst hj; exact h.1 hs
  | o' :: r, i, h, j + 1, o, hj, hs => by
    have := ObRs9.getx h.2 j o (by simpa using hj) (by rwa [show i + 1 + j = i + (j + 1) by omega])
    rwa [show i + 1 + j = i + (j + 1) by omega] at this
theorem one_mem {p : Nat → Prop} {x : Nat} (h : p x) : ∀ i ∈ [x], p i := fun i hi => by
  obtain rfl : i = x := by simpa using hi
  exact h
theorem more_mem {p : Nat → Prop} {x y : Nat} {r : List Nat} (h : p x) (h' : ∀ i ∈ y :: r, p i) : ∀ i ∈ x :: y :: r, p i := List.forall_mem_cons.2 ⟨h, h'⟩
end
end Go.Gx

/- Small laws for walks, the forty-first part: as the thirty-third, where what light operations look at may end with one of the great ones. -/
namespace Go.Gx
open Go.RowKit
section
variable {P : Program} {ol : List Oper} {Q : Exit → Act → World → Prop} {bigs : List Nat} {φ : Nat → Value → Prop} {G : List Nat → World → Prop} {a0 : Act} {N : Nat}
/-- One great operation, and what is left to show behind it. -/
def KIk (P : Program) (ol : List Oper) (bigs : List Nat) (φ : Nat → Value → Prop) (G : List Nat → World → Prop) (a0 : Act) (N : Nat) (e : List (Nat × Value)) (todo : List Nat) (i : Nat) (w : World) (K : Value → World → Prop) : Prop :=
  ∀ w1, w.grownBy w1 none → G todo w1 → ∀ a, a.tmps.size = N → (∀ t, safeB ol i t = true → a.tmps.getD t undef = a0.tmps.getD t undef) → (∀ j oj d, depB ol i j = true → ol[j]? = some oj → oj.dst = some d → PhT bigs φ e j (a.tmps.getD d undef)) →
    ∀ o, ol[i]? = some o → wpList P ol.toArray (fun ex a' w' => ex = .normal ∧ ∃ v, ((o.dst = none ∧ a' = a) ∨ ∃ d, o.dst = some d ∧ a' = putsL a [(d, v)]) ∧ K v w' ∧ G (todo.erase i) w') [o] (putsL a []) w1
/-- What is left to show, with these great ones still to come. -/
def KTk (P : Program) (ol : List Oper) (bigs : List Nat) (φ : Nat → Value → Prop) (G : List Nat → World → Prop) (a0 : Act) (N : Nat) (Q : Exit → Act → World → Prop) : Nat → List Nat → List (Nat × Value) → World → Prop
  | 0, _, e, w => ∀ w1, w.grownBy w1 none → ∀ a', a'.tmps.size = N → a'.defers = a0.defers → (∀ t, (ol.all fun o => o.dst != some t) = true → a'.tmps.getD t undef = a0.tmps.getD t undef) →
      (∀ j oj d, ol[j]? = some oj → oj.dst = some d → PhT bigs φ e j (a'.tmps.getD d undef)) → Q .normal (putsL a' []) w1
  | n + 1, todo, e, w => ∀ i ∈ readyT ol todo, KIk P ol bigs φ G a0 N e todo i w fun v w' => KTk P ol bigs φ G a0 N Q n (todo.erase i) ((i, v) :: e) w'
theorem KTk.stable : ∀ {n : Nat} {todo : List Nat} {e : List (Nat × Value)} {w w2 : World}, KTk P ol bigs φ G a0 N Q n todo e w → w.grownBy w2 none → KTk P ol bigs φ G a0 N Q n todo e w2
  | 0, _, _, _, _, h, E => fun w1 E1 => h w1 (grown_trans E E1)
  | _ + 1, _, _, _, _, h, E => fun i hi w1 E1 => h i hi w1 (grown_trans E E1)
/-- What a light operation must show. -/
def ObQ9 (P : Program) (ol : List Oper) (bigs : List Nat) (φ : Nat → Value → Prop) (G : List Nat → World → Prop) (a0 : Act) (N : Nat) (i : Nat) (o : Oper) : Prop :=
  ∀ (e : List (Nat × Value)) (todo : List Nat) (a : Act) (w : World), a.tmps.size = N → (∀ j, bigs.contains j = true → depB ol j i = true → j ∈ todo) → G todo w → (∀ t, safeB ol i t = true → a.tmps.getD t undef = a0.tmps.getD t undef) → (∀ j oj d, depB ol i j = true → ol[j]? = some oj → oj.dst = some d → PhT bigs φ e j (a.tmps.getD d undef)) →
    wpList P ol.toArray (fun ex a' w' => ex = .normal ∧ (∃ d v, o.dst = some d ∧ a' = putsL a [(d, v)] ∧ φ i v) ∧ w.grownBy w' none) [o] (putsL a []) w
def ObRk9 (P : Program) (ol : List Oper) (bigs : List Nat) (φ : Nat → Value → Prop) (G : List Nat → World → Prop) (a0 : Act) (N : Nat) : Nat → List Oper → Prop
  | _, [] => True
  | i, o :: r => (bigs.contains i = false → ObQ9 P ol bigs φ G a0 N i o) ∧ ObRk9 P ol bigs φ G a0 N (i + 1) r
theorem ObRk9.nil {i : Nat} : ObRk9 P ol bigs φ G a0 N i [] := trivial
theorem ObRk9.cons {i : Nat} {o : Oper} {r : List Oper} (h : ObQ9 P ol bigs φ G a0 N i o) (h' : ObRk9 P ol bigs φ G a0 N (i + 1) r) : ObRk9 P ol bigs φ G a0 N i (o :: r) := ⟨fun _ => h, h'⟩
theorem ObRk9.pass {i : Nat} {o : Oper} {r : List Oper} (hh : bigs.contains i = true) (h' : ObRk9 P ol bigs φ G a0 N (i + 1) r) : ObRk9 P ol bigs φ G a0 N i (o :: r) := ⟨fun h => absurd (hh.symm.trans h) (by decide), h'⟩
theorem ObRk9.getx : ∀ {l : List Oper} {i : Nat}, ObRk9 P ol bigs φ G a0 N i l → ∀ j o, l[j]? = some o → bigs.contains (i + j) = false → ObQ9 P ol bigs φ G a0 N (i + j) o
  | [], _, _, j, o, h, _ => by simp at h
  | o' :: r, i, h, 0, o, hj, hs => by simp at hj; subst hj; exact h.1 hs
  | o' :: r, i, h, j + 1, o, hj, hs => by
    have := ObRk9.getx h.2 j o (by simpa using hj) (by rwa [show i + 1 + j = i + (j + 1) by omega])
    rwa [show i + 1 + j = i + (j + 1) by omega] at this
theorem region_treek_steps (hlex : lexB' ol = true) (hdn : dstNB ol N = true) (hdst : dstsB ol = true) (hbl : (bigs.all fun i => Nat.blt i ol.length) = true)
    (hG : ∀ t w1 w2, w1.grownBy w2 none → G t w1 → G t w2) (obL : ∀ i o, ol[i]? = some o → bigs.contains i = false → ObQ9 P ol bigs φ G a0 N i o) :
    ∀ (fuel : Nat) (listed : Array Bool) (todo : List Nat) (e : List (Nat × Value)) (a : Act) (w : World), TInv ol bigs φ a0 N listed todo e a → KTk P ol bigs φ G a0 N Q todo.length todo e w → G todo w → (List.range ol.length).countP (fun i => !listed.getD i true) ≤ fuel → wpAny P .any ol.toArray Q fuel listed a w := by
  have done : ∀ (listed : Array Bool) (todo : List Nat) (e : List (Nat × Value)) (a : Act) (w : World), TInv ol bigs φ a0 N listed todo e a → KTk P ol bigs φ G a0 N Q todo.length todo e w → Region.ready .any ol.toArray listed = [] → Q .normal a w := by
    intro listed todo ee a w I hk hr
    have hall : ∀ i, i < ol.length → listed.getD i true = true := by
      intro i
      induction i using Nat.strongRecOn with
      | _ i ih =>
        intro hi
        by_cases hq : listed.getD i true = true
        · exact hq
        · exfalso
          have hm : i ∈ Region.ready .any ol.toArray listed := by
            rw [mem_ready]
            refine ⟨by simpa using hq, ol[i], by simp [hi], fun e he hb => ?_⟩
            have h1 := List.all_eq_true.1 hlex i (by simp [hi])
            simp only [List.getElem?_eq_getElem hi, Array.all_eq_true_iff_forall_mem, Bool.or_eq_true, Bool.not_eq_true', Nat.blt_eq] at h1
            have h2 := (h1 e he).resolve_left (by simp [hb])
            exact getD_true_lt (ih e.on h2 (by omega)) (by rw [I.lsize]; omega)
          rw [hr] at hm
          cases hm
    have ht : todo = [] := by
      rw [List.eq_nil_iff_forall_not_mem]
      intro i hi
      obtain ⟨hb, hl⟩ := (I.todos i).1 hi
      have := List.all_eq_true.1 hbl i hb
      rw [hall i (by simpa [Nat.blt_eq] using this)] at hl
      cases hl
    subst ht
    exact hk w (grown_refl _ _) a I.size I.defers (fun t ht => I.base t fun j o hj _ hd' => by
      have := List.all_eq_true.1 ht o (List.mem_of_getElem? hj)
      simp [hd'] at this) (fun j oj d hj hd' => I.phi j oj d hj (hall j (List.getElem?_eq_some_iff.1 hj).1) hd')
  intro fuel
  induction fuel with
  | zero =>
    intro listed todo ee a w I hk hg hcnt
    have hr : Region.ready .any ol.toArray listed = [] := by
      rw [List.eq_nil_iff_forall_not_mem]
      intro i hi
      obtain ⟨h1, o, ho, _⟩ := mem_ready.1 hi
      have hlt : i < ol.length := by simpa using (Array.getElem?_eq_some_iff.1 ho).1
      have hz : (List.range ol.length).countP (fun i => !listed.getD i true) = 0 := by omega
      rw [List.countP_eq_zero] at hz
      exact hz i (by simp [hlt]) (by simp [h1])
    exact ⟨hr, done listed todo ee a w I hk hr⟩
  | succ fuel ih =>
    intro listed todo ee a w I hk hg hcnt
    refine ⟨fun hr => done listed todo ee a w I hk hr, fun i hi => ?_⟩
    obtain ⟨hun, o, ho, hwait⟩ := mem_ready.1 hi
    have ho' : ol[i]? = some o := by simpa using ho
    have hlt : i < ol.length := (List.getElem?_eq_some_iff.1 ho').1
    have hls : i < listed.size := by rw [I.lsize]; exact hlt
    have hcnt' : (List.range ol.length).countP (fun j => !(listed.setIfInBounds i true).getD j true) ≤ fuel := by
      have : (List.range ol.length).countP (fun j => !(listed.setIfInBounds i true).getD j true) < (List.range ol.length).countP (fun j => !listed.getD j true) := by
        refine countP_lt _ _ (fun y hy => ?_) _ i (by simp [hlt]) (by simp [hun]) (by simp [Array.getD_eq_getD_getElem?, hls])
        by_cases hiy : i = y
        · subst hiy; simp [Array.getD_eq_getD_getElem?, hls] at hy
        · rwa [getD_set_ne true hiy] at hy
      omega
    have hbase : ∀ t, safeB ol i t = true → a.tmps.getD t undef = a0.tmps.getD t undef := by
      intro t ht
      refine I.base t fun j oj hj hlj hd => ?_
      have h1 := List.all_eq_true.1 ht oj (List.mem_of_getElem? hj)
      simp only [Bool.or_eq_true, bne_iff_ne, ne_eq, Array.any_eq_true, Bool.and_eq_true, beq_iff_eq] at h1
      rcases h1 with h1 | ⟨q, hq, h1, h2⟩
      · exact h1 hd
      · have := getD_of_false (I.closed j oj hj hlj _ (Array.getElem_mem hq) h2)
        rw [h1, hun] at this
        cases this
    have hdep : ∀ j oj d, depB ol i j = true → ol[j]? = some oj → oj.dst = some d → PhT bigs φ ee j (a.tmps.getD d undef) := by
      intro j oj d hj hoj hd
      obtain ⟨e, he, h1, h2⟩ := depB_spec ho' hj
      exact I.phi j oj d hoj (getD_of_false (by rw [← h1]; exact hwait e he h2)) hd
    have hset : ∀ j, j ≠ i → (listed.setIfInBounds i true).getD j true = listed.getD j true := fun j hj => getD_set_ne true (Ne.symm hj)
    have hseti : (listed.setIfInBounds i true).getD i true = true := by simp [Array.getD_eq_getD_getElem?, hls]
    have hclosed : ∀ j oj, ol[j]? = some oj → (listed.setIfInBounds i true).getD j true = true → ∀ e ∈ oj.after, Region.binds .any e = true → (listed.setIfInBounds i true).getD e.on false = true := by
      intro j oj hoj hlj e he hb
      refine getD_set_true ?_
      by_cases hji : j = i
      · subst hji
        rw [ho'] at hoj; cases hoj
        exact hwait e he hb
      · rw [hset j hji] at hlj
        exact I.closed j oj hoj hlj e he hb
    have hne : ∀ j oj d, ol[j]? = some oj → j ≠ i → o.dst = some d → oj.dst ≠ some d := by
      intro j oj d hoj hji hd hd'
      have hj : j < ol.length := (List.getElem?_eq_some_iff.1 hoj).1
      have h1 := List.all_eq_true.1 (List.all_eq_true.1 hdst i (by simp [hlt])) j (by simp [hj])
      simp only [ho', hoj, Bool.or_eq_true, beq_iff_eq, bne_iff_ne, ne_eq] at h1
      rcases h1 with h1 | h1 | h1
      · exact hji h1.symm
      · exact h1 (by rw [hd, hd'])
      · rw [hd] at h1; cases h1
    -- what is left of the frame, behind a value in slot d
    have hframe : ∀ d v (e' : List (Nat × Value)), o.dst = some d → (∀ j u, j ≠ i → PhT bigs φ ee j u → PhT bigs φ e' j u) → PhT bigs φ e' i v → 
        (∀ t, (∀ j oj, ol[j]? = some oj → (listed.setIfInBounds i true).getD j true = true → oj.dst ≠ some t) → (putsL a [(d, v)]).tmps.getD t undef = a0.tmps.getD t undef) ∧
        (∀ j oj d', ol[j]? = some oj → (listed.setIfInBounds i true).getD j true = true → oj.dst = some d' → PhT bigs φ e' j ((putsL a [(d, v)]).tmps.getD d' undef)) := by
      intro d v e' hd hR hv
      have hdN : d < a.tmps.size := by
        have h1 := List.all_eq_true.1 hdn o (List.mem_of_getElem? ho')
        simp only [hd, Nat.blt_eq] at h1
        rw [I.size]; exact h1
      refine ⟨fun t ht => ?_, fun j oj d' hoj hlj hd' => ?_⟩
      · have hdt : d ≠ t := fun e => ht i o ho' hseti (by rw [hd, e])
        rw [get_put_ne hdt]
        refine I.base t fun j oj hoj hlj => ?_
        by_cases hji : j = i
        · subst hji; rw [hun] at hlj; cases hlj
        · exact ht j oj hoj (by rw [hset j hji]; exact hlj)
      · by_cases hji : j = i
        · subst hji
          rw [ho'] at hoj; cases hoj
          rw [hd] at hd'; cases hd'
          rw [get_put_eq hdN]
          exact hv
        · rw [hset j hji] at hlj
          have : d ≠ d' := fun e => hne j oj d hoj hji hd (by rw [hd', e])
          rw [get_put_ne this]
          exact hR j _ hji (I.phi j oj d' hoj hlj hd')
    by_cases hin : bigs.contains i = true
    · have hmem : i ∈ bigs := by simpa using hin
      have hit : i ∈ todo := (I.todos i).2 ⟨hmem, hun⟩
      have hrt : i ∈ readyT ol todo := by
        unfold readyT
        rw [List.mem_filter]
        refine ⟨hit, List.all_eq_true.2 fun j hj => ?_⟩
        cases hd : depB ol i j with
        | false => rfl
        | true =>
          obtain ⟨x, hx, h1, h2⟩ := depB_spec ho' hd
          have h3 := getD_of_false (hwait x hx h2)
          rw [h1, ((I.todos j).1 hj).2] at h3
          cases h3
      obtain ⟨n, hn⟩ : ∃ n, todo.length = n + 1 := ⟨todo.length - 1, by have := List.length_pos_of_mem hit; omega⟩
      have hn2 : (todo.erase i).length = n := by rw [List.length_erase_of_mem hit, hn]; rfl
      rw [hn] at hk
      have h0 := hk i hrt w (grown_refl _ _) hg a I.size hbase hdep o ho'
      refine wp_one (by simpa using ho') h0 fun a' w' h => ?_
      obtain ⟨v, h1, h2, h3⟩ := h
      have htodo : ∀ x, x ∈ todo.erase i ↔ x ∈ bigs ∧ (listed.setIfInBounds i true).getD x true = false := by
        intro x
        rw [I.nodup.mem_erase_iff, I.todos]
        by_cases hxi : x = i
        · subst hxi; simp [hseti]
        · rw [hset x hxi]; simp [hxi]
      refine ih _ (todo.erase i) ((i, v) :: ee) a' w' ?_ (by rw [hn2]; exact h2) h3 hcnt'
      have hpi : PhT bigs φ ((i, v) :: ee) i v := ⟨fun _ => by simp, fun hh => absurd (hin.symm.trans hh) (by decide)⟩
      rcases h1 with ⟨hd, rfl⟩ | ⟨d, hd, rfl⟩
      · refine ⟨I.size, I.defers, fun t ht => ?_, fun j oj d' hoj hlj hd' => ?_, hclosed, by simp [I.lsize], htodo, I.nodup.erase i⟩
        · refine I.base t fun j oj hoj hlj => ?_
          by_cases hji : j = i
          · subst hji; rw [hun] at hlj; cases hlj
          · exact ht j oj hoj (by rw [hset j hji]; exact hlj)
        · by_cases hji : j = i
          · subst hji
            rw [ho'] at hoj; cases hoj
            rw [hd] at hd'; cases hd'
          · rw [hset j hji] at hlj
            exact PhT.mono hji (I.phi j oj d' hoj hlj hd')
      · obtain ⟨f1, f2⟩ := hframe d v ((i, v) :: ee) hd (fun j u hj h => h.mono hj) hpi
        exact ⟨by rw [putsL_size, I.size], by rw [putsL_defers, I.defers], f1, f2, hclosed, by simp [I.lsize], htodo, I.nodup.erase i⟩
    · have hin' : bigs.contains i = false := by simpa using hin
      have hck : ∀ j, bigs.contains j = true → depB ol j i = true → j ∈ todo := by
        intro j hj hd
        rw [I.todos]
        refine ⟨by simpa using hj, ?_⟩
        cases hl : listed.getD j true with
        | false => rfl
        | true =>
          exfalso
          cases hok : ol[j]? with
          | none => simp [depB, hok] at hd
          | some ok =>
            obtain ⟨x, hx, h4, h5⟩ := depB_spec hok hd
            have h6 := getD_of_false (I.closed j ok hok hl x hx h5)
            rw [h4, hun] at h6; cases h6
      refine wp_one (by simpa using ho') (obL i o ho' hin' ee todo a w I.size hck hg hbase hdep) fun a' w' h => ?_
      obtain ⟨⟨d, v, hd, rfl, hv⟩, hgr⟩ := h
      obtain ⟨f1, f2⟩ := hframe d v ee hd (fun _ _ _ h => h) ⟨fun hh => absurd (hin'.symm.trans hh) (by decide), fun _ => hv⟩
      refine ih _ todo ee _ w' ⟨by rw [putsL_size, I.size], by rw [putsL_defers, I.defers], f1, f2, hclosed, by simp [I.lsize], fun x => ?_, I.nodup⟩ (hk.stable hgr) (hG _ _ _ hgr hg) hcnt'
      rw [I.todos]
      by_cases hxi : x = i
      · subst hxi; simp [hseti, hun]; simpa using hin'
      · rw [hset x hxi]
theorem any_treek (bigs : List Nat) (hlex : lexB' ol = true) (hdn : dstNB ol N = true) (hdst : dstsB ol = true) (hbl : (bigs.all fun i => Nat.blt i ol.length) = true) (hnd : decide bigs.Nodup = true)
    {l : List (Nat × Value)} {w : World} (hN : a0.tmps.size = N) (hG : ∀ t w1 w2, w1.grownBy w2 none → G t w1 → G t w2) (g0 : G bigs w) (obL : ObRk9 P ol bigs φ G (putsL a0 l) N 0 ol) (hdf : (putsL a0 l).defers = a0.defers)
    (main : KTk P ol bigs φ G (putsL a0 l) N Q bigs.length bigs [] w) : RegAny P ol Q (putsL a0 l) w := by
  have hd : w.grownBy { w with drawn := w.drawn + 1 } none := ⟨rfl, rfl, rfl, Nat.le_refl _, fun _ _ _ => rfl⟩
  have I : TInv ol bigs φ (putsL a0 l) N (Array.replicate ol.length false) bigs [] (putsL a0 l) := by
    refine ⟨slN hN, rfl, fun _ _ => rfl, fun j o d hj hl => ?_, fun j o hj hl => ?_, by simp, fun i => ⟨fun hi => ⟨hi, ?_⟩, fun hi => hi.1⟩, of_decide_eq_true hnd⟩
    · have : j < ol.length := (List.getElem?_eq_some_iff.1 hj).1
      simp [Array.getD_eq_getD_getElem?, this] at hl
    · have : j < ol.length := (List.getElem?_eq_some_iff.1 hj).1
      simp [Array.getD_eq_getD_getElem?, this] at hl
    · have := List.all_eq_true.1 hbl i hi
      have h3 : i < ol.length := by simpa [Nat.blt_eq] using this
      simp [Array.getD_eq_getD_getElem?, h3]
  exact region_treek_steps (P := P) (Q := Q) hlex hdn hdst hbl hG (fun i o hi hh => by
      have h5 := ObRk9.getx obL i o hi (by rw [Nat.zero_add]; exact hh)
      rw [Nat.zero_add] at h5; exact h5) ol.length (Array.replicate ol.length false) bigs [] (putsL a0 l) _ I (main.stable hd) (hG _ _ _ hd g0) (Nat.le_trans (List.countP_le_length) (by simp))
theorem ktk_step {n : Nat} {todo rs : List Nat} {e : List (Nat × Value)} {w : World} (hr : readyT ol todo = rs) (h : ∀ i ∈ rs, KIk P ol bigs φ G a0 N e todo i w fun v w' => KTk P ol bigs φ G a0 N Q n (todo.erase i) ((i, v) :: e) w') : KTk P ol bigs φ G a0 N Q (n + 1) todo e w := by
  subst hr; exact h
theorem ktk_end {todo : List Nat} {i : Nat} {o : Oper} {d : Nat} {v : Value} {a : Act} {w : World} {K : Value → World → Prop} (hd : o.dst = some d) (g : G (todo.erase i) w) (h : K v w) :
    wpList P ol.toArray (fun ex a' w' => ex = .normal ∧ ∃ v, ((o.dst = none ∧ a' = a) ∨ ∃ d, o.dst = some d ∧ a' = putsL a [(d, v)]) ∧ K v w' ∧ G (todo.erase i) w') [] (putsL a [(d, v)]) w := ⟨rfl, v, .inr ⟨d, hd, rfl⟩, h, g⟩
theorem ktk_end0 {todo : List Nat} {i : Nat} {o : Oper} {a : Act} {w : World} {K : Value → World → Prop} (hd : o.dst = none) (g : G (todo.erase i) w) (h : K undef w) :
    wpList P ol.toArray (fun ex a' w' => ex = .normal ∧ ∃ v, ((o.dst = none ∧ a' = a) ∨ ∃ d, o.dst = some d ∧ a' = putsL a [(d, v)]) ∧ K v w' ∧ G (todo.erase i) w') [] (putsL a []) w := ⟨rfl, undef, .inl ⟨hd, rfl⟩, h, g⟩
theorem obTk_end {o : Oper} {i d : Nat} {v : Value} {a : Act} {w : World} (hd : o.dst = some d) (hv : φ i v) :
    wpList P ol.toArray (fun ex a' w' => ex = .normal ∧ (∃ d v, o.dst = some d ∧ a' = putsL a [(d, v)] ∧ φ i v) ∧ w.grownBy w' none) [] (putsL a [(d, v)]) w := ⟨rfl, ⟨d, v, hd, rfl, hv⟩, grown_refl _ _⟩
end
end Go.Gx
