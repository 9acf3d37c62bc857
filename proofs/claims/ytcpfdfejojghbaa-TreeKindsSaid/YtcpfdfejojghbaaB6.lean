/- Walks, written by a program: what each function of the translation hands back. -/
import Derived.Test.YtcpfdfejojghbaaB5
namespace Go.Proofs.Ytcpfdfejojghbaa
open Go.Gx Go.RowKit
attribute [local irreducible] wpList wpStill Code.wp Calls
open Go.Bt
theorem leafUS {p : Nat} {pv kv cv : Value} {a b : Nat} {ca cb : List Value} {L : List Nat} {B : Nat} {w : World} (hx : Bx w p 93 [pv, kv, cv]) (h2 : RdC w 0 B 2 pv a ca) (h3 : RdC w 0 B 1 kv b cb) (h4 : RdC w 0 B 1 cv L.length (L.flatMap cN)) : Ret Try.prog 63 #[(ptr p 0)] w (fun v' w' => v' = .bool (decide (L.length = 0)) ∧ w' = w) := by
 refine enter (N := 9) Try.func63 rfl rfl (by simp) fun a0 hN hd hA => ?_
 have s0 : a0.tmps.getD 0 undef = (ptr p 0) := hA 0 (by simp)
 clear hA
 refine seq_any fun K5 hK5 => one_reg (op_assign rfl (reg_nil (hK5 _ _ ?_)))
 refine seq_any fun K6 hK6 => one_reg (op_move (ev_base hN rfl s0) (op_nil (ev_hit hN rfl) (op_field fld93_2 (ev_hit hN rfl) (op_load1 (v := cv) one91 (ev_hit hN rfl) (hx.cell rfl) (op_len_rd Try.underlying91 (ev_hit hN rfl) h4 ?_)))))
 refine op_eql (ev_hit hN rfl) rfl (fun c8 => ?_) (fun c8 => ?_)
 · -- 8T
  refine op_assign (ev_hit hN rfl) ?_
  refine reg_nil (hK6 _ _ (wp_ret ?_))
  refine ret1 rfl hd (ev_hit hN rfl) ⟨_, rfl, ?_⟩
  exact ⟨congrArg Value.bool (decide_eq_true (by omega)).symm, rfl⟩
 · -- 8F
  refine op_assign (ev_hit hN rfl) ?_
  refine reg_nil (hK6 _ _ (wp_ret ?_))
  refine ret1 rfl hd (ev_hit hN rfl) ⟨_, rfl, ?_⟩
  exact ⟨congrArg Value.bool (decide_eq_false (by omega)).symm, rfl⟩

theorem sizeUS {p : Nat} {pv kv cv : Value} {a b n : Nat} {ca cb : List Value} {L : List Nat} {B : Nat} {w : World} (hx : Bx w p 93 [pv, kv, cv]) (h2 : RdC w 0 B 2 pv a ca) (h3 : RdC w 0 B 1 kv b cb) (h4 : RdC w 0 B 1 cv L.length (L.flatMap cN)) (h5 : n = if L.length = 0 then a else b) : Ret Try.prog 42 #[(ptr p 0)] w (fun v' w' => v' = .int .i64 (n : Int) ∧ w' = w) := by
 refine enter (N := 15) Try.func42 rfl rfl (by simp) fun a0 hN hd hA => ?_
 have s0 : a0.tmps.getD 0 undef = (ptr p 0) := hA 0 (by simp)
 clear hA
 refine seq_any fun K6 hK6 => one_reg (op_assign rfl ?_)
 refine reg_nil (hK6 _ _ (seq_any fun K7 hK7 => seq_any fun K8 hK8 => one_reg (op_move (ev_base hN rfl s0) (op_fn (vs := [(ptr p 0)]) ok63 ⟨(ev_hit hN rfl), trivial⟩ (Ret.flip (leafUS hx h2 h3 h4)) ?_))))
 rintro _ _ ⟨rfl, rfl⟩
 rcases Bool.eq_false_or_eq_true ((decide (L.length = 0))) with c4 | c4
 · -- 4T
  rw [c4]
  refine reg_nil (hK8 _ _ (wp_cond_true (ev_hit hN rfl) ?_))
  refine seq_any fun K9 hK9 => one_reg (op_move (ev_base hN rfl s0) (op_nil (ev_hit hN rfl) (op_field fld93_0 (ev_hit hN rfl) (op_load1 (v := pv) one89 (ev_hit hN rfl) (hx.cell rfl) (op_len_rd Try.underlying89 (ev_hit hN rfl) h2 ?_)))))
  refine op_assign (ev_hit hN rfl) ?_
  refine reg_nil (hK9 _ _ (wp_ret (then_ret ( ?_))))
  refine ret1 rfl hd (ev_hit hN rfl) ⟨_, rfl, ?_⟩
  exact ⟨by rw [h5, if_pos (of_decide_eq_true c4)], rfl⟩
 · -- 4F
  rw [c4]
  refine reg_nil (hK8 _ _ (wp_cond_false (ev_hit hN rfl) ?_))
  refine wp_skip ?_
  refine hK7 _ _ ?_
  refine seq_any fun K10 hK10 => one_reg (op_move (ev_base hN rfl s0) (op_nil (ev_hit hN rfl) (op_field fld93_1 (ev_hit hN rfl) (op_load1 (v := kv) one90 (ev_hit hN rfl) (hx.cell rfl) (op_len_rd Try.underlying90 (ev_hit hN rfl) h3 ?_)))))
  refine op_assign (ev_hit hN rfl) ?_
  refine reg_nil (hK10 _ _ (wp_ret ?_))
  refine ret1 rfl hd (ev_hit hN rfl) ⟨_, rfl, ?_⟩
  exact ⟨by rw [h5, if_neg (of_decide_eq_false c4)], rfl⟩

theorem levels0S {p : Nat} {w : World} (hx : Bx w p 88 [.pointer none]) : Ret Try.prog 14 #[(ptr p 0)] w (fun v' w' => v' = .slice none 0 0 ∧ w' = w) := by
 refine enter (N := 50) Try.func14 rfl rfl (by simp) fun a0 hN hd hA => ?_
 have s0 : a0.tmps.getD 0 undef = (ptr p 0) := hA 0 (by simp)
 clear hA
 refine seq_any fun K2 hK2 => one_reg (op_assign rfl ?_)
 refine reg_nil (hK2 _ _ (seq_any fun K3 hK3 => seq_any fun K4 hK4 => one_reg (op_move (ev_base hN rfl s0) (op_peq_some ptrt23 (ev_hit hN rfl) rfl ?_))))
 refine op_move (ev_hit hN rfl) (g_true (j := 2) (dj := 11) (b := false) rfl rfl rfl (ev_hit hN rfl) ?_)
 refine op_move (ev_base hN rfl s0) (g_true (j := 2) (dj := 11) (b := false) rfl rfl rfl (ev_hit hN rfl) ?_)
 refine op_nil (ev_hit hN rfl) (g_true (j := 2) (dj := 11) (b := false) rfl rfl rfl (ev_hit hN rfl) ?_)
 refine op_field fld88_0 (ev_hit hN rfl) (g_true (j := 2) (dj := 11) (b := false) rfl rfl rfl (ev_hit hN rfl) ?_)
 refine op_load1 (v := (Value.pointer none)) one86 (ev_hit hN rfl) (hx.cell rfl) (g_true (j := 2) (dj := 11) (b := false) rfl rfl rfl (ev_hit hN rfl) ?_)
 refine op_peq_none ptrt86 (ev_hit hN rfl) rfl ?_
 refine op_pick_f (ev_hit hN rfl) (ev_hit hN rfl) ?_
 refine reg_nil (hK4 _ _ (wp_cond_true (ev_hit hN rfl) ?_))
 refine seq_any fun K5 hK5 => one_reg (op_assign rfl (reg_nil (hK5 _ _ (wp_ret (then_ret ( ?_))))))
 refine ret1 rfl hd (ev_hit hN rfl) ⟨_, rfl, ?_⟩
 exact ⟨rfl, rfl⟩

theorem levels1S {o : TO (List UInt8)} {p q : Nat} {w : World} (hx : Bx w p 88 [ptr q 0]) (hNow0 : Now kS w [q] (levels o)) (hlv : (levels o).length ≤ 100000) : Ret Try.prog 14 #[(ptr p 0)] w (fun v' w' => Below w.heap.size w w' ∧ ∃ LL : List (Value × List Int), Own w' w.heap.size 30 1 v' LL.length (LL.flatMap (fun x9 => [x9.1])) ∧ (∀ x9 ∈ LL, Own w' w.heap.size 3 1 x9.1 x9.2.length (x9.2.map (Value.int .i64))) ∧ LL.map Prod.snd = (levels o).map (fun l => l.map Int.ofNat)) := by
 have hb := Below.refl w.heap.size w
 refine enter (N := 50) Try.func14 rfl rfl (by simp) fun a0 hN hd hA => ?_
 have s0 : a0.tmps.getD 0 undef = (ptr p 0) := hA 0 (by simp)
 clear hA
 refine seq_any fun K7 hK7 => one_reg (op_assign rfl ?_)
 refine reg_nil (hK7 _ _ (seq_any fun K10 hK10 => seq_any fun K11 hK11 => one_reg (op_move (ev_base hN rfl s0) (op_peq_some ptrt23 (ev_hit hN rfl) rfl ?_))))
 refine op_move (ev_hit hN rfl) (g_true (j := 2) (dj := 11) (b := false) rfl rfl rfl (ev_hit hN rfl) ?_)
 refine op_move (ev_base hN rfl s0) (g_true (j := 2) (dj := 11) (b := false) rfl rfl rfl (ev_hit hN rfl) ?_)
 refine op_nil (ev_hit hN rfl) (g_true (j := 2) (dj := 11) (b := false) rfl rfl rfl (ev_hit hN rfl) ?_)
 refine op_field fld88_0 (ev_hit hN rfl) (g_true (j := 2) (dj := 11) (b := false) rfl rfl rfl (ev_hit hN rfl) ?_)
 refine op_load1 (v := (ptr q 0)) one86 (ev_hit hN rfl) (hx.cell rfl) (g_true (j := 2) (dj := 11) (b := false) rfl rfl rfl (ev_hit hN rfl) ?_)
 refine op_peq_some ptrt86 (ev_hit hN rfl) rfl ?_
 refine op_pick_f (ev_hit hN rfl) (ev_hit hN rfl) ?_
 refine reg_nil (hK11 _ _ (wp_cond_false (ev_hit hN rfl) ?_))
 refine wp_skip ?_
 refine hK10 _ _ (seq_any fun K12 hK12 => one_reg (op_assign rfl (reg_nil (hK12 _ _ (seq_any fun K13 hK13 => ?_)))))
 refine seq_any fun K14 hK14 => one_reg (op_move (ev_base hN rfl s0) (op_nil (ev_hit hN rfl) (op_field fld88_0 (ev_hit hN rfl) (op_load1 (v := (ptr q 0)) one86 (ev_hit hN rfl) (hx.cell rfl) (op_bslice (e := 86) (pv := [(0, (ptr q 0))]) (cs := [(ptr q 0)]) ⟨rfl, (ev_hit hN rfl), trivial⟩ (by kernel_rfl) ?_)))))
 intro w15 b16 lo_b16 hi_b16 hB18 E17
 have z_w15 := E17.size
 have hx := hx.keep0 E17
 have hb := below_step0 hb E17 hb.size
 refine op_assign (ev_hit hN rfl) ?_
 refine reg_nil (hK14 _ _ (wp_block ?_))
 refine loop_m (fun mz_ az_ w' => ∃ (u nv : Value) (acc : List (Value × List Int)) (P : List Nat) (rest : List (List Nat)), mz_ = rest.length ∧ (az_.tmps.getD 2 undef = (Value.slice none 0 0)) ∧ (az_.tmps.getD 3 undef = u) ∧ (az_.tmps.getD 4 undef = nv) ∧ (Now kS w P rest) ∧ (acc.map Prod.snd ++ rest.map (fun l => l.map Int.ofNat) = (levels o).map (fun l => l.map Int.ofNat)) ∧ (Below w.heap.size w w') ∧ (w15.heap.size ≤ w'.heap.size) ∧ (Bx w' p 88 [(ptr q 0)]) ∧ (∀ x9 ∈ acc, Own w' w.heap.size 3 1 x9.1 x9.2.length (x9.2.map (Value.int .i64))) ∧ (Own w' w.heap.size 30 1 u acc.length (acc.flatMap (fun x9 => [x9.1]))) ∧ (Own w' w.heap.size 86 1 nv P.length (P.flatMap cN))) _ hN hd ⟨_, _, [], [q], (levels o), rfl, (sl_hit hN rfl), (sl_hit hN rfl), (sl_hit hN rfl), hNow0, rfl, hb, (Nat.le_refl _), hx, (fun x9 hx9 => absurd hx9 List.not_mem_nil), (Own.nil _ _ _ _), (Own.ofBx (base := w.heap.size) (sz := 1) (n := 1) hB18 rfl (by decide) (by omega))⟩ ?_
 rintro _ a19 w19 hN19 hd19 ⟨u, nv, acc, P, rest, rfl, s19_2, s19_3, s19_4, hNow, hlev, hb, zl_w19, hx, hall, hO20, hO21⟩
 have z_w19 := hb.size
 refine seq_any fun K22 hK22 => seq_any fun K24 hK24 => one_reg (op_move (ev_base hN19 rfl s19_4) (op_len_rd Try.underlying91 (ev_hit hN19 rfl) hO21.rdw ?_))
 refine op_gtr (ev_hit hN19 rfl) rfl (fun c25 => ?_) (fun c25 => ?_)
 · -- 25T
  refine reg_nil (hK24 _ _ (wp_cond_true (ev_hit hN19 rfl) ?_))
  refine wp_skip ?_
  refine hK22 _ _ (wp_block ?_)
  refine seq_any fun K31 hK31 => one_reg (op_assign rfl (reg_nil (hK31 _ _ (seq_any fun K32 hK32 => one_reg ?_))))
  refine op_assign rfl (reg_nil (hK32 _ _ (seq_any fun K33 hK33 => seq_any fun K34 hK34 => one_reg (op_move (ev_base hN19 rfl s19_4) ?_))))
  have hPn := hNow.len
  obtain ⟨S, PP, rest2, hr2, hS, hPP, hV, hNx⟩ := hNow.step (fun e => by rw [e] at c25; exact absurd c25 (by decide))
  have hFn := hNx.len
  have hfl : ∀ j, ((PP.take j).flatten).length ≤ PP.flatten.length := fun j => flat_le
  refine op_len_rd Try.underlying91 (ev_hit hN19 rfl) hO21.rdw ?_
  refine op_move rfl (reg_nil (hK34 _ _ (wp_block ?_)))
  refine loop_m (fun mz_ az_ w' => ∃ (i : Nat) (szv xv : Value), mz_ = P.length - i ∧ (az_.tmps.getD 2 undef = (Value.slice none 0 0)) ∧ (az_.tmps.getD 3 undef = u) ∧ (az_.tmps.getD 4 undef = nv) ∧ (az_.tmps.getD 26 undef = nv) ∧ (az_.tmps.getD 27 undef = (Value.int .i64 ((P.length : Nat) : Int))) ∧ (az_.tmps.getD 28 undef = (Value.int .i64 ((i : Nat) : Int))) ∧ (az_.tmps.getD 5 undef = szv) ∧ (az_.tmps.getD 6 undef = xv) ∧ (i ≤ P.length) ∧ (∀ x9 ∈ acc, DJ x9.1 szv) ∧ (DJ nv xv) ∧ (Below w.heap.size w w') ∧ (w19.heap.size ≤ w'.heap.size) ∧ (Bx w' p 88 [(ptr q 0)]) ∧ (∀ x9 ∈ acc, Own w' w.heap.size 3 1 x9.1 x9.2.length (x9.2.map (Value.int .i64))) ∧ (Own w' w.heap.size 30 1 u acc.length (acc.flatMap (fun x9 => [x9.1]))) ∧ (Own w' w.heap.size 86 1 nv P.length (P.flatMap cN)) ∧ (Own w' w.heap.size 3 1 szv i (((S.take i).map Int.ofNat).map (Value.int .i64))) ∧ (Own w' w.heap.size 86 1 xv ((PP.take i).flatten).length (((PP.take i).flatten).flatMap cN))) _ hN19 hd19 ⟨0, _, _, rfl, (sl_base hN19 rfl s19_2), (sl_base hN19 rfl s19_3), (sl_base hN19 rfl s19_4), (sl_hit hN19 rfl), (sl_hit hN19 rfl), (sl_hit hN19 rfl), (sl_hit hN19 rfl), (sl_hit hN19 rfl), (Nat.zero_le _), (fun x9 _ => dj_nil x9.1), (dj_nil _), hb, (Nat.le_refl _), hx, hall, hO20, hO21, (Own.nil _ _ _ _), (Own.nil _ _ _ _)⟩ ?_
  rintro _ a35 w35 hN35 hd35 ⟨i, szv, xv, rfl, s35_2, s35_3, s35_4, s35_26, s35_27, s35_28, s35_5, s35_6, hi, djs, djx, hb, zl_w35, hx, hall, hO20, hO21, hO36, hO37⟩
  have z_w35 := hb.size
  refine seq_any fun K38 hK38 => ?_
  refine one_reg (op_lss (ev_base hN35 rfl s35_28) (ev_base hN35 rfl s35_27) (fun c29 => ?_) (fun c29 => ?_))
  · -- 29T
   refine reg_nil (hK38 _ _ (seq_any fun K39 hK39 => wp_cond_true (ev_hit hN35 rfl) ?_))
   refine wp_skip ?_
   refine hK39 _ _ (seq_any fun K40 hK40 => wp_block ?_)
   refine seq_any fun K41 hK41 => one_reg (op_index_rd slt91 (ev_base hN35 rfl s35_26) hO21.rdw (ev_base hN35 rfl s35_28) (by omega) (by omega) ?_)
   intro b43 o44 h0b43 h1b43 hc45
   refine op_load1 (v := (ptr (P.getD i default) 0)) one86 (ev_hit hN35 rfl) (by have := hc45 0 (ptr (P.getD i default) 0) (by decide) (el_pn (i := i) (by omega) (by first | omega | (simp only [List.length_drop, List.length_take]; omega))); simpa using this) (op_assign (ev_hit hN35 rfl) ?_)
   refine reg_nil (hK41 _ _ (seq_any fun K46 hK46 => one_reg (op_move (ev_base hN35 rfl s35_5) ?_)))
   obtain ⟨hpB47, pv47, kv47, cv47, a_47, b_47, ca47, cb47, hx47, h2_47, h3_47, h4_47, h5_47⟩ := (hV i (by omega)).below hb
   have hx47 : Bx w35 (P.getD i default) 93 [pv47, kv47, cv47] := hx47
   refine op_move (ev_hit hN35 rfl) (op_fn (vs := [(ptr (P.getD i default) 0)]) ok42 ⟨(ev_hit hN35 rfl), trivial⟩ (Ret.flip (sizeUS hx47 h2_47 h3_47 h4_47 h5_47)) ?_)
   rintro _ _ ⟨rfl, rfl⟩
   refine op_bslice (e := 3) (pv := [(0, (Value.int .i64 (((S.getD i 0) : Nat) : Int)))]) (cs := [(Value.int .i64 (((S.getD i 0) : Nat) : Int))]) ⟨rfl, (ev_hit hN35 rfl), trivial⟩ (by kernel_rfl) ?_
   intro w48 b49 lo_b49 hi_b49 hB51 E50
   have z_w48 := E50.size
   have hx := hx.keep0 E50
   have hall := all9 hall fun _ h => h.keep0 E50
   have hO20 := hO20.keep0 E50
   have hO21 := hO21.keep0 E50
   have hO36 := hO36.keep0 E50
   have hO37 := hO37.keep0 E50
   have hx47 := hx47.keep0 E50
   have h4_47 := h4_47.keep0 E50
   have hb := below_step0 hb E50 hb.size
   have hfl1 := hfl i
   have hfl2 := hfl (i + 1)
   have hfl3 : ((PP.take (i + 1)).flatten).length = ((PP.take i).flatten).length + (PP.getD i []).length := by rw [flat_take9 (by omega), List.length_append]
   have hP57 := hO36
   refine op_append slt30 (ev_hit hN35 rfl) hP57 (ev_hit hN35 rfl) (Src.ofRd Try.underlying30 (by decide) (RdC.ofBx (sz := 1) (n := 1) hB51 rfl (by decide)) (by simp [Value.oneCell', u8v])) (by unfold maxLen; omega) (by omega) hb.size ?_
   intro v52 w53 hO55 E54 hm56
   have dja58 : ∀ x9 ∈ acc, DJ x9.1 v52 := fun x9 hx9 => DJ.step hm56 (fun k hk => ((hall x9 hx9).lt k hk).2) (djs x9 hx9)
   have z_w53 := E54.size
   have hx := hx.keepO hP57 E54 (by decide)
   have hall : ∀ x9 ∈ acc, Own w53 w.heap.size 3 1 x9.1 x9.2.length (x9.2.map (Value.int .i64)) := fun x9 hx9 => (hall x9 hx9).keepD E54 (djs x9 hx9)
   have hO20 := hO20.keepT hP57 E54 (by decide)
   have hO21 := hO21.keepT hP57 E54 (by decide)
   have hO37 := hO37.keepT hP57 E54 (by decide)
   have hx47 := hx47.keepO hP57 E54 (by decide)
   have h4_47 := h4_47.keepO hP57 E54 (by omega)
   have hb := below_stepO hb hP57 E54 hb.size (by omega)
   have hO55 : Own w53 w.heap.size 3 1 v52 (i + 1) (((((S.take i).map Int.ofNat) ++ [(((S.getD i 0) : Nat) : Int)])).map (Value.int .i64)) := by simpa [u8v, sv] using hO55
   refine op_assign (ev_hit hN35 rfl) ?_
   refine reg_nil ?_
   refine hK46 _ _ (one_reg (op_move (ev_base hN35 rfl s35_6) (op_move (ev_hit hN35 rfl) (op_nil (ev_hit hN35 rfl) (op_field fld93_2 (ev_hit hN35 rfl) (op_load1 (v := cv47) one91 (ev_hit hN35 rfl) (hx47.cell rfl) ?_))))))
   have hP65 := hO37
   refine op_append slt91 (ev_hit hN35 rfl) hP65 (ev_hit hN35 rfl) (Src.ofRd Try.underlying91 (by decide) h4_47 (one_pn _)) (by unfold maxLen; omega) (by omega) hb.size ?_
   intro v59 w60 hO62 E61 hm63
   have dj66 : DJ nv v59 := DJ.step hm63 (fun k hk => (hO21.lt k hk).2) djx
   have z_w60 := E61.size
   have hx := hx.keepO hP65 E61 (by decide)
   have hall := all9 hall fun _ h => h.keepT hP65 E61 (by decide)
   have hO20 := hO20.keepT hP65 E61 (by decide)
   have hO21 := hO21.keepD E61 djx
   have hO55 := hO55.keepT hP65 E61 (by decide)
   have hb := below_stepO hb hP65 E61 hb.size (by omega)
   have hO62 : Own w60 w.heap.size 86 1 v59 (((PP.take i).flatten).length + (PP.getD i []).length) (((((PP.take i).flatten) ++ (PP.getD i []))).flatMap cN) := by simpa [u8v, sv] using hO62
   refine op_assign (ev_hit hN35 rfl) ?_
   refine reg_nil (hK40 _ _ (one_reg (op_add (ev_base hN35 rfl s35_28) rfl (add64 (by omega)) ?_)))
   refine op_move (ev_hit hN35 rfl) (reg_nil ?_)
   -- round 25T 29T
   exact loop_next _ hN35 hd35 ⟨(i + 1), _, _, rfl, (sl_base hN35 rfl s35_2), (sl_base hN35 rfl s35_3), (sl_base hN35 rfl s35_4), (sl_base hN35 rfl s35_26), (sl_base hN35 rfl s35_27), (sl_hit hN35 rfl).trans (congrArg (Value.int .i64) (by omega)), (sl_hit hN35 rfl), (sl_hit hN35 rfl), (by omega), dja58, dj66, hb, (by omega), hx, hall, hO20, hO21, (hO55.cast (by omega) (by rw [ints_take (by omega)] <;> simp)), (hO62.cast (by rw [flat_take9 (by omega)] <;> simp) (by rw [flat_take9 (by omega)] <;> simp))⟩ (by omega)
  · -- 29F
   refine reg_nil (hK38 _ _ (seq_any fun K67 hK67 => wp_cond_false (ev_hit hN35 rfl) ?_))
   refine wp_exit (then_exit (then_exit (blk_hit ?_)))
   refine hK33 _ _ (one_reg ?_)
   have hal : acc.length + rest.length = (levels o).length := by have := congrArg List.length hlev; simpa using this
   refine op_move (ev_base hN35 rfl s35_3) (op_move (ev_base hN35 rfl s35_5) (op_bslice (e := 30) (pv := [(0, szv)]) (cs := [szv]) ⟨rfl, (ev_hit hN35 rfl), trivial⟩ (by obtain ⟨_, _, _, rfl⟩ := hO36.sl; kernel_rfl) ?_))
   intro w68 b69 lo_b69 hi_b69 hB71 E70
   have z_w68 := E70.size
   have hx := hx.keep0 E70
   have hall := all9 hall fun _ h => h.keep0 E70
   have hO20 := hO20.keep0 E70
   have hO36 := hO36.keep0 E70
   have hO37 := hO37.keep0 E70
   have hb := below_step0 hb E70 hb.size
   have hP77 := hO20
   refine op_append slt28 (ev_hit hN35 rfl) hP77 (ev_hit hN35 rfl) (Src.ofRd Try.underlying28 (by decide) (RdC.ofBx (sz := 1) (n := 1) hB71 rfl (by decide)) (by simp only [List.all_cons, List.all_nil, Bool.true_and, Bool.and_true, hO36.one]; try rfl)) (by unfold maxLen; omega) (by omega) hb.size ?_
   intro v72 w73 hO75 E74 hm76
   have z_w73 := E74.size
   have hx := hx.keepO hP77 E74 (by decide)
   have hall := all9 hall fun _ h => h.keepT hP77 E74 (by decide)
   have hO36 := hO36.keepT hP77 E74 (by decide)
   have hO37 := hO37.keepT hP77 E74 (by decide)
   have hb := below_stepO hb hP77 E74 hb.size (by omega)
   have hO75 : Own w73 w.heap.size 30 1 v72 (acc.length + 1) ((acc.flatMap (fun x9 => [x9.1]) ++ [szv])) := by simpa [u8v, sv] using hO75
   refine op_move (ev_base hN35 rfl s35_6) (op_assign (ev_hit hN35 rfl) ?_)
   refine op_assign (ev_hit hN35 rfl) ?_
   refine reg_nil (blk_normal ?_)
   -- round 25T 29F
   exact loop_next _ hN35 hd35 ⟨_, _, (acc ++ [(szv, S.map Int.ofNat)]), PP.flatten, rest2, rfl, (sl_base hN35 rfl s35_2), (sl_hit hN35 rfl), (sl_hit hN35 rfl), hNx, (by rw [← hlev, hr2]; simp), hb, (by omega), hx, (oall_snoc9 hall (hO36.cast (by simp; omega) (by rw [List.take_of_length_le (by omega)]))), (hO75.cast (by simp) (by simp)), (hO37.cast (by rw [List.take_of_length_le (by omega)]) (by rw [List.take_of_length_le (by omega)]))⟩ (by rw [hr2]; simp)
 · -- 25F
  refine reg_nil (hK24 _ _ (wp_cond_false (ev_hit hN19 rfl) ?_))
  refine wp_exit (then_exit (then_exit (blk_hit ?_)))
  refine hK13 _ _ (seq_any fun K78 hK78 => one_reg (op_move (ev_base hN19 rfl s19_3) (op_assign (ev_hit hN19 rfl) ?_)))
  refine reg_nil (hK78 _ _ (wp_ret ?_))
  refine ret1 rfl hd19 (ev_hit hN19 rfl) ⟨_, rfl, ?_⟩
  have hP0 : P = [] := List.eq_nil_of_length_eq_zero (by omega)
  have hr0 := hNow.done hP0
  exact ⟨hb, acc, hO20, hall, by rw [← hlev, hr0]; simp⟩

theorem leafUA {p : Nat} {pv kv cv : Value} {a b : Nat} {ca cb : List Value} {L : List Nat} {B : Nat} {w : World} (hx : Bx w p 105 [pv, kv, cv]) (h2 : RdC w 0 B 3 pv a ca) (h3 : RdC w 0 B 1 kv b cb) (h4 : RdC w 0 B 1 cv L.length (L.flatMap cN)) : Ret Try.prog 70 #[(ptr p 0)] w (fun v' w' => v' = .bool (decide (L.length = 0)) ∧ w' = w) := by
 refine enter (N := 9) Try.func70 rfl rfl (by simp) fun a0 hN hd hA => ?_
 have s0 : a0.tmps.getD 0 undef = (ptr p 0) := hA 0 (by simp)
 clear hA
 refine seq_any fun K5 hK5 => one_reg (op_assign rfl (reg_nil (hK5 _ _ ?_)))
 refine seq_any fun K6 hK6 => one_reg (op_move (ev_base hN rfl s0) (op_nil (ev_hit hN rfl) (op_field fld105_2 (ev_hit hN rfl) (op_load1 (v := cv) one103 (ev_hit hN rfl) (hx.cell rfl) (op_len_rd Try.underlying103 (ev_hit hN rfl) h4 ?_)))))
 refine op_eql (ev_hit hN rfl) rfl (fun c8 => ?_) (fun c8 => ?_)
 · -- 8T
  refine op_assign (ev_hit hN rfl) ?_
  refine reg_nil (hK6 _ _ (wp_ret ?_))
  refine ret1 rfl hd (ev_hit hN rfl) ⟨_, rfl, ?_⟩
  exact ⟨congrArg Value.bool (decide_eq_true (by omega)).symm, rfl⟩
 · -- 8F
  refine op_assign (ev_hit hN rfl) ?_
  refine reg_nil (hK6 _ _ (wp_ret ?_))
  refine ret1 rfl hd (ev_hit hN rfl) ⟨_, rfl, ?_⟩
  exact ⟨congrArg Value.bool (decide_eq_false (by omega)).symm, rfl⟩

theorem sizeUA {p : Nat} {pv kv cv : Value} {a b n : Nat} {ca cb : List Value} {L : List Nat} {B : Nat} {w : World} (hx : Bx w p 105 [pv, kv, cv]) (h2 : RdC w 0 B 3 pv a ca) (h3 : RdC w 0 B 1 kv b cb) (h4 : RdC w 0 B 1 cv L.length (L.flatMap cN)) (h5 : n = if L.length = 0 then a else b) : Ret Try.prog 80 #[(ptr p 0)] w (fun v' w' => v' = .int .i64 (n : Int) ∧ w' = w) := by
 refine enter (N := 15) Try.func80 rfl rfl (by simp) fun a0 hN hd hA => ?_
 have s0 : a0.tmps.getD 0 undef = (ptr p 0) := hA 0 (by simp)
 clear hA
 refine seq_any fun K6 hK6 => one_reg (op_assign rfl ?_)
 refine reg_nil (hK6 _ _ (seq_any fun K7 hK7 => seq_any fun K8 hK8 => one_reg (op_move (ev_base hN rfl s0) (op_fn (vs := [(ptr p 0)]) ok70 ⟨(ev_hit hN rfl), trivial⟩ (Ret.flip (leafUA hx h2 h3 h4)) ?_))))
 rintro _ _ ⟨rfl, rfl⟩
 rcases Bool.eq_false_or_eq_true ((decide (L.length = 0))) with c4 | c4
 · -- 4T
  rw [c4]
  refine reg_nil (hK8 _ _ (wp_cond_true (ev_hit hN rfl) ?_))
  refine seq_any fun K9 hK9 => one_reg (op_move (ev_base hN rfl s0) (op_nil (ev_hit hN rfl) (op_field fld105_0 (ev_hit hN rfl) (op_load1 (v := pv) one102 (ev_hit hN rfl) (hx.cell rfl) (op_len_rd Try.underlying102 (ev_hit hN rfl) h2 ?_)))))
  refine op_assign (ev_hit hN rfl) ?_
  refine reg_nil (hK9 _ _ (wp_ret (then_ret ( ?_))))
  refine ret1 rfl hd (ev_hit hN rfl) ⟨_, rfl, ?_⟩
  exact ⟨by rw [h5, if_pos (of_decide_eq_true c4)], rfl⟩
 · -- 4F
  rw [c4]
  refine reg_nil (hK8 _ _ (wp_cond_false (ev_hit hN rfl) ?_))
  refine wp_skip ?_
  refine hK7 _ _ ?_
  refine seq_any fun K10 hK10 => one_reg (op_move (ev_base hN rfl s0) (op_nil (ev_hit hN rfl) (op_field fld105_1 (ev_hit hN rfl) (op_load1 (v := kv) one90 (ev_hit hN rfl) (hx.cell rfl) (op_len_rd Try.underlying90 (ev_hit hN rfl) h3 ?_)))))
  refine op_assign (ev_hit hN rfl) ?_
  refine reg_nil (hK10 _ _ (wp_ret ?_))
  refine ret1 rfl hd (ev_hit hN rfl) ⟨_, rfl, ?_⟩
  exact ⟨by rw [h5, if_neg (of_decide_eq_false c4)], rfl⟩

theorem levels0A {p : Nat} {w : World} (hx : Bx w p 101 [.pointer none]) : Ret Try.prog 47 #[(ptr p 0)] w (fun v' w' => v' = .slice none 0 0 ∧ w' = w) := by
 refine enter (N := 50) Try.func47 rfl rfl (by simp) fun a0 hN hd hA => ?_
 have s0 : a0.tmps.getD 0 undef = (ptr p 0) := hA 0 (by simp)
 clear hA
 refine seq_any fun K2 hK2 => one_reg (op_assign rfl ?_)
 refine reg_nil (hK2 _ _ (seq_any fun K3 hK3 => seq_any fun K4 hK4 => one_reg (op_move (ev_base hN rfl s0) (op_peq_some ptrt34 (ev_hit hN rfl) rfl ?_))))
 refine op_move (ev_hit hN rfl) (g_true (j := 2) (dj := 11) (b := false) rfl rfl rfl (ev_hit hN rfl) ?_)
 refine op_move (ev_base hN rfl s0) (g_true (j := 2) (dj := 11) (b := false) rfl rfl rfl (ev_hit hN rfl) ?_)
 refine op_nil (ev_hit hN rfl) (g_true (j := 2) (dj := 11) (b := false) rfl rfl rfl (ev_hit hN rfl) ?_)
 refine op_field fld101_0 (ev_hit hN rfl) (g_true (j := 2) (dj := 11) (b := false) rfl rfl rfl (ev_hit hN rfl) ?_)
 refine op_load1 (v := (Value.pointer none)) one99 (ev_hit hN rfl) (hx.cell rfl) (g_true (j := 2) (dj := 11) (b := false) rfl rfl rfl (ev_hit hN rfl) ?_)
 refine op_peq_none ptrt99 (ev_hit hN rfl) rfl ?_
 refine op_pick_f (ev_hit hN rfl) (ev_hit hN rfl) ?_
 refine reg_nil (hK4 _ _ (wp_cond_true (ev_hit hN rfl) ?_))
 refine seq_any fun K5 hK5 => one_reg (op_assign rfl (reg_nil (hK5 _ _ (wp_ret (then_ret ( ?_))))))
 refine ret1 rfl hd (ev_hit hN rfl) ⟨_, rfl, ?_⟩
 exact ⟨rfl, rfl⟩

theorem levels1A {o : TO (Int × Int)} {p q : Nat} {w : World} (hx : Bx w p 101 [ptr q 0]) (hNow0 : Now kA w [q] (levels o)) (hlv : (levels o).length ≤ 100000) : Ret Try.prog 47 #[(ptr p 0)] w (fun v' w' => Below w.heap.size w w' ∧ ∃ LL : List (Value × List Int), Own w' w.heap.size 30 1 v' LL.length (LL.flatMap (fun x9 => [x9.1])) ∧ (∀ x9 ∈ LL, Own w' w.heap.size 3 1 x9.1 x9.2.length (x9.2.map (Value.int .i64))) ∧ LL.map Prod.snd = (levels o).map (fun l => l.map Int.ofNat)) := by
 have hb := Below.refl w.heap.size w
 refine enter (N := 50) Try.func47 rfl rfl (by simp) fun a0 hN hd hA => ?_
 have s0 : a0.tmps.getD 0 undef = (ptr p 0) := hA 0 (by simp)
 clear hA
 refine seq_any fun K7 hK7 => one_reg (op_assign rfl ?_)
 refine reg_nil (hK7 _ _ (seq_any fun K10 hK10 => seq_any fun K11 hK11 => one_reg (op_move (ev_base hN rfl s0) (op_peq_some ptrt34 (ev_hit hN rfl) rfl ?_))))
 refine op_move (ev_hit hN rfl) (g_true (j := 2) (dj := 11) (b := false) rfl rfl rfl (ev_hit hN rfl) ?_)
 refine op_move (ev_base hN rfl s0) (g_true (j := 2) (dj := 11) (b := false) rfl rfl rfl (ev_hit hN rfl) ?_)
 refine op_nil (ev_hit hN rfl) (g_true (j := 2) (dj := 11) (b := false) rfl rfl rfl (ev_hit hN rfl) ?_)
 refine op_field fld101_0 (ev_hit hN rfl) (g_true (j := 2) (dj := 11) (b := false) rfl rfl rfl (ev_hit hN rfl) ?_)
 refine op_load1 (v := (ptr q 0)) one99 (ev_hit hN rfl) (hx.cell rfl) (g_true (j := 2) (dj := 11) (b := false) rfl rfl rfl (ev_hit hN rfl) ?_)
 refine op_peq_some ptrt99 (ev_hit hN rfl) rfl ?_
 refine op_pick_f (ev_hit hN rfl) (ev_hit hN rfl) ?_
 refine reg_nil (hK11 _ _ (wp_cond_false (ev_hit hN rfl) ?_))
 refine wp_skip ?_
 refine hK10 _ _ (seq_any fun K12 hK12 => one_reg (op_assign rfl (reg_nil (hK12 _ _ (seq_any fun K13 hK13 => ?_)))))
 refine seq_any fun K14 hK14 => one_reg (op_move (ev_base hN rfl s0) (op_nil (ev_hit hN rfl) (op_field fld101_0 (ev_hit hN rfl) (op_load1 (v := (ptr q 0)) one99 (ev_hit hN rfl) (hx.cell rfl) (op_bslice (e := 99) (pv := [(0, (ptr q 0))]) (cs := [(ptr q 0)]) ⟨rfl, (ev_hit hN rfl), trivial⟩ (by kernel_rfl) ?_)))))
 intro w15 b16 lo_b16 hi_b16 hB18 E17
 have z_w15 := E17.size
 have hx := hx.keep0 E17
 have hb := below_step0 hb E17 hb.size
 refine op_assign (ev_hit hN rfl) ?_
 refine reg_nil (hK14 _ _ (wp_block ?_))
 refine loop_m (fun mz_ az_ w' => ∃ (u nv : Value) (acc : List (Value × List Int)) (P : List Nat) (rest : List (List Nat)), mz_ = rest.length ∧ (az_.tmps.getD 2 undef = (Value.slice none 0 0)) ∧ (az_.tmps.getD 3 undef = u) ∧ (az_.tmps.getD 4 undef = nv) ∧ (Now kA w P rest) ∧ (acc.map Prod.snd ++ rest.map (fun l => l.map Int.ofNat) = (levels o).map (fun l => l.map Int.ofNat)) ∧ (Below w.heap.size w w') ∧ (w15.heap.size ≤ w'.heap.size) ∧ (Bx w' p 101 [(ptr q 0)]) ∧ (∀ x9 ∈ acc, Own w' w.heap.size 3 1 x9.1 x9.2.length (x9.2.map (Value.int .i64))) ∧ (Own w' w.heap.size 30 1 u acc.length (acc.flatMap (fun x9 => [x9.1]))) ∧ (Own w' w.heap.size 99 1 nv P.length (P.flatMap cN))) _ hN hd ⟨_, _, [], [q], (levels o), rfl, (sl_hit hN rfl), (sl_hit hN rfl), (sl_hit hN rfl), hNow0, rfl, hb, (Nat.le_refl _), hx, (fun x9 hx9 => absurd hx9 List.not_mem_nil), (Own.nil _ _ _ _), (Own.ofBx (base := w.heap.size) (sz := 1) (n := 1) hB18 rfl (by decide) (by omega))⟩ ?_
 rintro _ a19 w19 hN19 hd19 ⟨u, nv, acc, P, rest, rfl, s19_2, s19_3, s19_4, hNow, hlev, hb, zl_w19, hx, hall, hO20, hO21⟩
 have z_w19 := hb.size
 refine seq_any fun K22 hK22 => seq_any fun K23 hK23 => one_reg (op_move (ev_base hN19 rfl s19_4) (op_len_rd Try.underlying103 (ev_hit hN19 rfl) hO21.rdw ?_))
 refine op_gtr (ev_hit hN19 rfl) rfl (fun c25 => ?_) (fun c25 => ?_)
 · -- 25T
  refine reg_nil (hK23 _ _ (wp_cond_true (ev_hit hN19 rfl) ?_))
  refine wp_skip ?_
  refine hK22 _ _ (wp_block ?_)
  refine seq_any fun K24 hK24 => one_reg (op_assign rfl (reg_nil (hK24 _ _ (seq_any fun K31 hK31 => one_reg ?_))))
  refine op_assign rfl (reg_nil (hK31 _ _ (seq_any fun K32 hK32 => seq_any fun K33 hK33 => one_reg (op_move (ev_base hN19 rfl s19_4) ?_))))
  have hPn := hNow.len
  obtain ⟨S, PP, rest2, hr2, hS, hPP, hV, hNx⟩ := hNow.step (fun e => by rw [e] at c25; exact absurd c25 (by decide))
  have hFn := hNx.len
  have hfl : ∀ j, ((PP.take j).flatten).length ≤ PP.flatten.length := fun j => flat_le
  refine op_len_rd Try.underlying103 (ev_hit hN19 rfl) hO21.rdw ?_
  refine op_move rfl (reg_nil (hK33 _ _ (wp_block ?_)))
  refine loop_m (fun mz_ az_ w' => ∃ (i : Nat) (szv xv : Value), mz_ = P.length - i ∧ (az_.tmps.getD 2 undef = (Value.slice none 0 0)) ∧ (az_.tmps.getD 3 undef = u) ∧ (az_.tmps.getD 4 undef = nv) ∧ (az_.tmps.getD 26 undef = nv) ∧ (az_.tmps.getD 27 undef = (Value.int .i64 ((P.length : Nat) : Int))) ∧ (az_.tmps.getD 28 undef = (Value.int .i64 ((i : Nat) : Int))) ∧ (az_.tmps.getD 5 undef = szv) ∧ (az_.tmps.getD 6 undef = xv) ∧ (i ≤ P.length) ∧ (∀ x9 ∈ acc, DJ x9.1 szv) ∧ (DJ nv xv) ∧ (Below w.heap.size w w') ∧ (w19.heap.size ≤ w'.heap.size) ∧ (Bx w' p 101 [(ptr q 0)]) ∧ (∀ x9 ∈ acc, Own w' w.heap.size 3 1 x9.1 x9.2.length (x9.2.map (Value.int .i64))) ∧ (Own w' w.heap.size 30 1 u acc.length (acc.flatMap (fun x9 => [x9.1]))) ∧ (Own w' w.heap.size 99 1 nv P.length (P.flatMap cN)) ∧ (Own w' w.heap.size 3 1 szv i (((S.take i).map Int.ofNat).map (Value.int .i64))) ∧ (Own w' w.heap.size 99 1 xv ((PP.take i).flatten).length (((PP.take i).flatten).flatMap cN))) _ hN19 hd19 ⟨0, _, _, rfl, (sl_base hN19 rfl s19_2), (sl_base hN19 rfl s19_3), (sl_base hN19 rfl s19_4), (sl_hit hN19 rfl), (sl_hit hN19 rfl), (sl_hit hN19 rfl), (sl_hit hN19 rfl), (sl_hit hN19 rfl), (Nat.zero_le _), (fun x9 _ => dj_nil x9.1), (dj_nil _), hb, (Nat.le_refl _), hx, hall, hO20, hO21, (Own.nil _ _ _ _), (Own.nil _ _ _ _)⟩ ?_
  rintro _ a35 w35 hN35 hd35 ⟨i, szv, xv, rfl, s35_2, s35_3, s35_4, s35_26, s35_27, s35_28, s35_5, s35_6, hi, djs, djx, hb, zl_w35, hx, hall, hO20, hO21, hO36, hO37⟩
  have z_w35 := hb.size
  refine seq_any fun K38 hK38 => ?_
  refine one_reg (op_lss (ev_base hN35 rfl s35_28) (ev_base hN35 rfl s35_27) (fun c29 => ?_) (fun c29 => ?_))
  · -- 29T
   refine reg_nil (hK38 _ _ (seq_any fun K39 hK39 => wp_cond_true (ev_hit hN35 rfl) ?_))
   refine wp_skip ?_
   refine hK39 _ _ (seq_any fun K40 hK40 => wp_block ?_)
   refine seq_any fun K41 hK41 => one_reg (op_index_rd slt103 (ev_base hN35 rfl s35_26) hO21.rdw (ev_base hN35 rfl s35_28) (by omega) (by omega) ?_)
   intro b42 o43 h0b42 h1b42 hc44
   refine op_load1 (v := (ptr (P.getD i default) 0)) one99 (ev_hit hN35 rfl) (by have := hc44 0 (ptr (P.getD i default) 0) (by decide) (el_pn (i := i) (by omega) (by first | omega | (simp only [List.length_drop, List.length_take]; omega))); simpa using this) (op_assign (ev_hit hN35 rfl) ?_)
   refine reg_nil (hK41 _ _ (seq_any fun K45 hK45 => one_reg (op_move (ev_base hN35 rfl s35_5) ?_)))
   obtain ⟨hpB46, pv46, kv46, cv46, a_46, b_46, ca46, cb46, hx46, h2_46, h3_46, h4_46, h5_46⟩ := (hV i (by omega)).below hb
   have hx46 : Bx w35 (P.getD i default) 105 [pv46, kv46, cv46] := hx46
   refine op_move (ev_hit hN35 rfl) (op_fn (vs := [(ptr (P.getD i default) 0)]) ok80 ⟨(ev_hit hN35 rfl), trivial⟩ (Ret.flip (sizeUA hx46 h2_46 h3_46 h4_46 h5_46)) ?_)
   rintro _ _ ⟨rfl, rfl⟩
   refine op_bslice (e := 3) (pv := [(0, (Value.int .i64 (((S.getD i 0) : Nat) : Int)))]) (cs := [(Value.int .i64 (((S.getD i 0) : Nat) : Int))]) ⟨rfl, (ev_hit hN35 rfl), trivial⟩ (by kernel_rfl) ?_
   intro w47 b48 lo_b48 hi_b48 hB50 E49
   have z_w47 := E49.size
   have hx := hx.keep0 E49
   have hall := all9 hall fun _ h => h.keep0 E49
   have hO20 := hO20.keep0 E49
   have hO21 := hO21.keep0 E49
   have hO36 := hO36.keep0 E49
   have hO37 := hO37.keep0 E49
   have hx46 := hx46.keep0 E49
   have h4_46 := h4_46.keep0 E49
   have hb := below_step0 hb E49 hb.size
   have hfl1 := hfl i
   have hfl2 := hfl (i + 1)
   have hfl3 : ((PP.take (i + 1)).flatten).length = ((PP.take i).flatten).length + (PP.getD i []).length := by rw [flat_take9 (by omega), List.length_append]
   have hP56 := hO36
   refine op_append slt30 (ev_hit hN35 rfl) hP56 (ev_hit hN35 rfl) (Src.ofRd Try.underlying30 (by decide) (RdC.ofBx (sz := 1) (n := 1) hB50 rfl (by decide)) (by simp [Value.oneCell', u8v])) (by unfold maxLen; omega) (by omega) hb.size ?_
   intro v51 w52 hO54 E53 hm55
   have dja57 : ∀ x9 ∈ acc, DJ x9.1 v51 := fun x9 hx9 => DJ.step hm55 (fun k hk => ((hall x9 hx9).lt k hk).2) (djs x9 hx9)
   have z_w52 := E53.size
   have hx := hx.keepO hP56 E53 (by decide)
   have hall : ∀ x9 ∈ acc, Own w52 w.heap.size 3 1 x9.1 x9.2.length (x9.2.map (Value.int .i64)) := fun x9 hx9 => (hall x9 hx9).keepD E53 (djs x9 hx9)
   have hO20 := hO20.keepT hP56 E53 (by decide)
   have hO21 := hO21.keepT hP56 E53 (by decide)
   have hO37 := hO37.keepT hP56 E53 (by decide)
   have hx46 := hx46.keepO hP56 E53 (by decide)
   have h4_46 := h4_46.keepO hP56 E53 (by omega)
   have hb := below_stepO hb hP56 E53 hb.size (by omega)
   have hO54 : Own w52 w.heap.size 3 1 v51 (i + 1) (((((S.take i).map Int.ofNat) ++ [(((S.getD i 0) : Nat) : Int)])).map (Value.int .i64)) := by simpa [u8v, sv] using hO54
   refine op_assign (ev_hit hN35 rfl) ?_
   refine reg_nil ?_
   refine hK45 _ _ (one_reg (op_move (ev_base hN35 rfl s35_6) (op_move (ev_hit hN35 rfl) (op_nil (ev_hit hN35 rfl) (op_field fld105_2 (ev_hit hN35 rfl) (op_load1 (v := cv46) one103 (ev_hit hN35 rfl) (hx46.cell rfl) ?_))))))
   have hP63 := hO37
   refine op_append slt103 (ev_hit hN35 rfl) hP63 (ev_hit hN35 rfl) (Src.ofRd Try.underlying103 (by decide) h4_46 (one_pn _)) (by unfold maxLen; omega) (by omega) hb.size ?_
   intro v58 w59 hO61 E60 hm62
   have dj65 : DJ nv v58 := DJ.step hm62 (fun k hk => (hO21.lt k hk).2) djx
   have z_w59 := E60.size
   have hx := hx.keepO hP63 E60 (by decide)
   have hall := all9 hall fun _ h => h.keepT hP63 E60 (by decide)
   have hO20 := hO20.keepT hP63 E60 (by decide)
   have hO21 := hO21.keepD E60 djx
   have hO54 := hO54.keepT hP63 E60 (by decide)
   have hb := below_stepO hb hP63 E60 hb.size (by omega)
   have hO61 : Own w59 w.heap.size 99 1 v58 (((PP.take i).flatten).length + (PP.getD i []).length) (((((PP.take i).flatten) ++ (PP.getD i []))).flatMap cN) := by simpa [u8v, sv] using hO61
   refine op_assign (ev_hit hN35 rfl) ?_
   refine reg_nil (hK40 _ _ (one_reg (op_add (ev_base hN35 rfl s35_28) rfl (add64 (by omega)) ?_)))
   refine op_move (ev_hit hN35 rfl) (reg_nil ?_)
   -- round 25T 29T
   exact loop_next _ hN35 hd35 ⟨(i + 1), _, _, rfl, (sl_base hN35 rfl s35_2), (sl_base hN35 rfl s35_3), (sl_base hN35 rfl s35_4), (sl_base hN35 rfl s35_26), (sl_base hN35 rfl s35_27), (sl_hit hN35 rfl).trans (congrArg (Value.int .i64) (by omega)), (sl_hit hN35 rfl), (sl_hit hN35 rfl), (by omega), dja57, dj65, hb, (by omega), hx, hall, hO20, hO21, (hO54.cast (by omega) (by rw [ints_take (by omega)] <;> simp)), (hO61.cast (by rw [flat_take9 (by omega)] <;> simp) (by rw [flat_take9 (by omega)] <;> simp))⟩ (by omega)
  · -- 29F
   refine reg_nil (hK38 _ _ (seq_any fun K66 hK66 => wp_cond_false (ev_hit hN35 rfl) ?_))
   refine wp_exit (then_exit (then_exit (blk_hit ?_)))
   refine hK32 _ _ (one_reg ?_)
   have hal : acc.length + rest.length = (levels o).length := by have := congrArg List.length hlev; simpa using this
   refine op_move (ev_base hN35 rfl s35_3) (op_move (ev_base hN35 rfl s35_5) (op_bslice (e := 30) (pv := [(0, szv)]) (cs := [szv]) ⟨rfl, (ev_hit hN35 rfl), trivial⟩ (by obtain ⟨_, _, _, rfl⟩ := hO36.sl; kernel_rfl) ?_))
   intro w67 b68 lo_b68 hi_b68 hB70 E69
   have z_w67 := E69.size
   have hx := hx.keep0 E69
   have hall := all9 hall fun _ h => h.keep0 E69
   have hO20 := hO20.keep0 E69
   have hO36 := hO36.keep0 E69
   have hO37 := hO37.keep0 E69
   have hb := below_step0 hb E69 hb.size
   have hP76 := hO20
   refine op_append slt28 (ev_hit hN35 rfl) hP76 (ev_hit hN35 rfl) (Src.ofRd Try.underlying28 (by decide) (RdC.ofBx (sz := 1) (n := 1) hB70 rfl (by decide)) (by simp only [List.all_cons, List.all_nil, Bool.true_and, Bool.and_true, hO36.one]; try rfl)) (by unfold maxLen; omega) (by omega) hb.size ?_
   intro v71 w72 hO74 E73 hm75
   have z_w72 := E73.size
   have hx := hx.keepO hP76 E73 (by decide)
   have hall := all9 hall fun _ h => h.keepT hP76 E73 (by decide)
   have hO36 := hO36.keepT hP76 E73 (by decide)
   have hO37 := hO37.keepT hP76 E73 (by decide)
   have hb := below_stepO hb hP76 E73 hb.size (by omega)
   have hO74 : Own w72 w.heap.size 30 1 v71 (acc.length + 1) ((acc.flatMap (fun x9 => [x9.1]) ++ [szv])) := by simpa [u8v, sv] using hO74
   refine op_move (ev_base hN35 rfl s35_6) (op_assign (ev_hit hN35 rfl) ?_)
   refine op_assign (ev_hit hN35 rfl) ?_
   refine reg_nil (blk_normal ?_)
   -- round 25T 29F
   exact loop_next _ hN35 hd35 ⟨_, _, (acc ++ [(szv, S.map Int.ofNat)]), PP.flatten, rest2, rfl, (sl_base hN35 rfl s35_2), (sl_hit hN35 rfl), (sl_hit hN35 rfl), hNx, (by rw [← hlev, hr2]; simp), hb, (by omega), hx, (oall_snoc9 hall (hO36.cast (by simp; omega) (by rw [List.take_of_length_le (by omega)]))), (hO74.cast (by simp) (by simp)), (hO37.cast (by rw [List.take_of_length_le (by omega)]) (by rw [List.take_of_length_le (by omega)]))⟩ (by rw [hr2]; simp)
 · -- 25F
  refine reg_nil (hK23 _ _ (wp_cond_false (ev_hit hN19 rfl) ?_))
  refine wp_exit (then_exit (then_exit (blk_hit ?_)))
  refine hK13 _ _ (seq_any fun K77 hK77 => one_reg (op_move (ev_base hN19 rfl s19_3) (op_assign (ev_hit hN19 rfl) ?_)))
  refine reg_nil (hK77 _ _ (wp_ret ?_))
  refine ret1 rfl hd19 (ev_hit hN19 rfl) ⟨_, rfl, ?_⟩
  have hP0 : P = [] := List.eq_nil_of_length_eq_zero (by omega)
  have hr0 := hNow.done hP0
  exact ⟨hb, acc, hO20, hall, by rw [← hlev, hr0]; simp⟩

end Go.Proofs.Ytcpfdfejojghbaa

/- Walks, written by a program: what each function of the translation hands back. -/
namespace Go.Proofs.Ytcpfdfejojghbaa
open Go.Gx Go.RowKit
attribute [local irreducible] wpList wpStill Code.wp Calls
open Go.Bt
theorem levelsTopI {o : TO (Int)} {F : Nat → Prop} {p base : Nat} {w : World} (hT : TopR kI 71 base w p o F) (hn : (toLO o).length ≤ 100000) : Ret Try.prog 33 #[ptr p 0] w (fun v' w' => Below w.heap.size w w' ∧ ∃ LL : List (Value × List Int), Own w' w.heap.size 30 1 v' LL.length (LL.flatMap (fun x9 => [x9.1])) ∧ (∀ x9 ∈ LL, Own w' w.heap.size 3 1 x9.1 x9.2.length (x9.2.map (Value.int .i64))) ∧ LL.map Prod.snd = (levels o).map (fun l => l.map Int.ofNat)) := by
  obtain ⟨hF, hlt, hO, root, hB', hr⟩ := hT
  rcases hr with ⟨rfl, rfl⟩ | ⟨q, R, W, rfl, hTO, hFW, hFR⟩
  · exact (levels0I hB').mono fun v' w' h => by
      obtain ⟨rfl, rfl⟩ := h
      exact ⟨Below.refl _ _, [], Own.nil _ _ _ _, fun _ h => (by cases h), rfl⟩
  · match o, hO, hTO, hn with
    | some ⟨h, t⟩, hO, hTO, hn => exact levels1I hB' (now_start hTO hO.1 hO.2.1 hn) (Nat.le_trans (levels_le hO) hn)
theorem levelsTopS {o : TO (List UInt8)} {F : Nat → Prop} {p base : Nat} {w : World} (hT : TopR kS 88 base w p o F) (hn : (toLO o).length ≤ 100000) : Ret Try.prog 14 #[ptr p 0] w (fun v' w' => Below w.heap.size w w' ∧ ∃ LL : List (Value × List Int), Own w' w.heap.size 30 1 v' LL.length (LL.flatMap (fun x9 => [x9.1])) ∧ (∀ x9 ∈ LL, Own w' w.heap.size 3 1 x9.1 x9.2.length (x9.2.map (Value.int .i64))) ∧ LL.map Prod.snd = (levels o).map (fun l => l.map Int.ofNat)) := by
  obtain ⟨hF, hlt, hO, root, hB', hr⟩ := hT
  rcases hr with ⟨rfl, rfl⟩ | ⟨q, R, W, rfl, hTO, hFW, hFR⟩
  · exact (levels0S hB').mono fun v' w' h => by
      obtain ⟨rfl, rfl⟩ := h
      exact ⟨Below.refl _ _, [], Own.nil _ _ _ _, fun _ h => (by cases h), rfl⟩
  · match o, hO, hTO, hn with
    | some ⟨h, t⟩, hO, hTO, hn => exact levels1S hB' (now_start hTO hO.1 hO.2.1 hn) (Nat.le_trans (levels_le hO) hn)
theorem levelsTopA {o : TO (Int × Int)} {F : Nat → Prop} {p base : Nat} {w : World} (hT : TopR kA 101 base w p o F) (hn : (toLO o).length ≤ 100000) : Ret Try.prog 47 #[ptr p 0] w (fun v' w' => Below w.heap.size w w' ∧ ∃ LL : List (Value × List Int), Own w' w.heap.size 30 1 v' LL.length (LL.flatMap (fun x9 => [x9.1])) ∧ (∀ x9 ∈ LL, Own w' w.heap.size 3 1 x9.1 x9.2.length (x9.2.map (Value.int .i64))) ∧ LL.map Prod.snd = (levels o).map (fun l => l.map Int.ofNat)) := by
  obtain ⟨hF, hlt, hO, root, hB', hr⟩ := hT
  rcases hr with ⟨rfl, rfl⟩ | ⟨q, R, W, rfl, hTO, hFW, hFR⟩
  · exact (levels0A hB').mono fun v' w' h => by
      obtain ⟨rfl, rfl⟩ := h
      exact ⟨Below.refl _ _, [], Own.nil _ _ _ _, fun _ h => (by cases h), rfl⟩
  · match o, hO, hTO, hn with
    | some ⟨h, t⟩, hO, hTO, hn => exact levels1A hB' (now_start hTO hO.1 hO.2.1 hn) (Nat.le_trans (levels_le hO) hn)
theorem lenTopI {o : TO (Int)} {F : Nat → Prop} {p base : Nat} {w : World} (hT : TopR kI 71 base w p o F) (hn : (toLO o).length ≤ 100000) : Ret Try.prog 25 #[(ptr p 0)] w (fun v' w' => Below w.heap.size w w' ∧ v' = .int .i64 ((toLO o).length : Int)) := by
 have hO9 := hT.2.2.1
 have hb := Below.refl w.heap.size w
 refine enter (N := 28) Try.func25 rfl rfl (by simp) fun a0 hN hd hA => ?_
 have s0 : a0.tmps.getD 0 undef = (ptr p 0) := hA 0 (by simp)
 clear hA
 refine seq_any fun K5 hK5 => one_reg ?_
 refine op_assign rfl (reg_nil (hK5 _ _ (seq_any fun K6 hK6 => one_reg (op_move (ev_base hN rfl s0) (op_fn (vs := [(ptr p 0)]) ok33 ⟨(ev_hit hN rfl), trivial⟩ (levelsTopI hT hn) ?_)))))
 rintro v7 w8 ⟨E10, LL, hO7, hA7, hlev⟩
 have E10 := grown_of_below E10
 have z_w8 := E10.size
 have hT := hT.keepG (Gr.of0 E10 NoB) (fun _ _ h => h)
 have hb := below_step0 hb E10 hb.size
 have hLn := lev_len hlev
 have hle := levels_le hO9
 have hsum := levels_sum (o := o)
 refine op_assign (ev_hit hN rfl) ?_
 refine reg_nil (hK6 _ _ (seq_any fun K12 hK12 => one_reg (op_assign rfl ?_)))
 refine reg_nil (hK12 _ _ (seq_any fun K13 hK13 => seq_any fun K14 hK14 => one_reg (op_move (ev_hit hN rfl) (op_len_rd Try.underlying28 (ev_hit hN rfl) hO7.rdw ?_))))
 refine op_gtr (ev_hit hN rfl) rfl (fun c11 => ?_) (fun c11 => ?_)
 · -- 11T
  refine reg_nil (hK14 _ _ (wp_cond_true (ev_hit hN rfl) ?_))
  refine seq_any fun K15 hK15 => one_reg (op_move (ev_hit hN rfl) (op_move (ev_hit hN rfl) (op_len_rd Try.underlying28 (ev_hit hN rfl) hO7.rdw ?_)))
  refine op_sub (r := ((LL.length - 1 : Nat) : Int)) (ev_hit hN rfl) rfl ((sub64 (by omega)).trans (by omega)) ?_
  refine op_index_rd slt28 (ev_hit hN rfl) hO7.rdw (ev_hit hN rfl) (by omega) (by omega) ?_
  intro b16 o21 h0b16 h1b16 hc22
  have hs23 : Own w8 w.heap.size 3 1 (LL.getD (LL.length - 1) default).1 (LL.getD (LL.length - 1) default).2.length ((LL.getD (LL.length - 1) default).2.map (Value.int .i64)) := hA7 _ (getD_mem (by omega))
  refine op_load1 (v := (LL.getD (LL.length - 1) default).1) one30 (ev_hit hN rfl) (by have := hc22 0 (LL.getD (LL.length - 1) default).1 (by decide) (el_ll (i := (LL.length - 1)) (d := default) (by omega) (by omega)); simpa using this) ?_
  have hlm := rd_len hs23.rdw
  have hLat := lev_at hlev (LL.length - 1)
  have hLl : (LL.getD (LL.length - 1) default).2.length = ((levels o).getD (LL.length - 1) []).length := by rw [hLat]; simp
  rw [← hLn] at hsum
  refine op_len_rd Try.underlying30 (ev_hit hN rfl) hs23.rdw ?_
  refine op_move rfl (reg_nil (hK15 _ _ (wp_block ?_)))
  refine loop_m (fun mz_ az_ w' => ∃ (i : Nat), mz_ = ((levels o).getD (LL.length - 1) []).length - i ∧ (az_.tmps.getD 2 undef = (Value.int .i64 0)) ∧ (az_.tmps.getD 17 undef = (LL.getD (LL.length - 1) default).1) ∧ (az_.tmps.getD 18 undef = (Value.int .i64 (((LL.getD (LL.length - 1) default).2.length : Nat) : Int))) ∧ (az_.tmps.getD 19 undef = (Value.int .i64 ((i : Nat) : Int))) ∧ (az_.tmps.getD 4 undef = (Value.int .i64 ((((((levels o).getD (LL.length - 1) []).take i).sum) : Nat) : Int))) ∧ (i ≤ ((levels o).getD (LL.length - 1) []).length) ∧ (Below w.heap.size w w') ∧ (w8.heap.size ≤ w'.heap.size) ∧ (TopR kI 71 base w' p o F) ∧ (∀ x9 ∈ LL, Own w' w.heap.size 3 1 x9.1 x9.2.length (x9.2.map (Value.int .i64))) ∧ (Own w' w.heap.size 3 1 (LL.getD (LL.length - 1) default).1 (LL.getD (LL.length - 1) default).2.length ((LL.getD (LL.length - 1) default).2.map (Value.int .i64)))) _ hN hd ⟨0, rfl, (sl_hit hN rfl), (sl_hit hN rfl), (sl_hit hN rfl), (sl_hit hN rfl), (sl_hit hN rfl), (Nat.zero_le _), hb, (Nat.le_refl _), hT, hA7, hs23⟩ ?_
  rintro _ a24 w24 hN24 hd24 ⟨i, rfl, s24_2, s24_17, s24_18, s24_19, s24_4, hi, hb, zl_w24, hT, hA7, hs23⟩
  have z_w24 := hb.size
  refine seq_any fun K25 hK25 => ?_
  refine one_reg (op_lss (ev_base hN24 rfl s24_19) (ev_base hN24 rfl s24_18) (fun c20 => ?_) (fun c20 => ?_))
  · -- 20T
   refine reg_nil (hK25 _ _ (seq_any fun K26 hK26 => wp_cond_true (ev_hit hN24 rfl) ?_))
   refine wp_skip ?_
   refine hK26 _ _ (seq_any fun K27 hK27 => wp_block ?_)
   refine seq_any fun K29 hK29 => one_reg (op_index_rd slt30 (ev_base hN24 rfl s24_17) hs23.rdw (ev_base hN24 rfl s24_19) (by omega) (by omega) ?_)
   intro b31 o32 h0b31 h1b31 hc34
   refine op_load1 (v := (Value.int .i64 ((LL.getD (LL.length - 1) default).2.getD i 0))) one3 (ev_hit hN24 rfl) (by have := hc34 0 (Value.int .i64 ((LL.getD (LL.length - 1) default).2.getD i 0)) (by decide) (el_i64 (i := i) (by omega) (by omega)); simpa using this) (op_assign (ev_hit hN24 rfl) ?_)
   refine reg_nil (hK29 _ _ (one_reg (op_move (ev_base hN24 rfl s24_4) (op_move (ev_hit hN24 rfl) (op_add (r := (((((levels o).getD (LL.length - 1) []).take i).sum + ((levels o).getD (LL.length - 1) []).getD i 0 : Nat) : Int)) (ev_hit hN24 rfl) (ev_hit hN24 rfl) (by rw [hLat, ints_at]; have q1 := sum_take9 (L := ((levels o).getD (LL.length - 1) [])) (i := i) (by omega); have q2 := sum_le9 (L := ((levels o).getD (LL.length - 1) [])) (i := i + 1); exact (add64 (by omega)).trans (by omega)) ?_)))))
   refine op_assign (ev_hit hN24 rfl) ?_
   refine reg_nil (hK27 _ _ (one_reg (op_add (ev_base hN24 rfl s24_19) rfl (add64 (by omega)) ?_)))
   refine op_move (ev_hit hN24 rfl) (reg_nil ?_)
   -- round 11T 20T
   exact loop_next _ hN24 hd24 ⟨(i + 1), rfl, (sl_base hN24 rfl s24_2), (sl_base hN24 rfl s24_17), (sl_base hN24 rfl s24_18), (sl_hit hN24 rfl).trans (congrArg (Value.int .i64) (by omega)), (sl_hit hN24 rfl).trans (congrArg (Value.int .i64) (by rw [sum_take9 (by omega)])), (by omega), hb, (by omega), hT, hA7, hs23⟩ (by omega)
  · -- 20F
   refine reg_nil (hK25 _ _ (seq_any fun K35 hK35 => wp_cond_false (ev_hit hN24 rfl) ?_))
   refine wp_exit (then_exit (then_exit (blk_hit ?_)))
   refine hK13 _ _ (seq_any fun K36 hK36 => one_reg (op_move (ev_base hN24 rfl s24_4) (op_assign (ev_hit hN24 rfl) ?_)))
   refine reg_nil (hK36 _ _ (wp_ret ?_))
   refine ret1 rfl hd24 (ev_hit hN24 rfl) ⟨_, rfl, ?_⟩
   exact ⟨hb, congrArg (Value.int .i64) (by rw [← hsum, List.take_of_length_le (by omega)])⟩
 · -- 11F
  refine reg_nil (hK14 _ _ (wp_cond_false (ev_hit hN rfl) ?_))
  refine wp_skip ?_
  refine hK13 _ _ (seq_any fun K37 hK37 => one_reg (op_move (ev_hit hN rfl) (op_assign (ev_hit hN rfl) ?_)))
  refine reg_nil (hK37 _ _ (wp_ret ?_))
  refine ret1 rfl hd (ev_hit hN rfl) ⟨_, rfl, ?_⟩
  exact ⟨hb, congrArg (Value.int .i64) (by rw [← hsum]; rw [show (levels o) = [] from List.eq_nil_of_length_eq_zero (by omega)]; rfl)⟩

theorem lenTopS {o : TO (List UInt8)} {F : Nat → Prop} {p base : Nat} {w : World} (hT : TopR kS 88 base w p o F) (hn : (toLO o).length ≤ 100000) : Ret Try.prog 15 #[(ptr p 0)] w (fun v' w' => Below w.heap.size w w' ∧ v' = .int .i64 ((toLO o).length : Int)) := by
 have hO9 := hT.2.2.1
 have hb := Below.refl w.heap.size w
 refine enter (N := 28) Try.func15 rfl rfl (by simp) fun a0 hN hd hA => ?_
 have s0 : a0.tmps.getD 0 undef = (ptr p 0) := hA 0 (by simp)
 clear hA
 refine seq_any fun K5 hK5 => one_reg ?_
 refine op_assign rfl (reg_nil (hK5 _ _ (seq_any fun K6 hK6 => one_reg (op_move (ev_base hN rfl s0) (op_fn (vs := [(ptr p 0)]) ok14 ⟨(ev_hit hN rfl), trivial⟩ (levelsTopS hT hn) ?_)))))
 rintro v7 w10 ⟨E12, LL, hO7, hA7, hlev⟩
 have E12 := grown_of_below E12
 have z_w10 := E12.size
 have hT := hT.keepG (Gr.of0 E12 NoB) (fun _ _ h => h)
 have hb := below_step0 hb E12 hb.size
 have hLn := lev_len hlev
 have hle := levels_le hO9
 have hsum := levels_sum (o := o)
 refine op_assign (ev_hit hN rfl) ?_
 refine reg_nil (hK6 _ _ (seq_any fun K13 hK13 => one_reg (op_assign rfl ?_)))
 refine reg_nil (hK13 _ _ (seq_any fun K15 hK15 => seq_any fun K16 hK16 => one_reg (op_move (ev_hit hN rfl) (op_len_rd Try.underlying28 (ev_hit hN rfl) hO7.rdw ?_))))
 refine op_gtr (ev_hit hN rfl) rfl (fun c11 => ?_) (fun c11 => ?_)
 · -- 11T
  refine reg_nil (hK16 _ _ (wp_cond_true (ev_hit hN rfl) ?_))
  refine seq_any fun K21 hK21 => one_reg (op_move (ev_hit hN rfl) (op_move (ev_hit hN rfl) (op_len_rd Try.underlying28 (ev_hit hN rfl) hO7.rdw ?_)))
  refine op_sub (r := ((LL.length - 1 : Nat) : Int)) (ev_hit hN rfl) rfl ((sub64 (by omega)).trans (by omega)) ?_
  refine op_index_rd slt28 (ev_hit hN rfl) hO7.rdw (ev_hit hN rfl) (by omega) (by omega) ?_
  intro b22 o23 h0b22 h1b22 hc24
  have hs25 : Own w10 w.heap.size 3 1 (LL.getD (LL.length - 1) default).1 (LL.getD (LL.length - 1) default).2.length ((LL.getD (LL.length - 1) default).2.map (Value.int .i64)) := hA7 _ (getD_mem (by omega))
  refine op_load1 (v := (LL.getD (LL.length - 1) default).1) one30 (ev_hit hN rfl) (by have := hc24 0 (LL.getD (LL.length - 1) default).1 (by decide) (el_ll (i := (LL.length - 1)) (d := default) (by omega) (by omega)); simpa using this) ?_
  have hlm := rd_len hs25.rdw
  have hLat := lev_at hlev (LL.length - 1)
  have hLl : (LL.getD (LL.length - 1) default).2.length = ((levels o).getD (LL.length - 1) []).length := by rw [hLat]; simp
  rw [← hLn] at hsum
  refine op_len_rd Try.underlying30 (ev_hit hN rfl) hs25.rdw ?_
  refine op_move rfl (reg_nil (hK21 _ _ (wp_block ?_)))
  refine loop_m (fun mz_ az_ w' => ∃ (i : Nat), mz_ = ((levels o).getD (LL.length - 1) []).length - i ∧ (az_.tmps.getD 2 undef = (Value.int .i64 0)) ∧ (az_.tmps.getD 17 undef = (LL.getD (LL.length - 1) default).1) ∧ (az_.tmps.getD 18 undef = (Value.int .i64 (((LL.getD (LL.length - 1) default).2.length : Nat) : Int))) ∧ (az_.tmps.getD 19 undef = (Value.int .i64 ((i : Nat) : Int))) ∧ (az_.tmps.getD 4 undef = (Value.int .i64 ((((((levels o).getD (LL.length - 1) []).take i).sum) : Nat) : Int))) ∧ (i ≤ ((levels o).getD (LL.length - 1) []).length) ∧ (Below w.heap.size w w') ∧ (w10.heap.size ≤ w'.heap.size) ∧ (TopR kS 88 base w' p o F) ∧ (∀ x9 ∈ LL, Own w' w.heap.size 3 1 x9.1 x9.2.length (x9.2.map (Value.int .i64))) ∧ (Own w' w.heap.size 3 1 (LL.getD (LL.length - 1) default).1 (LL.getD (LL.length - 1) default).2.length ((LL.getD (LL.length - 1) default).2.map (Value.int .i64)))) _ hN hd ⟨0, rfl, (sl_hit hN rfl), (sl_hit hN rfl), (sl_hit hN rfl), (sl_hit hN rfl), (sl_hit hN rfl), (Nat.zero_le _), hb, (Nat.le_refl _), hT, hA7, hs25⟩ ?_
  rintro _ a26 w26 hN26 hd26 ⟨i, rfl, s26_2, s26_17, s26_18, s26_19, s26_4, hi, hb, zl_w26, hT, hA7, hs25⟩
  have z_w26 := hb.size
  refine seq_any fun K27 hK27 => ?_
  refine one_reg (op_lss (ev_base hN26 rfl s26_19) (ev_base hN26 rfl s26_18) (fun c20 => ?_) (fun c20 => ?_))
  · -- 20T
   refine reg_nil (hK27 _ _ (seq_any fun K29 hK29 => wp_cond_true (ev_hit hN26 rfl) ?_))
   refine wp_skip ?_
   refine hK29 _ _ (seq_any fun K31 hK31 => wp_block ?_)
   refine seq_any fun K32 hK32 => one_reg (op_index_rd slt30 (ev_base hN26 rfl s26_17) hs25.rdw (ev_base hN26 rfl s26_19) (by omega) (by omega) ?_)
   intro b33 o34 h0b33 h1b33 hc35
   refine op_load1 (v := (Value.int .i64 ((LL.getD (LL.length - 1) default).2.getD i 0))) one3 (ev_hit hN26 rfl) (by have := hc35 0 (Value.int .i64 ((LL.getD (LL.length - 1) default).2.getD i 0)) (by decide) (el_i64 (i := i) (by omega) (by omega)); simpa using this) (op_assign (ev_hit hN26 rfl) ?_)
   refine reg_nil (hK32 _ _ (one_reg (op_move (ev_base hN26 rfl s26_4) (op_move (ev_hit hN26 rfl) (op_add (r := (((((levels o).getD (LL.length - 1) []).take i).sum + ((levels o).getD (LL.length - 1) []).getD i 0 : Nat) : Int)) (ev_hit hN26 rfl) (ev_hit hN26 rfl) (by rw [hLat, ints_at]; have q1 := sum_take9 (L := ((levels o).getD (LL.length - 1) [])) (i := i) (by omega); have q2 := sum_le9 (L := ((levels o).getD (LL.length - 1) [])) (i := i + 1); exact (add64 (by omega)).trans (by omega)) ?_)))))
   refine op_assign (ev_hit hN26 rfl) ?_
   refine reg_nil (hK31 _ _ (one_reg (op_add (ev_base hN26 rfl s26_19) rfl (add64 (by omega)) ?_)))
   refine op_move (ev_hit hN26 rfl) (reg_nil ?_)
   -- round 11T 20T
   exact loop_next _ hN26 hd26 ⟨(i + 1), rfl, (sl_base hN26 rfl s26_2), (sl_base hN26 rfl s26_17), (sl_base hN26 rfl s26_18), (sl_hit hN26 rfl).trans (congrArg (Value.int .i64) (by omega)), (sl_hit hN26 rfl).trans (congrArg (Value.int .i64) (by rw [sum_take9 (by omega)])), (by omega), hb, (by omega), hT, hA7, hs25⟩ (by omega)
  · -- 20F
   refine reg_nil (hK27 _ _ (seq_any fun K36 hK36 => wp_cond_false (ev_hit hN26 rfl) ?_))
   refine wp_exit (then_exit (then_exit (blk_hit ?_)))
   refine hK15 _ _ (seq_any fun K37 hK37 => one_reg (op_move (ev_base hN26 rfl s26_4) (op_assign (ev_hit hN26 rfl) ?_)))
   refine reg_nil (hK37 _ _ (wp_ret ?_))
   refine ret1 rfl hd26 (ev_hit hN26 rfl) ⟨_, rfl, ?_⟩
   exact ⟨hb, congrArg (Value.int .i64) (by rw [← hsum, List.take_of_length_le (by omega)])⟩
 · -- 11F
  refine reg_nil (hK16 _ _ (wp_cond_false (ev_hit hN rfl) ?_))
  refine wp_skip ?_
  refine hK15 _ _ (seq_any fun K38 hK38 => one_reg (op_move (ev_hit hN rfl) (op_assign (ev_hit hN rfl) ?_)))
  refine reg_nil (hK38 _ _ (wp_ret ?_))
  refine ret1 rfl hd (ev_hit hN rfl) ⟨_, rfl, ?_⟩
  exact ⟨hb, congrArg (Value.int .i64) (by rw [← hsum]; rw [show (levels o) = [] from List.eq_nil_of_length_eq_zero (by omega)]; rfl)⟩

theorem lenTopA {o : TO (Int × Int)} {F : Nat → Prop} {p base : Nat} {w : World} (hT : TopR kA 101 base w p o F) (hn : (toLO o).length ≤ 100000) : Ret Try.prog 21 #[(ptr p 0)] w (fun v' w' => Below w.heap.size w w' ∧ v' = .int .i64 ((toLO o).length : Int)) := by
 have hO9 := hT.2.2.1
 have hb := Below.refl w.heap.size w
 refine enter (N := 28) Try.func21 rfl rfl (by simp) fun a0 hN hd hA => ?_
 have s0 : a0.tmps.getD 0 undef = (ptr p 0) := hA 0 (by simp)
 clear hA
 refine seq_any fun K5 hK5 => one_reg ?_
 refine op_assign rfl (reg_nil (hK5 _ _ (seq_any fun K6 hK6 => one_reg (op_move (ev_base hN rfl s0) (op_fn (vs := [(ptr p 0)]) ok47 ⟨(ev_hit hN rfl), trivial⟩ (levelsTopA hT hn) ?_)))))
 rintro v7 w8 ⟨E10, LL, hO7, hA7, hlev⟩
 have E10 := grown_of_below E10
 have z_w8 := E10.size
 have hT := hT.keepG (Gr.of0 E10 NoB) (fun _ _ h => h)
 have hb := below_step0 hb E10 hb.size
 have hLn := lev_len hlev
 have hle := levels_le hO9
 have hsum := levels_sum (o := o)
 refine op_assign (ev_hit hN rfl) ?_
 refine reg_nil (hK6 _ _ (seq_any fun K12 hK12 => one_reg (op_assign rfl ?_)))
 refine reg_nil (hK12 _ _ (seq_any fun K13 hK13 => seq_any fun K14 hK14 => one_reg (op_move (ev_hit hN rfl) (op_len_rd Try.underlying28 (ev_hit hN rfl) hO7.rdw ?_))))
 refine op_gtr (ev_hit hN rfl) rfl (fun c11 => ?_) (fun c11 => ?_)
 · -- 11T
  refine reg_nil (hK14 _ _ (wp_cond_true (ev_hit hN rfl) ?_))
  refine seq_any fun K15 hK15 => one_reg (op_move (ev_hit hN rfl) (op_move (ev_hit hN rfl) (op_len_rd Try.underlying28 (ev_hit hN rfl) hO7.rdw ?_)))
  refine op_sub (r := ((LL.length - 1 : Nat) : Int)) (ev_hit hN rfl) rfl ((sub64 (by omega)).trans (by omega)) ?_
  refine op_index_rd slt28 (ev_hit hN rfl) hO7.rdw (ev_hit hN rfl) (by omega) (by omega) ?_
  intro b16 o21 h0b16 h1b16 hc22
  have hs23 : Own w8 w.heap.size 3 1 (LL.getD (LL.length - 1) default).1 (LL.getD (LL.length - 1) default).2.length ((LL.getD (LL.length - 1) default).2.map (Value.int .i64)) := hA7 _ (getD_mem (by omega))
  refine op_load1 (v := (LL.getD (LL.length - 1) default).1) one30 (ev_hit hN rfl) (by have := hc22 0 (LL.getD (LL.length - 1) default).1 (by decide) (el_ll (i := (LL.length - 1)) (d := default) (by omega) (by omega)); simpa using this) ?_
  have hlm := rd_len hs23.rdw
  have hLat := lev_at hlev (LL.length - 1)
  have hLl : (LL.getD (LL.length - 1) default).2.length = ((levels o).getD (LL.length - 1) []).length := by rw [hLat]; simp
  rw [← hLn] at hsum
  refine op_len_rd Try.underlying30 (ev_hit hN rfl) hs23.rdw ?_
  refine op_move rfl (reg_nil (hK15 _ _ (wp_block ?_)))
  refine loop_m (fun mz_ az_ w' => ∃ (i : Nat), mz_ = ((levels o).getD (LL.length - 1) []).length - i ∧ (az_.tmps.getD 2 undef = (Value.int .i64 0)) ∧ (az_.tmps.getD 17 undef = (LL.getD (LL.length - 1) default).1) ∧ (az_.tmps.getD 18 undef = (Value.int .i64 (((LL.getD (LL.length - 1) default).2.length : Nat) : Int))) ∧ (az_.tmps.getD 19 undef = (Value.int .i64 ((i : Nat) : Int))) ∧ (az_.tmps.getD 4 undef = (Value.int .i64 ((((((levels o).getD (LL.length - 1) []).take i).sum) : Nat) : Int))) ∧ (i ≤ ((levels o).getD (LL.length - 1) []).length) ∧ (Below w.heap.size w w') ∧ (w8.heap.size ≤ w'.heap.size) ∧ (TopR kA 101 base w' p o F) ∧ (∀ x9 ∈ LL, Own w' w.heap.size 3 1 x9.1 x9.2.length (x9.2.map (Value.int .i64))) ∧ (Own w' w.heap.size 3 1 (LL.getD (LL.length - 1) default).1 (LL.getD (LL.length - 1) default).2.length ((LL.getD (LL.length - 1) default).2.map (Value.int .i64)))) _ hN hd ⟨0, rfl, (sl_hit hN rfl), (sl_hit hN rfl), (sl_hit hN rfl), (sl_hit hN rfl), (sl_hit hN rfl), (Nat.zero_le _), hb, (Nat.le_refl _), hT, hA7, hs23⟩ ?_
  rintro _ a24 w24 hN24 hd24 ⟨i, rfl, s24_2, s24_17, s24_18, s24_19, s24_4, hi, hb, zl_w24, hT, hA7, hs23⟩
  have z_w24 := hb.size
  refine seq_any fun K25 hK25 => ?_
  refine one_reg (op_lss (ev_base hN24 rfl s24_19) (ev_base hN24 rfl s24_18) (fun c20 => ?_) (fun c20 => ?_))
  · -- 20T
   refine reg_nil (hK25 _ _ (seq_any fun K26 hK26 => wp_cond_true (ev_hit hN24 rfl) ?_))
   refine wp_skip ?_
   refine hK26 _ _ (seq_any fun K27 hK27 => wp_block ?_)
   refine seq_any fun K29 hK29 => one_reg (op_index_rd slt30 (ev_base hN24 rfl s24_17) hs23.rdw (ev_base hN24 rfl s24_19) (by omega) (by omega) ?_)
   intro b31 o32 h0b31 h1b31 hc33
   refine op_load1 (v := (Value.int .i64 ((LL.getD (LL.length - 1) default).2.getD i 0))) one3 (ev_hit hN24 rfl) (by have := hc33 0 (Value.int .i64 ((LL.getD (LL.length - 1) default).2.getD i 0)) (by decide) (el_i64 (i := i) (by omega) (by omega)); simpa using this) (op_assign (ev_hit hN24 rfl) ?_)
   refine reg_nil (hK29 _ _ (one_reg (op_move (ev_base hN24 rfl s24_4) (op_move (ev_hit hN24 rfl) (op_add (r := (((((levels o).getD (LL.length - 1) []).take i).sum + ((levels o).getD (LL.length - 1) []).getD i 0 : Nat) : Int)) (ev_hit hN24 rfl) (ev_hit hN24 rfl) (by rw [hLat, ints_at]; have q1 := sum_take9 (L := ((levels o).getD (LL.length - 1) [])) (i := i) (by omega); have q2 := sum_le9 (L := ((levels o).getD (LL.length - 1) [])) (i := i + 1); exact (add64 (by omega)).trans (by omega)) ?_)))))
   refine op_assign (ev_hit hN24 rfl) ?_
   refine reg_nil (hK27 _ _ (one_reg (op_add (ev_base hN24 rfl s24_19) rfl (add64 (by omega)) ?_)))
   refine op_move (ev_hit hN24 rfl) (reg_nil ?_)
   -- round 11T 20T
   exact loop_next _ hN24 hd24 ⟨(i + 1), rfl, (sl_base hN24 rfl s24_2), (sl_base hN24 rfl s24_17), (sl_base hN24 rfl s24_18), (sl_hit hN24 rfl).trans (congrArg (Value.int .i64) (by omega)), (sl_hit hN24 rfl).trans (congrArg (Value.int .i64) (by rw [sum_take9 (by omega)])), (by omega), hb, (by omega), hT, hA7, hs23⟩ (by omega)
  · -- 20F
   refine reg_nil (hK25 _ _ (seq_any fun K34 hK34 => wp_cond_false (ev_hit hN24 rfl) ?_))
   refine wp_exit (then_exit (then_exit (blk_hit ?_)))
   refine hK13 _ _ (seq_any fun K35 hK35 => one_reg (op_move (ev_base hN24 rfl s24_4) (op_assign (ev_hit hN24 rfl) ?_)))
   refine reg_nil (hK35 _ _ (wp_ret ?_))
   refine ret1 rfl hd24 (ev_hit hN24 rfl) ⟨_, rfl, ?_⟩
   exact ⟨hb, congrArg (Value.int .i64) (by rw [← hsum, List.take_of_length_le (by omega)])⟩
 · -- 11F
  refine reg_nil (hK14 _ _ (wp_cond_false (ev_hit hN rfl) ?_))
  refine wp_skip ?_
  refine hK13 _ _ (seq_any fun K36 hK36 => one_reg (op_move (ev_hit hN rfl) (op_assign (ev_hit hN rfl) ?_)))
  refine reg_nil (hK36 _ _ (wp_ret ?_))
  refine ret1 rfl hd (ev_hit hN rfl) ⟨_, rfl, ?_⟩
  exact ⟨hb, congrArg (Value.int .i64) (by rw [← hsum]; rw [show (levels o) = [] from List.eq_nil_of_length_eq_zero (by omega)]; rfl)⟩

end Go.Proofs.Ytcpfdfejojghbaa

/- Walks, written by a program: what each function of the translation hands back. -/
namespace Go.Proofs.Ytcpfdfejojghbaa
open Go.Gx Go.RowKit
attribute [local irreducible] wpList wpStill Code.wp Calls
open Go.Bt
theorem scan1I {l : List UInt8} {kv : Value} {x : Int} {D : List (DP (Int))} {ov : Value} {m : Int} {ob lb base : Nat} {w : World} (hbase : base ≤ w.heap.size) (hob : Bx w ob 48 [ov]) (hlb : Bx w lb 3 [.int .i64 m]) (hne : ob ≠ lb) (O : Own w base 51 2 ov D.length (D.flatMap cI)) (ks : ∀ x9 ∈ D.map pk, Own w base 5 1 x9.1 x9.2.length (x9.2.map u8v)) (hkk : RdC w 0 w.heap.size 1 kv l.length (l.map u8v)) (hkn : l.length ≤ 1000000000) (hD : D.length ≤ 1000000) : Ret Try.prog 50 #[(Value.agg #[kv, (Value.int .i64 x)]), (ptr ob 0), (ptr lb 0)] w (fun v' w' => Gr w w' (fun y => y = ob ∨ Bl ov y) ∧ v' = .bool (decide (((D.length + 1 : Nat) : Int) < m)) ∧ ∃ ov' kv', Bx w' ob 48 [ov'] ∧ Own w' base 51 2 ov' (D ++ [(kv', l, x)]).length ((D ++ [(kv', l, x)]).flatMap cI) ∧ (∀ x9 ∈ (D ++ [(kv', l, x)]).map pk, Own w' base 5 1 x9.1 x9.2.length (x9.2.map u8v)) ∧ Bx w' lb 3 [.int .i64 m] ∧ (ov'.ownBlock = ov.ownBlock ∨ ∀ k, ov'.ownBlock = some k → w.heap.size ≤ k) ∧ ∀ k, kv'.ownBlock = some k → w.heap.size ≤ k) := by
 have hi_ob := hob.lt
 have hi_lb := hlb.lt
 have hb := Gr.refl w (fun y => y = ob ∨ Bl ov y)
 refine enter (N := 18) Try.func50 rfl rfl (by simp) fun a0 hN hd hA => ?_
 have s0 : a0.tmps.getD 0 undef = (Value.agg #[kv, (Value.int .i64 x)]) := hA 0 (by simp)
 have s1 : a0.tmps.getD 1 undef = (ptr ob 0) := hA 1 (by simp)
 have s2 : a0.tmps.getD 2 undef = (ptr lb 0) := hA 2 (by simp)
 clear hA
 refine seq_any fun K4 hK4 => one_reg (op_box (cs := [kv, (Value.int .i64 x)]) (ev_base hN rfl s0) rfl ?_)
 intro w14 b15 lo_b15 hi_b15 hB18 E16
 have ne_b15_ov : ov.ownBlock ≠ some b15 := fun hh => by have := (O.lt _ hh).2; omega
 have z_w14 := E16.size
 have hob := hob.keep0 E16
 have hlb := hlb.keep0 E16
 have O := O.keep0 E16
 have ks := all9 ks fun _ h => h.keep0 E16
 have hkk := hkk.keep0 E16
 have hb := hb.step0 E16
 refine op_assign rfl (reg_nil (hK4 _ _ (seq_any fun K19 hK19 => reg_split (hd := [_, _, _, _, _, _, _, _, _]) (tl := _) 9 mixed (by kernel_rfl) rfl rfl ?_)))
 refine any_env (φ := phiV [(fun uz => uz = ov), (fun uz => uz = (ptr b15 0)), (fun uz => uz = kv), (fun _ => True), (fun uz => uz = (ptr b15 1)), (fun uz => uz = (Value.int .i64 x)), (fun _ => True), (fun _ => True), (fun _ => True)]) (G := fun w' => Bx w' ob 48 [ov] ∧ Bx w' b15 51 [kv, (Value.int .i64 x)]) [3, 6, 7, 8] (by kernel_rfl) (by kernel_rfl) (by kernel_rfl) (by kernel_rfl) hN (fun w1 w2 E h => by obtain ⟨h0, h1⟩ := h; exact ⟨h0.keep0 E, h1.keep0 E⟩) ⟨hob, hB18⟩ (ObEs.cons ?_ (ObEs.cons ?_ (ObEs.cons ?_ (ObEs.pass rfl (ObEs.cons ?_ (ObEs.cons ?_ (ObEs.pass rfl (ObEs.pass rfl (ObEs.pass rfl (ObEs.nil)))))))))) (by simp only [putsL_defers]) ?_
 ·
  intro eA aA wA hNA hGA hbsA hdpA
  have qA_1 := (hbsA 1 rfl).trans (sl_base hN rfl s1)
  obtain ⟨hob, hB18⟩ := hGA
  refine op_load1 (v := ov) one48 (ev_base hNA rfl qA_1) (hob.cell rfl) ?_
  exact obE_end rfl rfl rfl
 ·
  intro eA aA wA hNA hGA hbsA hdpA
  have qA_3 := (hbsA 3 rfl).trans (sl_hit hN rfl)
  refine op_field fld51_0 (ev_base hNA rfl qA_3) ?_
  exact obE_end rfl rfl rfl
 ·
  intro eA aA wA hNA hGA hbsA hdpA
  have qA_6 : Sl aA 6 (ptr b15 0) := (hdpA 1 _ 6 (by kernel_rfl) rfl rfl).2 rfl
  obtain ⟨hob, hB18⟩ := hGA
  refine op_load1 (v := kv) one27 (ev_base hNA rfl qA_6) (hB18.cell rfl) ?_
  exact obE_end rfl rfl rfl
 ·
  intro eA aA wA hNA hGA hbsA hdpA
  have qA_3 := (hbsA 3 rfl).trans (sl_hit hN rfl)
  refine op_field fld51_1 (ev_base hNA rfl qA_3) ?_
  exact obE_end rfl rfl rfl
 ·
  intro eA aA wA hNA hGA hbsA hdpA
  have qA_9 : Sl aA 9 (ptr b15 1) := (hdpA 4 _ 9 (by kernel_rfl) rfl rfl).2 rfl
  obtain ⟨hob, hB18⟩ := hGA
  refine op_load1 (v := (Value.int .i64 x)) one3 (ev_base hNA rfl qA_9) (hB18.cell rfl) ?_
  exact obE_end rfl rfl rfl
 ·
  intro w20 E20 _ a20 hN20 hbs20 hdp20 o_ ho_; obtain rfl := Option.some.inj ho_
  have z_w20 := E20.size
  have hob := hob.keep0 E20
  have hlb := hlb.keep0 E20
  have O := O.keep0 E20
  have ks := all9 ks fun _ h => h.keep0 E20
  have hkk := hkk.keep0 E20
  have hB18 := hB18.keep0 E20
  have hb := hb.step0 E20
  have q20_7 : Sl a20 7 kv := (hdp20 2 _ 7 (by kernel_rfl) rfl rfl).2 rfl
  refine op_fn (vs := [kv]) ok41 ⟨(ev_base hN20 rfl q20_7), trivial⟩ (clB (hkk.mono (Nat.zero_le _) (by omega)) (by omega)) ?_
  rintro v21 w22 ⟨E23, hO21⟩
  have E23 := grown_of_below E23
  have z_w22 := E23.size
  have hob := hob.keep0 E23
  have hlb := hlb.keep0 E23
  have O := O.keep0 E23
  have ks := all9 ks fun _ h => h.keep0 E23
  have hB18 := hB18.keep0 E23
  have hb := hb.step0 E23
  have hO21 := hO21.mono (base' := w.heap.size) (by omega)
  skip
  skip
  refine ke_end rfl (by decide) rfl ⟨hob, hB18⟩ ?_
  intro w24 E24 _ a24 hN24 hbs24 hdp24 o_ ho_; obtain rfl := Option.some.inj ho_
  have z_w24 := E24.size
  have hob := hob.keep0 E24
  have hlb := hlb.keep0 E24
  have O := O.keep0 E24
  have ks := all9 ks fun _ h => h.keep0 E24
  have hB18 := hB18.keep0 E24
  have hO21 := hO21.keep0 E24
  have hb := hb.step0 E24
  have q24_8 : Sl a24 8 v21 := (Option.some.inj ((hdp24 3 _ 8 (by kernel_rfl) rfl rfl).1 0 rfl)).symm
  have q24_10 : Sl a24 10 (Value.int .i64 x) := (hdp24 5 _ 10 (by kernel_rfl) rfl rfl).2 rfl
  refine op_build (pv := [(0, v21), (1, (Value.int .i64 x))]) (v := (Value.agg #[v21, (Value.int .i64 x)])) ⟨rfl, (ev_base hN24 rfl q24_8), ⟨rfl, (ev_base hN24 rfl q24_10), trivial⟩⟩ (by obtain ⟨_, _, _, rfl⟩ := hO21.sl; kernel_rfl) ?_
  refine ke_end rfl (by decide) rfl ⟨hob, hB18⟩ ?_
  intro w25 E25 _ a25 hN25 hbs25 hdp25 o_ ho_; obtain rfl := Option.some.inj ho_
  have z_w25 := E25.size
  have hob := hob.keep0 E25
  have hlb := hlb.keep0 E25
  have O := O.keep0 E25
  have ks := all9 ks fun _ h => h.keep0 E25
  have hB18 := hB18.keep0 E25
  have hO21 := hO21.keep0 E25
  have hb := hb.step0 E25
  have q25_11 : Sl a25 11 (Value.agg #[v21, (Value.int .i64 x)]) := (Option.some.inj ((hdp25 6 _ 11 (by kernel_rfl) rfl rfl).1 1 rfl)).symm
  refine op_bslice (e := 51) (pv := [(0, (Value.agg #[v21, (Value.int .i64 x)]))]) (cs := [v21, (Value.int .i64 x)]) ⟨rfl, (ev_base hN25 rfl q25_11), trivial⟩ (by obtain ⟨_, _, _, rfl⟩ := hO21.sl; kernel_rfl) ?_
  intro w26 b28 lo_b28 hi_b28 hB30 E29
  have z_w26 := E29.size
  have hob := hob.keep0 E29
  have hlb := hlb.keep0 E29
  have O := O.keep0 E29
  have ks := all9 ks fun _ h => h.keep0 E29
  have hB18 := hB18.keep0 E29
  have hO21 := hO21.keep0 E29
  have hb := hb.step0 E29
  refine ke_end rfl (by decide) rfl ⟨hob, hB18⟩ ?_
  intro w31 E31 _ a31 hN31 hbs31 hdp31 o_ ho_; obtain rfl := Option.some.inj ho_
  have z_w31 := E31.size
  have hob := hob.keep0 E31
  have hlb := hlb.keep0 E31
  have O := O.keep0 E31
  have ks := all9 ks fun _ h => h.keep0 E31
  have hB18 := hB18.keep0 E31
  have hO21 := hO21.keep0 E31
  have hB30 := hB30.keep0 E31
  have hb := hb.step0 E31
  have q31_5 : Sl a31 5 ov := (hdp31 0 _ 5 (by kernel_rfl) rfl rfl).2 rfl
  have q31_12 : Sl a31 12 (Value.slice (some ⟨b28, 0, none⟩) 1 1) := (Option.some.inj ((hdp31 7 _ 12 (by kernel_rfl) rfl rfl).1 2 rfl)).symm
  have hP37 := O
  refine op_append slt48 (ev_base hN31 rfl q31_5) hP37 (ev_base hN31 rfl q31_12) (Src.ofRd Try.underlying48 (by decide) (RdC.ofBx (sz := 2) (n := 1) hB30 rfl (by decide)) (by simp only [List.all_cons, List.all_nil, Bool.true_and, Bool.and_true, hO21.one]; try rfl)) (by unfold maxLen; omega) (by omega) (Nat.le_trans (by assumption) hb.size) ?_
  intro v32 w33 hO35 E34 hm36
  have z_w33 := E34.size
  have hob := hob.keepO hP37 E34 (by decide)
  have hlb := hlb.keepO hP37 E34 (by decide)
  have ks := all9 ks fun _ h => h.keepT hP37 E34 (by decide)
  have hB18 := hB18.keep E34 (fun hh => ne_b15_ov hh.symm)
  have hO21 := hO21.keepT hP37 E34 (by decide)
  have hb := hb.stepL E34 (fun k _ h => .inr h)
  have hO35 : Own w33 base 51 2 v32 (D.length + 1) ((D.flatMap cI ++ [v21, (Value.int .i64 x)])) := by simpa [u8v, sv] using hO35
  refine ke_end rfl (by decide) rfl ⟨hob, hB18⟩ ?_
  intro w38 E38 a38 hN38 hd38 hbs38 hph38
  have hd38 := hd38.trans ((by simp only [putsL_defers] : _ = _).trans hd)
  have z_w38 := E38.size
  have hob := hob.keep0 E38
  have hlb := hlb.keep0 E38
  have ks := all9 ks fun _ h => h.keep0 E38
  have hO21 := hO21.keep0 E38
  have hO35 := hO35.keep0 E38
  have hb := hb.step0 E38
  have s38_1 := (hbs38 1 rfl).trans (sl_base hN rfl s1)
  have s38_2 := (hbs38 2 rfl).trans (sl_base hN rfl s2)
  have s38_13 : Sl a38 13 v32 := (Option.some.inj ((hph38 8 _ 13 rfl rfl).1 3 rfl)).symm
  refine split_end ?_
  refine from_seq (tl := [_]) (by decide) (by kernel_rfl) rfl ?_
  have hob_old := hob
  refine op_store (vs := [v32]) (cs' := [v32]) size48 (ev_base hN38 rfl s38_1) (ev_base hN38 rfl s38_13) hO35.cl rfl (by simp only [List.all_cons, List.all_nil, Bool.true_and, Bool.and_true, hO35.one]; try rfl) hob (Nat.le_of_ble_eq_true rfl) rfl ?_
  intro w39 hob E40
  have z_w39 := E40.size
  have hlb := hlb.keep E40 (fun hh => hlb.ne hob_old (by decide) (Option.some.inj hh))
  have ks := all9 ks fun _ h => h.keepX hob_old E40 (by decide)
  have hO21 := hO21.keepX hob_old E40 (by decide)
  have hO35 := hO35.keepX hob_old E40 (by decide)
  have hb := hb.stepB E40 (.inl rfl)
  refine reg_nil (hK19 _ _ (seq_any fun K42 hK42 => one_reg (op_load1 (v := v32) one48 (ev_base hN38 rfl s38_1) (hob.cell rfl) (op_len_rd Try.underlying48 (ev_hit hN38 rfl) hO35.rdw ?_))))
  refine op_load1 (v := (Value.int .i64 m)) one3 (ev_base hN38 rfl s38_2) (hlb.cell rfl) (op_lss (ev_hit hN38 rfl) (ev_hit hN38 rfl) (fun c17 => ?_) (fun c17 => ?_))
  · -- 17T
   refine op_assign (ev_hit hN38 rfl) ?_
   refine reg_nil (hK42 _ _ (wp_ret ?_))
   refine ret1 rfl hd38 (ev_hit hN38 rfl) ⟨_, rfl, ?_⟩
   exact ⟨hb, congrArg Value.bool (decide_eq_true (by omega)).symm, v32, v21, hob, hO35.cast (by simp) (by simp [cI]), ks_snoc ks (hO21.mono (by omega)), hlb, hm36.imp id fun h k hk => Nat.le_trans (by omega) (h k hk), fun k hk => (hO21.lt k hk).1⟩
  · -- 17F
   refine op_assign (ev_hit hN38 rfl) ?_
   refine reg_nil (hK42 _ _ (wp_ret ?_))
   refine ret1 rfl hd38 (ev_hit hN38 rfl) ⟨_, rfl, ?_⟩
   exact ⟨hb, congrArg Value.bool (decide_eq_false (by omega)).symm, v32, v21, hob, hO35.cast (by simp) (by simp [cI]), ks_snoc ks (hO21.mono (by omega)), hlb, hm36.imp id fun h k hk => Nat.le_trans (by omega) (h k hk), fun k hk => (hO21.lt k hk).1⟩

theorem scan1S {l : List UInt8} {kv : Value} {x : List UInt8} {D : List (DP (List UInt8))} {ov : Value} {m : Int} {ob lb base : Nat} {w : World} (hbase : base ≤ w.heap.size) (hob : Bx w ob 89 [ov]) (hlb : Bx w lb 3 [.int .i64 m]) (hne : ob ≠ lb) (O : Own w base 98 2 ov D.length (D.flatMap cS)) (ks : ∀ x9 ∈ D.map pk, Own w base 5 1 x9.1 x9.2.length (x9.2.map u8v)) (hkk : RdC w 0 w.heap.size 1 kv l.length (l.map u8v)) (hkn : l.length ≤ 1000000000) (hD : D.length ≤ 1000000) : Ret Try.prog 79 #[(Value.agg #[kv, (Value.string (bs x))]), (ptr ob 0), (ptr lb 0)] w (fun v' w' => Gr w w' (fun y => y = ob ∨ Bl ov y) ∧ v' = .bool (decide (((D.length + 1 : Nat) : Int) < m)) ∧ ∃ ov' kv', Bx w' ob 89 [ov'] ∧ Own w' base 98 2 ov' (D ++ [(kv', l, x)]).length ((D ++ [(kv', l, x)]).flatMap cS) ∧ (∀ x9 ∈ (D ++ [(kv', l, x)]).map pk, Own w' base 5 1 x9.1 x9.2.length (x9.2.map u8v)) ∧ Bx w' lb 3 [.int .i64 m] ∧ (ov'.ownBlock = ov.ownBlock ∨ ∀ k, ov'.ownBlock = some k → w.heap.size ≤ k) ∧ ∀ k, kv'.ownBlock = some k → w.heap.size ≤ k) := by
 have hi_ob := hob.lt
 have hi_lb := hlb.lt
 have hb := Gr.refl w (fun y => y = ob ∨ Bl ov y)
 refine enter (N := 18) Try.func79 rfl rfl (by simp) fun a0 hN hd hA => ?_
 have s0 : a0.tmps.getD 0 undef = (Value.agg #[kv, (Value.string (bs x))]) := hA 0 (by simp)
 have s1 : a0.tmps.getD 1 undef = (ptr ob 0) := hA 1 (by simp)
 have s2 : a0.tmps.getD 2 undef = (ptr lb 0) := hA 2 (by simp)
 clear hA
 refine seq_any fun K4 hK4 => one_reg (op_box (cs := [kv, (Value.string (bs x))]) (ev_base hN rfl s0) rfl ?_)
 intro w14 b15 lo_b15 hi_b15 hB18 E16
 have ne_b15_ov : ov.ownBlock ≠ some b15 := fun hh => by have := (O.lt _ hh).2; omega
 have z_w14 := E16.size
 have hob := hob.keep0 E16
 have hlb := hlb.keep0 E16
 have O := O.keep0 E16
 have ks := all9 ks fun _ h => h.keep0 E16
 have hkk := hkk.keep0 E16
 have hb := hb.step0 E16
 refine op_assign rfl (reg_nil (hK4 _ _ (seq_any fun K19 hK19 => reg_split (hd := [_, _, _, _, _, _, _, _, _]) (tl := _) 9 mixed (by kernel_rfl) rfl rfl ?_)))
 refine any_env (φ := phiV [(fun uz => uz = ov), (fun uz => uz = (ptr b15 0)), (fun uz => uz = kv), (fun _ => True), (fun uz => uz = (ptr b15 1)), (fun uz => uz = (Value.string (bs x))), (fun _ => True), (fun _ => True), (fun _ => True)]) (G := fun w' => Bx w' ob 89 [ov] ∧ Bx w' b15 98 [kv, (Value.string (bs x))]) [3, 6, 7, 8] (by kernel_rfl) (by kernel_rfl) (by kernel_rfl) (by kernel_rfl) hN (fun w1 w2 E h => by obtain ⟨h0, h1⟩ := h; exact ⟨h0.keep0 E, h1.keep0 E⟩) ⟨hob, hB18⟩ (ObEs.cons ?_ (ObEs.cons ?_ (ObEs.cons ?_ (ObEs.pass rfl (ObEs.cons ?_ (ObEs.cons ?_ (ObEs.pass rfl (ObEs.pass rfl (ObEs.pass rfl (ObEs.nil)))))))))) (by simp only [putsL_defers]) ?_
 ·
  intro eA aA wA hNA hGA hbsA hdpA
  have qA_1 := (hbsA 1 rfl).trans (sl_base hN rfl s1)
  obtain ⟨hob, hB18⟩ := hGA
  refine op_load1 (v := ov) one89 (ev_base hNA rfl qA_1) (hob.cell rfl) ?_
  exact obE_end rfl rfl rfl
 ·
  intro eA aA wA hNA hGA hbsA hdpA
  have qA_3 := (hbsA 3 rfl).trans (sl_hit hN rfl)
  refine op_field fld98_0 (ev_base hNA rfl qA_3) ?_
  exact obE_end rfl rfl rfl
 ·
  intro eA aA wA hNA hGA hbsA hdpA
  have qA_6 : Sl aA 6 (ptr b15 0) := (hdpA 1 _ 6 (by kernel_rfl) rfl rfl).2 rfl
  obtain ⟨hob, hB18⟩ := hGA
  refine op_load1 (v := kv) one27 (ev_base hNA rfl qA_6) (hB18.cell rfl) ?_
  exact obE_end rfl rfl rfl
 ·
  intro eA aA wA hNA hGA hbsA hdpA
  have qA_3 := (hbsA 3 rfl).trans (sl_hit hN rfl)
  refine op_field fld98_1 (ev_base hNA rfl qA_3) ?_
  exact obE_end rfl rfl rfl
 ·
  intro eA aA wA hNA hGA hbsA hdpA
  have qA_9 : Sl aA 9 (ptr b15 1) := (hdpA 4 _ 9 (by kernel_rfl) rfl rfl).2 rfl
  obtain ⟨hob, hB18⟩ := hGA
  refine op_load1 (v := (Value.string (bs x))) one9 (ev_base hNA rfl qA_9) (hB18.cell rfl) ?_
  exact obE_end rfl rfl rfl
 ·
  intro w20 E20 _ a20 hN20 hbs20 hdp20 o_ ho_; obtain rfl := Option.some.inj ho_
  have z_w20 := E20.size
  have hob := hob.keep0 E20
  have hlb := hlb.keep0 E20
  have O := O.keep0 E20
  have ks := all9 ks fun _ h => h.keep0 E20
  have hkk := hkk.keep0 E20
  have hB18 := hB18.keep0 E20
  have hb := hb.step0 E20
  have q20_7 : Sl a20 7 kv := (hdp20 2 _ 7 (by kernel_rfl) rfl rfl).2 rfl
  refine op_fn (vs := [kv]) ok41 ⟨(ev_base hN20 rfl q20_7), trivial⟩ (clB (hkk.mono (Nat.zero_le _) (by omega)) (by omega)) ?_
  rintro v21 w22 ⟨E23, hO21⟩
  have E23 := grown_of_below E23
  have z_w22 := E23.size
  have hob := hob.keep0 E23
  have hlb := hlb.keep0 E23
  have O := O.keep0 E23
  have ks := all9 ks fun _ h => h.keep0 E23
  have hB18 := hB18.keep0 E23
  have hb := hb.step0 E23
  have hO21 := hO21.mono (base' := w.heap.size) (by omega)
  skip
  skip
  refine ke_end rfl (by decide) rfl ⟨hob, hB18⟩ ?_
  intro w24 E24 _ a24 hN24 hbs24 hdp24 o_ ho_; obtain rfl := Option.some.inj ho_
  have z_w24 := E24.size
  have hob := hob.keep0 E24
  have hlb := hlb.keep0 E24
  have O := O.keep0 E24
  have ks := all9 ks fun _ h => h.keep0 E24
  have hB18 := hB18.keep0 E24
  have hO21 := hO21.keep0 E24
  have hb := hb.step0 E24
  have q24_8 : Sl a24 8 v21 := (Option.some.inj ((hdp24 3 _ 8 (by kernel_rfl) rfl rfl).1 0 rfl)).symm
  have q24_10 : Sl a24 10 (Value.string (bs x)) := (hdp24 5 _ 10 (by kernel_rfl) rfl rfl).2 rfl
  refine op_build (pv := [(0, v21), (1, (Value.string (bs x)))]) (v := (Value.agg #[v21, (Value.string (bs x))])) ⟨rfl, (ev_base hN24 rfl q24_8), ⟨rfl, (ev_base hN24 rfl q24_10), trivial⟩⟩ (by obtain ⟨_, _, _, rfl⟩ := hO21.sl; kernel_rfl) ?_
  refine ke_end rfl (by decide) rfl ⟨hob, hB18⟩ ?_
  intro w25 E25 _ a25 hN25 hbs25 hdp25 o_ ho_; obtain rfl := Option.some.inj ho_
  have z_w25 := E25.size
  have hob := hob.keep0 E25
  have hlb := hlb.keep0 E25
  have O := O.keep0 E25
  have ks := all9 ks fun _ h => h.keep0 E25
  have hB18 := hB18.keep0 E25
  have hO21 := hO21.keep0 E25
  have hb := hb.step0 E25
  have q25_11 : Sl a25 11 (Value.agg #[v21, (Value.string (bs x))]) := (Option.some.inj ((hdp25 6 _ 11 (by kernel_rfl) rfl rfl).1 1 rfl)).symm
  refine op_bslice (e := 98) (pv := [(0, (Value.agg #[v21, (Value.string (bs x))]))]) (cs := [v21, (Value.string (bs x))]) ⟨rfl, (ev_base hN25 rfl q25_11), trivial⟩ (by obtain ⟨_, _, _, rfl⟩ := hO21.sl; kernel_rfl) ?_
  intro w26 b28 lo_b28 hi_b28 hB30 E29
  have z_w26 := E29.size
  have hob := hob.keep0 E29
  have hlb := hlb.keep0 E29
  have O := O.keep0 E29
  have ks := all9 ks fun _ h => h.keep0 E29
  have hB18 := hB18.keep0 E29
  have hO21 := hO21.keep0 E29
  have hb := hb.step0 E29
  refine ke_end rfl (by decide) rfl ⟨hob, hB18⟩ ?_
  intro w31 E31 _ a31 hN31 hbs31 hdp31 o_ ho_; obtain rfl := Option.some.inj ho_
  have z_w31 := E31.size
  have hob := hob.keep0 E31
  have hlb := hlb.keep0 E31
  have O := O.keep0 E31
  have ks := all9 ks fun _ h => h.keep0 E31
  have hB18 := hB18.keep0 E31
  have hO21 := hO21.keep0 E31
  have hB30 := hB30.keep0 E31
  have hb := hb.step0 E31
  have q31_5 : Sl a31 5 ov := (hdp31 0 _ 5 (by kernel_rfl) rfl rfl).2 rfl
  have q31_12 : Sl a31 12 (Value.slice (some ⟨b28, 0, none⟩) 1 1) := (Option.some.inj ((hdp31 7 _ 12 (by kernel_rfl) rfl rfl).1 2 rfl)).symm
  have hP37 := O
  refine op_append slt89 (ev_base hN31 rfl q31_5) hP37 (ev_base hN31 rfl q31_12) (Src.ofRd Try.underlying89 (by decide) (RdC.ofBx (sz := 2) (n := 1) hB30 rfl (by decide)) (by simp only [List.all_cons, List.all_nil, Bool.true_and, Bool.and_true, hO21.one]; try rfl)) (by unfold maxLen; omega) (by omega) (Nat.le_trans (by assumption) hb.size) ?_
  intro v32 w33 hO35 E34 hm36
  have z_w33 := E34.size
  have hob := hob.keepO hP37 E34 (by decide)
  have hlb := hlb.keepO hP37 E34 (by decide)
  have ks := all9 ks fun _ h => h.keepT hP37 E34 (by decide)
  have hB18 := hB18.keep E34 (fun hh => ne_b15_ov hh.symm)
  have hO21 := hO21.keepT hP37 E34 (by decide)
  have hb := hb.stepL E34 (fun k _ h => .inr h)
  have hO35 : Own w33 base 98 2 v32 (D.length + 1) ((D.flatMap cS ++ [v21, (Value.string (bs x))])) := by simpa [u8v, sv] using hO35
  refine ke_end rfl (by decide) rfl ⟨hob, hB18⟩ ?_
  intro w38 E38 a38 hN38 hd38 hbs38 hph38
  have hd38 := hd38.trans ((by simp only [putsL_defers] : _ = _).trans hd)
  have z_w38 := E38.size
  have hob := hob.keep0 E38
  have hlb := hlb.keep0 E38
  have ks := all9 ks fun _ h => h.keep0 E38
  have hO21 := hO21.keep0 E38
  have hO35 := hO35.keep0 E38
  have hb := hb.step0 E38
  have s38_1 := (hbs38 1 rfl).trans (sl_base hN rfl s1)
  have s38_2 := (hbs38 2 rfl).trans (sl_base hN rfl s2)
  have s38_13 : Sl a38 13 v32 := (Option.some.inj ((hph38 8 _ 13 rfl rfl).1 3 rfl)).symm
  refine split_end ?_
  refine from_seq (tl := [_]) (by decide) (by kernel_rfl) rfl ?_
  have hob_old := hob
  refine op_store (vs := [v32]) (cs' := [v32]) size89 (ev_base hN38 rfl s38_1) (ev_base hN38 rfl s38_13) hO35.cl rfl (by simp only [List.all_cons, List.all_nil, Bool.true_and, Bool.and_true, hO35.one]; try rfl) hob (Nat.le_of_ble_eq_true rfl) rfl ?_
  intro w39 hob E40
  have z_w39 := E40.size
  have hlb := hlb.keep E40 (fun hh => hlb.ne hob_old (by decide) (Option.some.inj hh))
  have ks := all9 ks fun _ h => h.keepX hob_old E40 (by decide)
  have hO21 := hO21.keepX hob_old E40 (by decide)
  have hO35 := hO35.keepX hob_old E40 (by decide)
  have hb := hb.stepB E40 (.inl rfl)
  refine reg_nil (hK19 _ _ (seq_any fun K42 hK42 => one_reg (op_load1 (v := v32) one89 (ev_base hN38 rfl s38_1) (hob.cell rfl) (op_len_rd Try.underlying89 (ev_hit hN38 rfl) hO35.rdw ?_))))
  refine op_load1 (v := (Value.int .i64 m)) one3 (ev_base hN38 rfl s38_2) (hlb.cell rfl) (op_lss (ev_hit hN38 rfl) (ev_hit hN38 rfl) (fun c17 => ?_) (fun c17 => ?_))
  · -- 17T
   refine op_assign (ev_hit hN38 rfl) ?_
   refine reg_nil (hK42 _ _ (wp_ret ?_))
   refine ret1 rfl hd38 (ev_hit hN38 rfl) ⟨_, rfl, ?_⟩
   exact ⟨hb, congrArg Value.bool (decide_eq_true (by omega)).symm, v32, v21, hob, hO35.cast (by simp) (by simp [cS]), ks_snoc ks (hO21.mono (by omega)), hlb, hm36.imp id fun h k hk => Nat.le_trans (by omega) (h k hk), fun k hk => (hO21.lt k hk).1⟩
  · -- 17F
   refine op_assign (ev_hit hN38 rfl) ?_
   refine reg_nil (hK42 _ _ (wp_ret ?_))
   refine ret1 rfl hd38 (ev_hit hN38 rfl) ⟨_, rfl, ?_⟩
   exact ⟨hb, congrArg Value.bool (decide_eq_false (by omega)).symm, v32, v21, hob, hO35.cast (by simp) (by simp [cS]), ks_snoc ks (hO21.mono (by omega)), hlb, hm36.imp id fun h k hk => Nat.le_trans (by omega) (h k hk), fun k hk => (hO21.lt k hk).1⟩

theorem scan1A {l : List UInt8} {kv : Value} {x : Int × Int} {D : List (DP (Int × Int))} {ov : Value} {m : Int} {ob lb base : Nat} {w : World} (hbase : base ≤ w.heap.size) (hob : Bx w ob 102 [ov]) (hlb : Bx w lb 3 [.int .i64 m]) (hne : ob ≠ lb) (O : Own w base 109 3 ov D.length (D.flatMap cA)) (ks : ∀ x9 ∈ D.map pk, Own w base 5 1 x9.1 x9.2.length (x9.2.map u8v)) (hkk : RdC w 0 w.heap.size 1 kv l.length (l.map u8v)) (hkn : l.length ≤ 1000000000) (hD : D.length ≤ 1000000) : Ret Try.prog 77 #[(Value.agg #[kv, (Value.int .i64 x.1), (Value.int .i64 x.2)]), (ptr ob 0), (ptr lb 0)] w (fun v' w' => Gr w w' (fun y => y = ob ∨ Bl ov y) ∧ v' = .bool (decide (((D.length + 1 : Nat) : Int) < m)) ∧ ∃ ov' kv', Bx w' ob 102 [ov'] ∧ Own w' base 109 3 ov' (D ++ [(kv', l, x)]).length ((D ++ [(kv', l, x)]).flatMap cA) ∧ (∀ x9 ∈ (D ++ [(kv', l, x)]).map pk, Own w' base 5 1 x9.1 x9.2.length (x9.2.map u8v)) ∧ Bx w' lb 3 [.int .i64 m] ∧ (ov'.ownBlock = ov.ownBlock ∨ ∀ k, ov'.ownBlock = some k → w.heap.size ≤ k) ∧ ∀ k, kv'.ownBlock = some k → w.heap.size ≤ k) := by
 have hi_ob := hob.lt
 have hi_lb := hlb.lt
 have hb := Gr.refl w (fun y => y = ob ∨ Bl ov y)
 refine enter (N := 18) Try.func77 rfl rfl (by simp) fun a0 hN hd hA => ?_
 have s0 : a0.tmps.getD 0 undef = (Value.agg #[kv, (Value.int .i64 x.1), (Value.int .i64 x.2)]) := hA 0 (by simp)
 have s1 : a0.tmps.getD 1 undef = (ptr ob 0) := hA 1 (by simp)
 have s2 : a0.tmps.getD 2 undef = (ptr lb 0) := hA 2 (by simp)
 clear hA
 refine seq_any fun K4 hK4 => one_reg (op_box (cs := [kv, (Value.int .i64 x.1), (Value.int .i64 x.2)]) (ev_base hN rfl s0) rfl ?_)
 intro w14 b15 lo_b15 hi_b15 hB18 E16
 have ne_b15_ov : ov.ownBlock ≠ some b15 := fun hh => by have := (O.lt _ hh).2; omega
 have z_w14 := E16.size
 have hob := hob.keep0 E16
 have hlb := hlb.keep0 E16
 have O := O.keep0 E16
 have ks := all9 ks fun _ h => h.keep0 E16
 have hkk := hkk.keep0 E16
 have hb := hb.step0 E16
 refine op_assign rfl (reg_nil (hK4 _ _ (seq_any fun K19 hK19 => reg_split (hd := [_, _, _, _, _, _, _, _, _]) (tl := _) 9 mixed (by kernel_rfl) rfl rfl ?_)))
 refine any_env (φ := phiV [(fun uz => uz = ov), (fun uz => uz = (ptr b15 0)), (fun uz => uz = kv), (fun _ => True), (fun uz => uz = (ptr b15 1)), (fun uz => uz = (Value.agg #[(Value.int .i64 x.1), (Value.int .i64 x.2)])), (fun _ => True), (fun _ => True), (fun _ => True)]) (G := fun w' => Bx w' ob 102 [ov] ∧ Bx w' b15 109 [kv, (Value.int .i64 x.1), (Value.int .i64 x.2)]) [3, 6, 7, 8] (by kernel_rfl) (by kernel_rfl) (by kernel_rfl) (by kernel_rfl) hN (fun w1 w2 E h => by obtain ⟨h0, h1⟩ := h; exact ⟨h0.keep0 E, h1.keep0 E⟩) ⟨hob, hB18⟩ (ObEs.cons ?_ (ObEs.cons ?_ (ObEs.cons ?_ (ObEs.pass rfl (ObEs.cons ?_ (ObEs.cons ?_ (ObEs.pass rfl (ObEs.pass rfl (ObEs.pass rfl (ObEs.nil)))))))))) (by simp only [putsL_defers]) ?_
 ·
  intro eA aA wA hNA hGA hbsA hdpA
  have qA_1 := (hbsA 1 rfl).trans (sl_base hN rfl s1)
  obtain ⟨hob, hB18⟩ := hGA
  refine op_load1 (v := ov) one102 (ev_base hNA rfl qA_1) (hob.cell rfl) ?_
  exact obE_end rfl rfl rfl
 ·
  intro eA aA wA hNA hGA hbsA hdpA
  have qA_3 := (hbsA 3 rfl).trans (sl_hit hN rfl)
  refine op_field fld109_0 (ev_base hNA rfl qA_3) ?_
  exact obE_end rfl rfl rfl
 ·
  intro eA aA wA hNA hGA hbsA hdpA
  have qA_6 : Sl aA 6 (ptr b15 0) := (hdpA 1 _ 6 (by kernel_rfl) rfl rfl).2 rfl
  obtain ⟨hob, hB18⟩ := hGA
  refine op_load1 (v := kv) one27 (ev_base hNA rfl qA_6) (hB18.cell rfl) ?_
  exact obE_end rfl rfl rfl
 ·
  intro eA aA wA hNA hGA hbsA hdpA
  have qA_3 := (hbsA 3 rfl).trans (sl_hit hN rfl)
  refine op_field fld109_1 (ev_base hNA rfl qA_3) ?_
  exact obE_end rfl rfl rfl
 ·
  intro eA aA wA hNA hGA hbsA hdpA
  have qA_9 : Sl aA 9 (ptr b15 1) := (hdpA 4 _ 9 (by kernel_rfl) rfl rfl).2 rfl
  obtain ⟨hob, hB18⟩ := hGA
  refine op_loadA (cs := [(Value.int .i64 x.1), (Value.int .i64 x.2)]) agg36 rfl (ev_base hNA rfl qA_9) (fun j u hu => hB18.cell (at_pre9 (pre := [kv]) (suf := []) hu)) ?_
  exact obE_end rfl rfl rfl
 ·
  intro w20 E20 _ a20 hN20 hbs20 hdp20 o_ ho_; obtain rfl := Option.some.inj ho_
  have z_w20 := E20.size
  have hob := hob.keep0 E20
  have hlb := hlb.keep0 E20
  have O := O.keep0 E20
  have ks := all9 ks fun _ h => h.keep0 E20
  have hkk := hkk.keep0 E20
  have hB18 := hB18.keep0 E20
  have hb := hb.step0 E20
  have q20_7 : Sl a20 7 kv := (hdp20 2 _ 7 (by kernel_rfl) rfl rfl).2 rfl
  refine op_fn (vs := [kv]) ok41 ⟨(ev_base hN20 rfl q20_7), trivial⟩ (clB (hkk.mono (Nat.zero_le _) (by omega)) (by omega)) ?_
  rintro v21 w22 ⟨E23, hO21⟩
  have E23 := grown_of_below E23
  have z_w22 := E23.size
  have hob := hob.keep0 E23
  have hlb := hlb.keep0 E23
  have O := O.keep0 E23
  have ks := all9 ks fun _ h => h.keep0 E23
  have hB18 := hB18.keep0 E23
  have hb := hb.step0 E23
  have hO21 := hO21.mono (base' := w.heap.size) (by omega)
  skip
  skip
  refine ke_end rfl (by decide) rfl ⟨hob, hB18⟩ ?_
  intro w24 E24 _ a24 hN24 hbs24 hdp24 o_ ho_; obtain rfl := Option.some.inj ho_
  have z_w24 := E24.size
  have hob := hob.keep0 E24
  have hlb := hlb.keep0 E24
  have O := O.keep0 E24
  have ks := all9 ks fun _ h => h.keep0 E24
  have hB18 := hB18.keep0 E24
  have hO21 := hO21.keep0 E24
  have hb := hb.step0 E24
  have q24_8 : Sl a24 8 v21 := (Option.some.inj ((hdp24 3 _ 8 (by kernel_rfl) rfl rfl).1 0 rfl)).symm
  have q24_10 : Sl a24 10 (Value.agg #[(Value.int .i64 x.1), (Value.int .i64 x.2)]) := (hdp24 5 _ 10 (by kernel_rfl) rfl rfl).2 rfl
  refine op_build (pv := [(0, v21), (1, (Value.agg #[(Value.int .i64 x.1), (Value.int .i64 x.2)]))]) (v := (Value.agg #[v21, (Value.int .i64 x.1), (Value.int .i64 x.2)])) ⟨rfl, (ev_base hN24 rfl q24_8), ⟨rfl, (ev_base hN24 rfl q24_10), trivial⟩⟩ (by obtain ⟨_, _, _, rfl⟩ := hO21.sl; kernel_rfl) ?_
  refine ke_end rfl (by decide) rfl ⟨hob, hB18⟩ ?_
  intro w25 E25 _ a25 hN25 hbs25 hdp25 o_ ho_; obtain rfl := Option.some.inj ho_
  have z_w25 := E25.size
  have hob := hob.keep0 E25
  have hlb := hlb.keep0 E25
  have O := O.keep0 E25
  have ks := all9 ks fun _ h => h.keep0 E25
  have hB18 := hB18.keep0 E25
  have hO21 := hO21.keep0 E25
  have hb := hb.step0 E25
  have q25_11 : Sl a25 11 (Value.agg #[v21, (Value.int .i64 x.1), (Value.int .i64 x.2)]) := (Option.some.inj ((hdp25 6 _ 11 (by kernel_rfl) rfl rfl).1 1 rfl)).symm
  refine op_bslice (e := 109) (pv := [(0, (Value.agg #[v21, (Value.int .i64 x.1), (Value.int .i64 x.2)]))]) (cs := [v21, (Value.int .i64 x.1), (Value.int .i64 x.2)]) ⟨rfl, (ev_base hN25 rfl q25_11), trivial⟩ (by obtain ⟨_, _, _, rfl⟩ := hO21.sl; kernel_rfl) ?_
  intro w26 b28 lo_b28 hi_b28 hB30 E29
  have z_w26 := E29.size
  have hob := hob.keep0 E29
  have hlb := hlb.keep0 E29
  have O := O.keep0 E29
  have ks := all9 ks fun _ h => h.keep0 E29
  have hB18 := hB18.keep0 E29
  have hO21 := hO21.keep0 E29
  have hb := hb.step0 E29
  refine ke_end rfl (by decide) rfl ⟨hob, hB18⟩ ?_
  intro w31 E31 _ a31 hN31 hbs31 hdp31 o_ ho_; obtain rfl := Option.some.inj ho_
  have z_w31 := E31.size
  have hob := hob.keep0 E31
  have hlb := hlb.keep0 E31
  have O := O.keep0 E31
  have ks := all9 ks fun _ h => h.keep0 E31
  have hB18 := hB18.keep0 E31
  have hO21 := hO21.keep0 E31
  have hB30 := hB30.keep0 E31
  have hb := hb.step0 E31
  have q31_5 : Sl a31 5 ov := (hdp31 0 _ 5 (by kernel_rfl) rfl rfl).2 rfl
  have q31_12 : Sl a31 12 (Value.slice (some ⟨b28, 0, none⟩) 1 1) := (Option.some.inj ((hdp31 7 _ 12 (by kernel_rfl) rfl rfl).1 2 rfl)).symm
  have hP38 := O
  refine op_append slt102 (ev_base hN31 rfl q31_5) hP38 (ev_base hN31 rfl q31_12) (Src.ofRd Try.underlying102 (by decide) (RdC.ofBx (sz := 3) (n := 1) hB30 rfl (by decide)) (by simp only [List.all_cons, List.all_nil, Bool.true_and, Bool.and_true, hO21.one]; try rfl)) (by unfold maxLen; omega) (by omega) (Nat.le_trans (by assumption) hb.size) ?_
  intro v32 w33 hO35 E34 hm37
  have z_w33 := E34.size
  have hob := hob.keepO hP38 E34 (by decide)
  have hlb := hlb.keepO hP38 E34 (by decide)
  have ks := all9 ks fun _ h => h.keepT hP38 E34 (by decide)
  have hB18 := hB18.keep E34 (fun hh => ne_b15_ov hh.symm)
  have hO21 := hO21.keepT hP38 E34 (by decide)
  have hb := hb.stepL E34 (fun k _ h => .inr h)
  have hO35 : Own w33 base 109 3 v32 (D.length + 1) ((D.flatMap cA ++ [v21, (Value.int .i64 x.1), (Value.int .i64 x.2)])) := by simpa [u8v, sv] using hO35
  refine ke_end rfl (by decide) rfl ⟨hob, hB18⟩ ?_
  intro w39 E39 a39 hN39 hd39 hbs39 hph39
  have hd39 := hd39.trans ((by simp only [putsL_defers] : _ = _).trans hd)
  have z_w39 := E39.size
  have hob := hob.keep0 E39
  have hlb := hlb.keep0 E39
  have ks := all9 ks fun _ h => h.keep0 E39
  have hO21 := hO21.keep0 E39
  have hO35 := hO35.keep0 E39
  have hb := hb.step0 E39
  have s39_1 := (hbs39 1 rfl).trans (sl_base hN rfl s1)
  have s39_2 := (hbs39 2 rfl).trans (sl_base hN rfl s2)
  have s39_13 : Sl a39 13 v32 := (Option.some.inj ((hph39 8 _ 13 rfl rfl).1 3 rfl)).symm
  refine split_end ?_
  refine from_seq (tl := [_]) (by decide) (by kernel_rfl) rfl ?_
  have hob_old := hob
  refine op_store (vs := [v32]) (cs' := [v32]) size102 (ev_base hN39 rfl s39_1) (ev_base hN39 rfl s39_13) hO35.cl rfl (by simp only [List.all_cons, List.all_nil, Bool.true_and, Bool.and_true, hO35.one]; try rfl) hob (Nat.le_of_ble_eq_true rfl) rfl ?_
  intro w40 hob E42
  have z_w40 := E42.size
  have hlb := hlb.keep E42 (fun hh => hlb.ne hob_old (by decide) (Option.some.inj hh))
  have ks := all9 ks fun _ h => h.keepX hob_old E42 (by decide)
  have hO21 := hO21.keepX hob_old E42 (by decide)
  have hO35 := hO35.keepX hob_old E42 (by decide)
  have hb := hb.stepB E42 (.inl rfl)
  refine reg_nil (hK19 _ _ (seq_any fun K43 hK43 => one_reg (op_load1 (v := v32) one102 (ev_base hN39 rfl s39_1) (hob.cell rfl) (op_len_rd Try.underlying102 (ev_hit hN39 rfl) hO35.rdw ?_))))
  refine op_load1 (v := (Value.int .i64 m)) one3 (ev_base hN39 rfl s39_2) (hlb.cell rfl) (op_lss (ev_hit hN39 rfl) (ev_hit hN39 rfl) (fun c17 => ?_) (fun c17 => ?_))
  · -- 17T
   refine op_assign (ev_hit hN39 rfl) ?_
   refine reg_nil (hK43 _ _ (wp_ret ?_))
   refine ret1 rfl hd39 (ev_hit hN39 rfl) ⟨_, rfl, ?_⟩
   exact ⟨hb, congrArg Value.bool (decide_eq_true (by omega)).symm, v32, v21, hob, hO35.cast (by simp) (by simp [cA]), ks_snoc ks (hO21.mono (by omega)), hlb, hm37.imp id fun h k hk => Nat.le_trans (by omega) (h k hk), fun k hk => (hO21.lt k hk).1⟩
  · -- 17F
   refine op_assign (ev_hit hN39 rfl) ?_
   refine reg_nil (hK43 _ _ (wp_ret ?_))
   refine ret1 rfl hd39 (ev_hit hN39 rfl) ⟨_, rfl, ?_⟩
   exact ⟨hb, congrArg Value.bool (decide_eq_false (by omega)).symm, v32, v21, hob, hO35.cast (by simp) (by simp [cA]), ks_snoc ks (hO21.mono (by omega)), hlb, hm37.imp id fun h k hk => Nat.le_trans (by omega) (h k hk), fun k hk => (hO21.lt k hk).1⟩

end Go.Proofs.Ytcpfdfejojghbaa

/- Scans: the pairs from a key on, so many of them. -/
namespace Go.Gx
open Go.Bt Go.RowKit
section
variable {V : Type} {κ : Kd V} {w w' : World} {F G H W R : Nat → Prop} {B base b h p q n ob lb tS : Nat} {m : Int} {L : List Nat} {P : List Nat} {D D2 : List (DP V)} {ov : Value} {x : Ky}
def AccR (κ : Kd V) (tS B ob lb : Nat) (m : Int) (w : World) (D : List (DP V)) (F : Nat → Prop) : Prop :=
  B ≤ ob ∧ B ≤ lb ∧ ob ≠ lb ∧ (∃ ov, Bx w ob tS [ov] ∧ Own w B κ.tP κ.pc ov D.length (D.flatMap κ.ce) ∧ ∀ k, F k ↔ k = ob ∨ k = lb ∨ Bl ov k) ∧ Bx w lb 3 [.int .i64 m] ∧ (∀ x9 ∈ D.map pk, Own w B 5 1 x9.1 x9.2.length (x9.2.map u8v)) ∧ (D.map pk).Pairwise (fun a b => Dj (Bl a.1) (Bl b.1))
theorem AccR.lt (T : AccR κ tS B ob lb m w D F) : ∀ k, F k → B ≤ k ∧ k < w.heap.size := fun k hk => by
  obtain ⟨h1, h2, _, ⟨ov, hB, hO, hF⟩, hL, _⟩ := T
  rcases (hF k).1 hk with rfl | rfl | hk
  · exact ⟨h1, hB.lt⟩
  · exact ⟨h2, hL.lt⟩
  · exact hO.lt k hk
theorem AccR.keepG (T : AccR κ tS B ob lb m w D F) (E : Gr w w' H) (hd : Dj F H) (hn : NoK w H) : AccR κ tS B ob lb m w' D F := by
  obtain ⟨h1, h2, h3, ⟨ov, hB, hO, hF⟩, hL, hk, hp⟩ := T
  exact ⟨h1, h2, h3, ⟨ov, hB.keepG E (hd _ ((hF _).2 (.inl rfl))), hO.keepG E (fun k hk => hd k ((hF k).2 (.inr (.inr hk)))), hF⟩, hL.keepG E (hd _ ((hF _).2 (.inr (.inl rfl)))), fun x9 hx => (hk x9 hx).keepG E (hn.key (hk x9 hx |>.mono (Nat.zero_le _))), hp⟩
variable {α : Type} {A : Nat → α → (Nat → Prop) → Prop} {ys9 : List α} {i : Nat} {a : α}
theorem Kids.get (K : Kids A P ys9 G) (hc : ys9[i]? = some a) : ∃ f, A (P.getD i default) a f ∧ ∀ k, f k → G k := by
  obtain ⟨f, G0, h1, _, _, h2, _⟩ := K.cutc hc
  exact ⟨f, h1, h2⟩
theorem pw_snoc {d : DP V} (h : (D.map pk).Pairwise (fun a b => Dj (Bl a.1) (Bl b.1))) (hd : ∀ a ∈ D.map pk, Dj (Bl a.1) (Bl d.1)) : ((D ++ [d]).map pk).Pairwise (fun a b => Dj (Bl a.1) (Bl b.1)) := by
  rw [List.map_append, List.pairwise_append]
  exact ⟨h, List.pairwise_singleton _ _, fun a ha b hb => by rw [show ([d] : List (DP V)).map pk = [pk d] from rfl, List.mem_singleton] at hb; subst hb; exact hd a ha⟩
theorem TreeR.later {h : Nat} {tr : Tr V h} (T : TreeR κ R w h p tr W) (E : Gr w w' (fun k => B ≤ k)) (hW : ∀ k, W k → k < B) (hR : ∀ k, R k → k < B) : TreeR κ R w' h p tr W :=
  T.keepR E (fun k hk hh => by have := hW k hk; omega) (fun k hk hh => by have := hR k hk; omega)
end
end Go.Gx
namespace Go.Bt
section
variable {V : Type} {h : Nat}
def geL (x : Ky) (l : List (Ky × V)) : List (Ky × V) := l.filter fun p => decide (x ≤ p.1)
theorem geL_app {x : Ky} {a b : List (Ky × V)} : geL x (a ++ b) = geL x a ++ geL x b := List.filter_append ..
theorem geL_none {x : Ky} {a : List (Ky × V)} (h : ∀ p ∈ a, p.1 < x) : geL x a = [] := by
  unfold geL; rw [List.filter_eq_nil_iff]; intro p hp; have := h p hp; simp only [decide_eq_true_eq]; grind
theorem geL_all {x : Ky} {a : List (Ky × V)} (h : ∀ p ∈ a, x ≤ p.1) : geL x a = a := by
  unfold geL; rw [List.filter_eq_self]; intro p hp; simpa using h p hp
theorem geL_leaf {x : Ky} {l : List (Ky × V)} (H : Sorted (l.map Prod.fst)) : geL x l = l.drop (pos (l.map Prod.fst) x) := by
  conv => lhs; rw [← List.take_append_drop (pos (l.map Prod.fst) x) l]
  have hl := pos_le (l.map Prod.fst) x
  rw [List.length_map] at hl
  rw [geL_app, geL_none, geL_all, List.nil_append]
  · intro p hp
    obtain ⟨q, hq, rfl⟩ := List.getElem_of_mem hp
    rw [List.length_drop] at hq
    rw [List.getElem_drop]
    have := pos_sorted H (x := x) (j := pos (l.map Prod.fst) x + q) (by simp; omega)
    simp only [List.getElem_map] at this
    grind
  · intro p hp
    obtain ⟨q, hq, rfl⟩ := List.getElem_of_mem hp
    rw [List.length_take] at hq
    rw [List.getElem_take]
    have := pos_sorted H (x := x) (j := q) (by simp; omega)
    simp only [List.getElem_map] at this
    grind
theorem geL_node {x : Ky} {ks : List Ky} {cs : List (Tr V h)} (N : Nd h ks cs) : geL x (cs.flatMap (toL h)) = (cs.drop (way ks x)).flatMap (fun c => geL x (toL h c)) := by
  have hl : way ks x < cs.length := by have := way_le ks x; have := N.1; omega
  conv => lhs; rw [← List.take_append_drop (way ks x) cs]
  rw [List.flatMap_append, geL_app, geL_none, List.nil_append]
  · generalize cs.drop (way ks x) = r
    induction r with
    | nil => rfl
    | cons c r ih => rw [List.flatMap_cons, geL_app, ih, List.flatMap_cons]
  · intro p hp
    obtain ⟨c, hc, hp⟩ := List.mem_flatMap.1 hp
    obtain ⟨q, hq, rfl⟩ := List.getElem_of_mem hc
    rw [List.length_take] at hq
    rw [List.getElem_take] at hp
    have := (N.2.2 q _ (List.getElem?_eq_getElem (by omega))).2 _ (dom_of_toL hp)
    exact lt_of_way (ks := ks) (by omega)
variable {α β : Type} {f : α → List β} {l : List α} {i j n : Nat} {c : α}
theorem scan_more (hc : l[i + j]? = some c) : ((l.drop i).take (j + 1)).flatMap f = ((l.drop i).take j).flatMap f ++ f c := by
  obtain ⟨hi, rfl⟩ := List.getElem?_eq_some_iff.1 hc
  have hj : j < (l.drop i).length := by rw [List.length_drop]; omega
  rw [← List.take_append_getElem hj, List.flatMap_append, List.getElem_drop]; simp
theorem geL_le {x : Ky} {l : List (Ky × V)} : (geL x l).length ≤ l.length := List.length_filter_le ..
theorem scan_room {x : Ky} {cs : List (Tr V h)} {i j : Nat} {c : Tr V h} (hc : cs[i + j]? = some c) : (((cs.drop i).take j).flatMap fun c => geL x (toL h c)).length + (toL h c).length ≤ (cs.flatMap (toL h)).length := by
  have h1 : ∀ l : List (Tr V h), (l.flatMap fun c => geL x (toL h c)).length ≤ (l.flatMap (toL h)).length := fun l => by
    induction l with
    | nil => exact Nat.le_refl _
    | cons a t ih => rw [List.flatMap_cons, List.flatMap_cons, List.length_append, List.length_append]; have := geL_le (x := x) (l := toL h a); omega
  obtain ⟨hl, rfl⟩ := List.getElem?_eq_some_iff.1 hc
  have e : cs = cs.take i ++ ((cs.drop i).take j ++ cs[i + j] :: cs.drop (i + j + 1)) := by
    rw [← List.drop_eq_getElem_cons hl, ← List.drop_drop, List.take_append_drop, List.take_append_drop]
  have h2 := h1 ((cs.drop i).take j)
  have e2 := congrArg (fun l => (l.flatMap (toL h)).length) e
  simp only [List.flatMap_append, List.flatMap_cons, List.length_append] at e2
  omega
theorem scan_le : ((l.take n).flatMap f).length ≤ (l.flatMap f).length := by
  conv => rhs; rw [← List.take_append_drop n l, List.flatMap_append, List.length_append]
  omega
theorem scan_cut (h : n ≤ ((l.take j).flatMap f).length) : (l.flatMap f).take n = ((l.take j).flatMap f).take n := by
  conv => lhs; rw [← List.take_append_drop j l, List.flatMap_append]
  rw [List.take_append_of_le_length h]
end
end Go.Bt

/- Walks, written by a program: what each function of the translation hands back. -/
namespace Go.Proofs.Ytcpfdfejojghbaa
open Go.Gx Go.RowKit
attribute [local irreducible] wpList wpStill Code.wp Calls
open Go.Bt
theorem yieldI {l : List UInt8} {kv : Value} {x : Int} {D : List (DP (Int))} {m : Int} {ob lb B : Nat} {F : Nat → Prop} {w : World} (hA : AccR kI 48 B ob lb m w D F) (hB : B ≤ w.heap.size) (hk : RdC w 0 w.heap.size 1 kv l.length (l.map u8v)) (hkn : l.length ≤ 1000000000) (hD : D.length ≤ 1000000) :
    Ret Try.prog 50 #[(Value.agg #[kv, (Value.int .i64 x)]), ptr ob 0, ptr lb 0] w (fun v' w' => Gr w w' F ∧ v' = .bool (decide (((D.length + 1 : Nat) : Int) < m)) ∧ ∃ kv' F', AccR kI 48 B ob lb m w' (D ++ [(kv', l, x)]) F' ∧ NewF w.heap.size F F') := by
  obtain ⟨h1, h2, h3, ⟨ov, hb, hO, hF⟩, hL, hks, hpw⟩ := hA
  refine (scan1I hB hb hL h3 hO hks hk hkn hD).mono fun v' w' h => ?_
  obtain ⟨E, hv, ov', kv', hb', hO', hks', hL', hm, hfr⟩ := h
  refine ⟨E.mono fun k _ hk => (hF k).2 (hk.elim .inl fun q => .inr (.inr q)), hv, kv', _, ⟨h1, h2, h3, ⟨ov', hb', hO', fun k => Iff.rfl⟩, hL', hks', pw_snoc hpw fun a ha k h q => by have := ((hks a ha).lt k h).2; have := hfr k q; omega⟩, fun k hk => ?_⟩
  rcases hk with hk | hk | hk
  · exact .inl ((hF k).2 (.inl hk))
  · exact .inl ((hF k).2 (.inr (.inl hk)))
  · rcases hm with hm | hm
    · exact .inl ((hF k).2 (.inr (.inr (hm.symm.trans hk))))
    · exact .inr (hm k hk)
theorem yieldS {l : List UInt8} {kv : Value} {x : List UInt8} {D : List (DP (List UInt8))} {m : Int} {ob lb B : Nat} {F : Nat → Prop} {w : World} (hA : AccR kS 89 B ob lb m w D F) (hB : B ≤ w.heap.size) (hk : RdC w 0 w.heap.size 1 kv l.length (l.map u8v)) (hkn : l.length ≤ 1000000000) (hD : D.length ≤ 1000000) :
    Ret Try.prog 79 #[(Value.agg #[kv, (Value.string (bs x))]), ptr ob 0, ptr lb 0] w (fun v' w' => Gr w w' F ∧ v' = .bool (decide (((D.length + 1 : Nat) : Int) < m)) ∧ ∃ kv' F', AccR kS 89 B ob lb m w' (D ++ [(kv', l, x)]) F' ∧ NewF w.heap.size F F') := by
  obtain ⟨h1, h2, h3, ⟨ov, hb, hO, hF⟩, hL, hks, hpw⟩ := hA
  refine (scan1S hB hb hL h3 hO hks hk hkn hD).mono fun v' w' h => ?_
  obtain ⟨E, hv, ov', kv', hb', hO', hks', hL', hm, hfr⟩ := h
  refine ⟨E.mono fun k _ hk => (hF k).2 (hk.elim .inl fun q => .inr (.inr q)), hv, kv', _, ⟨h1, h2, h3, ⟨ov', hb', hO', fun k => Iff.rfl⟩, hL', hks', pw_snoc hpw fun a ha k h q => by have := ((hks a ha).lt k h).2; have := hfr k q; omega⟩, fun k hk => ?_⟩
  rcases hk with hk | hk | hk
  · exact .inl ((hF k).2 (.inl hk))
  · exact .inl ((hF k).2 (.inr (.inl hk)))
  · rcases hm with hm | hm
    · exact .inl ((hF k).2 (.inr (.inr (hm.symm.trans hk))))
    · exact .inr (hm k hk)
theorem yieldA {l : List UInt8} {kv : Value} {x : Int × Int} {D : List (DP (Int × Int))} {m : Int} {ob lb B : Nat} {F : Nat → Prop} {w : World} (hA : AccR kA 102 B ob lb m w D F) (hB : B ≤ w.heap.size) (hk : RdC w 0 w.heap.size 1 kv l.length (l.map u8v)) (hkn : l.length ≤ 1000000000) (hD : D.length ≤ 1000000) :
    Ret Try.prog 77 #[(Value.agg #[kv, (Value.int .i64 x.1), (Value.int .i64 x.2)]), ptr ob 0, ptr lb 0] w (fun v' w' => Gr w w' F ∧ v' = .bool (decide (((D.length + 1 : Nat) : Int) < m)) ∧ ∃ kv' F', AccR kA 102 B ob lb m w' (D ++ [(kv', l, x)]) F' ∧ NewF w.heap.size F F') := by
  obtain ⟨h1, h2, h3, ⟨ov, hb, hO, hF⟩, hL, hks, hpw⟩ := hA
  refine (scan1A hB hb hL h3 hO hks hk hkn hD).mono fun v' w' h => ?_
  obtain ⟨E, hv, ov', kv', hb', hO', hks', hL', hm, hfr⟩ := h
  refine ⟨E.mono fun k _ hk => (hF k).2 (hk.elim .inl fun q => .inr (.inr q)), hv, kv', _, ⟨h1, h2, h3, ⟨ov', hb', hO', fun k => Iff.rfl⟩, hL', hks', pw_snoc hpw fun a ha k h q => by have := ((hks a ha).lt k h).2; have := hfr k q; omega⟩, fun k hk => ?_⟩
  rcases hk with hk | hk | hk
  · exact .inl ((hF k).2 (.inl hk))
  · exact .inl ((hF k).2 (.inr (.inl hk)))
  · rcases hm with hm | hm
    · exact .inl ((hF k).2 (.inr (.inr (hm.symm.trans hk))))
    · exact .inr (hm k hk)
end Go.Proofs.Ytcpfdfejojghbaa

/- Walks, written by a program: what each function of the translation hands back. -/
namespace Go.Proofs.Ytcpfdfejojghbaa
open Go.Gx Go.RowKit
attribute [local irreducible] wpList wpStill Code.wp Calls
open Go.Bt
theorem scanLI {x : List UInt8} {xv pv : Value} {D0 D : List (DP (Int))} {lim ob lb B p : Nat} {F : Nat → Prop} {w : World} (hx : Bx w p 115 [pv, .slice none 0 0, .slice none 0 0]) (op : Own w 0 51 2 pv D0.length (D0.flatMap cI)) (ks : ∀ x9 ∈ D0.map pk, Own w 0 5 1 x9.1 x9.2.length (x9.2.map u8v)) (hs : Sorted (kys D0)) (hn : D0.length ≤ 1000) (hop : RdC w 0 B 2 pv D0.length (D0.flatMap cI)) (hks : ∀ x9 ∈ D0.map pk, RdC w 0 B 1 x9.1 x9.2.length (x9.2.map u8v)) (hkl : ∀ x9 ∈ D0.map pk, x9.2.length ≤ 1000000000) (hxr : RdC w 0 B 1 xv x.length (x.map u8v)) (hA : AccR kI 48 B ob lb (lim : Int) w D F) (hB : B ≤ w.heap.size) (hD : D.length < lim) (hlim : lim ≤ 9223372036854775807) (hDM : D.length + D0.length ≤ 100000) : Ret Try.prog 49 #[(ptr p 0), xv, (Value.func (.func 50) #[] #[(ptr ob 0), (ptr lb 0)])] w (fun v' w' => Gr w w' (fun k => B ≤ k) ∧ v' = .bool (decide (D.length + ((D0.drop (pos (kys D0) x)).map Prod.snd).length < lim)) ∧ ∃ D2 F2, AccR kI 48 B ob lb (lim : Int) w' (D ++ D2) F2 ∧ D2.map Prod.snd = ((D0.drop (pos (kys D0) x)).map Prod.snd).take (lim - D.length)) := by
 have hdl : (D0.drop (pos (kys D0) x)).length = D0.length - (pos (kys D0) x) := List.length_drop
 have hpl := pos_leP (D := D0) (x := x)
 have hb := Gr.refl w (fun k => B ≤ k)
 refine enter (N := 56) Try.func49 rfl rfl (by simp) fun a0 hN hd hA => ?_
 have s0 : a0.tmps.getD 0 undef = (ptr p 0) := hA 0 (by simp)
 have s1 : a0.tmps.getD 1 undef = xv := hA 1 (by simp)
 have s2 : a0.tmps.getD 2 undef = (Value.func (.func 50) #[] #[(ptr ob 0), (ptr lb 0)]) := hA 2 (by simp)
 clear hA
 refine seq_any fun K3 hK3 => one_reg (op_assign rfl ?_)
 refine reg_nil (hK3 _ _ (seq_any fun K4 hK4 => seq_any fun K5 hK5 => one_reg (op_move (ev_base hN rfl s0) (op_fn (vs := [(ptr p 0)]) ok81 ⟨(ev_hit hN rfl), trivial⟩ (Ret.flip (leafLI hx op)) ?_))))
 rintro _ _ ⟨rfl, rfl⟩
 refine reg_nil (hK5 _ _ (wp_cond_true (ev_hit hN rfl) ?_))
 refine seq_any fun K6 hK6 => one_reg (op_move (ev_base hN rfl s0) (op_move (ev_base hN rfl s1) (op_fn (vs := [(ptr p 0), xv]) ok82 ⟨(ev_hit hN rfl), ⟨(ev_hit hN rfl), trivial⟩⟩ (findI hx op ks hs (by omega) (hxr.mono (Nat.zero_le _) (by omega))) ?_)))
 rintro _ w7 ⟨E10, rfl⟩
 have E10 := grown_of_below E10
 have z_w7 := E10.size
 have hx := hx.keep0 E10
 have hop := hop.keep0 E10
 have hks := all9 hks fun _ h => h.keep0 E10
 have hxr := hxr.keep0 E10
 have hA := hA.keepG (Gr.of0 E10 NoB) (fun _ _ h => h) (NoK.no _)
 have hb := hb.step0 E10
 refine op_move (ev_hit hN rfl) (op_extract (ev_hit hN rfl) rfl ?_)
 refine op_extract (ev_hit hN rfl) rfl ?_
 refine op_assign (ev_hit hN rfl) ?_
 refine op_assign (ev_hit hN rfl) ?_
 refine reg_nil (hK6 _ _ (seq_any fun K11 hK11 => seq_any fun K12 hK12 => ?_))
 refine one_reg (op_move (ev_base hN rfl s0) (op_nil (ev_hit hN rfl) (op_field fld115_0 (ev_hit hN rfl) (op_load1 (v := pv) one48 (ev_hit hN rfl) (hx.cell rfl) (op_move (ev_hit hN rfl) (op_slice_rd (lo := ((pos (kys D0) x))) (hi := D0.length) slt48 (ev_hit hN rfl) hop (.inr ⟨_, _, rfl, (ev_hit hN rfl)⟩) (.inl ⟨rfl, rfl⟩) (by omega) (by omega) ?_))))))
 intro v13 hR14
 have hR14 : RdC w7 0 B 2 v13 ((D0.drop (pos (kys D0) x)).length) (((D0.drop (pos (kys D0) x))).flatMap cI) := by exact hR14.cast (by simp) (by rw [flat_drop cI_len, List.take_of_length_le (by rw [flat_len9 cI_len]; simp)])
 refine op_len_rd Try.underlying48 (ev_hit hN rfl) hR14 ?_
 refine op_move rfl (reg_nil (hK12 _ _ (wp_block ?_)))
 refine loop_m (fun mz_ az_ w' => ∃ (i : Nat) (D2 : List (DP (Int))) (FA : Nat → Prop), mz_ = (D0.drop (pos (kys D0) x)).length - i ∧ (az_.tmps.getD 0 undef = (ptr p 0)) ∧ (az_.tmps.getD 1 undef = xv) ∧ (az_.tmps.getD 2 undef = (Value.func (.func 50) #[] #[(ptr ob 0), (ptr lb 0)])) ∧ (az_.tmps.getD 26 undef = v13) ∧ (az_.tmps.getD 27 undef = (Value.int .i64 ((((D0.drop (pos (kys D0) x)).length) : Nat) : Int))) ∧ (az_.tmps.getD 28 undef = (Value.int .i64 ((i : Nat) : Int))) ∧ (i ≤ (D0.drop (pos (kys D0) x)).length) ∧ (D2.map Prod.snd = ((D0.drop (pos (kys D0) x)).map Prod.snd).take i) ∧ (D2.length = i) ∧ (D.length + i < lim) ∧ (Gr w w' (fun k => B ≤ k)) ∧ (w7.heap.size ≤ w'.heap.size) ∧ (RdC w' 0 B 2 pv D0.length (D0.flatMap cI)) ∧ (∀ x9 ∈ (D0.map pk), RdC w' 0 B 1 x9.1 x9.2.length (x9.2.map u8v)) ∧ (RdC w' 0 B 1 xv x.length (x.map u8v)) ∧ (RdC w' 0 B 2 v13 ((D0.drop (pos (kys D0) x)).length) (((D0.drop (pos (kys D0) x))).flatMap cI)) ∧ (AccR kI 48 B ob lb (lim : Int) w' (D ++ D2) FA)) _ hN hd ⟨0, [], F, rfl, (sl_base hN rfl s0), (sl_base hN rfl s1), (sl_base hN rfl s2), (sl_hit hN rfl), (sl_hit hN rfl), (sl_hit hN rfl), (Nat.zero_le _), rfl, rfl, (by omega), hb, (Nat.le_refl _), hop, hks, hxr, hR14, (by simpa using hA)⟩ ?_
 rintro _ a15 w15 hN15 hd15 ⟨i, D2, FA, rfl, s15_0, s15_1, s15_2, s15_26, s15_27, s15_28, hi, hD2, hDl, hlt, hb, zl_w15, hop, hks, hxr, hR14, hAi⟩
 have z_w15 := hb.size
 refine seq_any fun K16 hK16 => ?_
 refine one_reg (op_lss (ev_base hN15 rfl s15_28) (ev_base hN15 rfl s15_27) (fun c29 => ?_) (fun c29 => ?_))
 · -- 29T
  refine reg_nil (hK16 _ _ (seq_any fun K17 hK17 => wp_cond_true (ev_hit hN15 rfl) ?_))
  refine wp_skip ?_
  refine hK17 _ _ (seq_any fun K18 hK18 => wp_block ?_)
  refine seq_any fun K19 hK19 => one_reg (op_index_rd slt48 (ev_base hN15 rfl s15_26) hR14 (ev_base hN15 rfl s15_28) (by omega) (by omega) ?_)
  intro b20 o21 h0b20 h1b20 hc22
  refine op_loadA (cs := [((D0.drop (pos (kys D0) x)).getD i default).1, (Value.int .i64 ((D0.drop (pos (kys D0) x)).getD i default).2.2)]) agg51 rfl (ev_hit hN15 rfl) (fun j u hu => hc22 j u (by have := (List.getElem?_eq_some_iff.1 hu).1; simpa using this) ((el_pI (i := i) (by omega) (by first | omega | (simp only [List.length_drop, List.length_take]; omega))) j u hu)) ?_
  refine op_alloc (cs := [(Value.slice none 0 0), (Value.int .i64 0)]) zero51 rfl ?_
  intro w23 b24 lo_b24 hi_b24 hB30 E25
  have dj31 : ¬ FA b24 := fun hf => by have := (hAi.lt _ hf).2; omega
  have z_w23 := E25.size
  have hop := hop.keep0 E25
  have hks := all9 hks fun _ h => h.keep0 E25
  have hxr := hxr.keep0 E25
  have hR14 := hR14.keep0 E25
  have hAi := hAi.keepG (Gr.of0 E25 NoB) (fun _ _ h => h) (NoK.no _)
  have hb := hb.step0 E25
  have hB30_old := hB30
  refine op_store (vs := [((D0.drop (pos (kys D0) x)).getD i default).1, (Value.int .i64 ((D0.drop (pos (kys D0) x)).getD i default).2.2)]) (cs' := [((D0.drop (pos (kys D0) x)).getD i default).1, (Value.int .i64 ((D0.drop (pos (kys D0) x)).getD i default).2.2)]) size51 (ev_hit hN15 rfl) (ev_hit hN15 rfl) rfl rfl (by simp only [List.all_cons, List.all_nil, Bool.true_and, Bool.and_true, (show RdC _ _ _ _ ((D0.drop (pos (kys D0) x)).getD i default).1 _ _ from hks (pk ((D0.drop (pos (kys D0) x)).getD i default)) (List.mem_map.2 ⟨((D0.drop (pos (kys D0) x)).getD i default), (List.mem_of_mem_drop (getD_mem (by first | omega | (simp only [List.length_drop, List.length_take]; omega)))), rfl⟩)).one]; try rfl) hB30 (Nat.le_of_ble_eq_true rfl) rfl ?_
  intro w32 hB30 E33
  have z_w32 := E33.size
  have hop := hop.keep E33 (fun k hk => .inr (by simp at hk; omega))
  have hks := all9 hks fun _ h => h.keep E33 (fun k hk => .inr (by simp at hk; omega))
  have hxr := hxr.keep E33 (fun k hk => .inr (by simp at hk; omega))
  have hR14 := hR14.keep E33 (fun k hk => .inr (by simp at hk; omega))
  have hAi := hAi.keepG (Gr.of E33) (Dj.one dj31) (NoK.ofBx hB30_old (by decide))
  have hb := hb.step1 E33 (by omega)
  refine reg_nil (hK19 _ _ (seq_any fun K35 hK35 => one_reg (op_move (ev_base hN15 rfl s15_2) (op_loadA (cs := [((D0.drop (pos (kys D0) x)).getD i default).1, (Value.int .i64 ((D0.drop (pos (kys D0) x)).getD i default).2.2)]) agg51 rfl (ev_hit hN15 rfl) (fun j u hu => by rw [Nat.zero_add]; exact hB30.cell hu) ?_))))
  refine op_fnv (fs := []) (vs := [(Value.agg #[((D0.drop (pos (kys D0) x)).getD i default).1, (Value.int .i64 ((D0.drop (pos (kys D0) x)).getD i default).2.2)])]) (cs := [(ptr ob 0), (ptr lb 0)]) (ev_hit hN15 rfl) ok50 ⟨(ev_hit hN15 rfl), trivial⟩ (yieldI (l := ((D0.drop (pos (kys D0) x)).getD i default).2.1) (x := ((D0.drop (pos (kys D0) x)).getD i default).2.2) hAi (by omega) (((hks _ (List.mem_map.2 ⟨((D0.drop (pos (kys D0) x)).getD i default), List.mem_of_mem_drop (getD_mem (by simp; omega)), rfl⟩))).mono (Nat.le_refl _) (by omega)) ((hkl _ (List.mem_map.2 ⟨((D0.drop (pos (kys D0) x)).getD i default), List.mem_of_mem_drop (getD_mem (by simp; omega)), rfl⟩))) (by simp; omega)) ?_
  rintro _ w37 ⟨E38, rfl, kv36, F2_36, hA36, hN36⟩
  have bd39 := hB30.lt
  have hAi_old := hAi
  have z_w37 := E38.size
  have hop := hop.keepG E38 (fun k hk => .inr (by have := hAi_old.lt k hk; omega))
  have hks := all9 hks fun _ h => h.keepG E38 (fun k hk => .inr (by have := hAi_old.lt k hk; omega))
  have hxr := hxr.keepG E38 (fun k hk => .inr (by have := hAi_old.lt k hk; omega))
  have hR14 := hR14.keepG E38 (fun k hk => .inr (by have := hAi_old.lt k hk; omega))
  have hb := hb.stepF E38 (fun k _ h => (hAi_old.lt k h).1)
  rcases Bool.eq_false_or_eq_true ((decide (((((D ++ D2)).length + 1 : Nat) : Int) < (lim : Int)))) with c34 | c34
  · -- 34T
   rw [c34]
   refine op_not (ev_hit hN15 rfl) ?_
   refine reg_nil (hK35 _ _ (wp_cond_false (ev_hit hN15 rfl) ?_))
   refine wp_skip ?_
   refine hK18 _ _ (one_reg (op_add (ev_base hN15 rfl s15_28) rfl (add64 (by omega)) ?_))
   refine op_move (ev_hit hN15 rfl) (reg_nil ?_)
   -- round 29T 34T
   exact loop_next _ hN15 hd15 ⟨(i + 1), (D2 ++ [(kv36, ((D0.drop (pos (kys D0) x)).getD i default).2.1, ((D0.drop (pos (kys D0) x)).getD i default).2.2)]), F2_36, rfl, (sl_base hN15 rfl s15_0), (sl_base hN15 rfl s15_1), (sl_base hN15 rfl s15_2), (sl_base hN15 rfl s15_26), (sl_base hN15 rfl s15_27), (sl_hit hN15 rfl).trans (congrArg (Value.int .i64) (by omega)), (by omega), (by rw [List.map_append, hD2, take9 (d := default) (by simp; omega), getD_map9 (by omega)]; rfl), (by rw [List.length_append, hDl]; rfl), (by have h9 := of_decide_eq_true c34; simp only [List.length_append, hDl] at h9; omega), hb, (by omega), hop, hks, hxr, hR14, (by simpa using hA36)⟩ (by omega)
  · -- 34F
   rw [c34]
   refine op_not (ev_hit hN15 rfl) ?_
   refine reg_nil (hK35 _ _ (wp_cond_true (ev_hit hN15 rfl) ?_))
   refine seq_any fun K40 hK40 => one_reg (op_assign rfl (reg_nil (hK40 _ _ (wp_ret (blk_ret (then_ret (then_ret (blk_ret (then_ret (then_ret ( ?_)))))))))))
   refine ret1 rfl hd15 (ev_hit hN15 rfl) ⟨_, rfl, ?_⟩
   have h9 := of_decide_eq_false c34
   simp only [List.length_append, hDl] at h9
   exact ⟨hb, congrArg Value.bool (decide_eq_false (by rw [List.length_map]; omega)).symm, D2 ++ [(kv36, ((D0.drop (pos (kys D0) x)).getD i default).2.1, ((D0.drop (pos (kys D0) x)).getD i default).2.2)], F2_36, by simpa using hA36, by rw [show lim - D.length = i + 1 by omega, List.map_append, hD2, take9 (d := default) (by simp; omega), getD_map9 (by omega)]; rfl⟩
 · -- 29F
  refine reg_nil (hK16 _ _ (seq_any fun K41 hK41 => wp_cond_false (ev_hit hN15 rfl) ?_))
  refine wp_exit (then_exit (then_exit (blk_hit ?_)))
  refine hK11 _ _ (seq_any fun K42 hK42 => one_reg (op_assign rfl (reg_nil (hK42 _ _ (wp_ret (then_ret ( ?_)))))))
  refine ret1 rfl hd15 (ev_hit hN15 rfl) ⟨_, rfl, ?_⟩
  exact ⟨hb, congrArg Value.bool (decide_eq_true (by rw [List.length_map]; omega)).symm, D2, FA, hAi, by rw [hD2, List.take_of_length_le (by simp; omega), List.take_of_length_le (by simp; omega)]⟩

theorem scanLS {x : List UInt8} {xv pv : Value} {D0 D : List (DP (List UInt8))} {lim ob lb B p : Nat} {F : Nat → Prop} {w : World} (hx : Bx w p 93 [pv, .slice none 0 0, .slice none 0 0]) (op : Own w 0 98 2 pv D0.length (D0.flatMap cS)) (ks : ∀ x9 ∈ D0.map pk, Own w 0 5 1 x9.1 x9.2.length (x9.2.map u8v)) (hs : Sorted (kys D0)) (hn : D0.length ≤ 1000) (hop : RdC w 0 B 2 pv D0.length (D0.flatMap cS)) (hks : ∀ x9 ∈ D0.map pk, RdC w 0 B 1 x9.1 x9.2.length (x9.2.map u8v)) (hkl : ∀ x9 ∈ D0.map pk, x9.2.length ≤ 1000000000) (hxr : RdC w 0 B 1 xv x.length (x.map u8v)) (hA : AccR kS 89 B ob lb (lim : Int) w D F) (hB : B ≤ w.heap.size) (hD : D.length < lim) (hlim : lim ≤ 9223372036854775807) (hDM : D.length + D0.length ≤ 100000) : Ret Try.prog 78 #[(ptr p 0), xv, (Value.func (.func 79) #[] #[(ptr ob 0), (ptr lb 0)])] w (fun v' w' => Gr w w' (fun k => B ≤ k) ∧ v' = .bool (decide (D.length + ((D0.drop (pos (kys D0) x)).map Prod.snd).length < lim)) ∧ ∃ D2 F2, AccR kS 89 B ob lb (lim : Int) w' (D ++ D2) F2 ∧ D2.map Prod.snd = ((D0.drop (pos (kys D0) x)).map Prod.snd).take (lim - D.length)) := by
 have hdl : (D0.drop (pos (kys D0) x)).length = D0.length - (pos (kys D0) x) := List.length_drop
 have hpl := pos_leP (D := D0) (x := x)
 have hb := Gr.refl w (fun k => B ≤ k)
 refine enter (N := 56) Try.func78 rfl rfl (by simp) fun a0 hN hd hA => ?_
 have s0 : a0.tmps.getD 0 undef = (ptr p 0) := hA 0 (by simp)
 have s1 : a0.tmps.getD 1 undef = xv := hA 1 (by simp)
 have s2 : a0.tmps.getD 2 undef = (Value.func (.func 79) #[] #[(ptr ob 0), (ptr lb 0)]) := hA 2 (by simp)
 clear hA
 refine seq_any fun K3 hK3 => one_reg (op_assign rfl ?_)
 refine reg_nil (hK3 _ _ (seq_any fun K4 hK4 => seq_any fun K5 hK5 => one_reg (op_move (ev_base hN rfl s0) (op_fn (vs := [(ptr p 0)]) ok63 ⟨(ev_hit hN rfl), trivial⟩ (Ret.flip (leafLS hx op)) ?_))))
 rintro _ _ ⟨rfl, rfl⟩
 refine reg_nil (hK5 _ _ (wp_cond_true (ev_hit hN rfl) ?_))
 refine seq_any fun K6 hK6 => one_reg (op_move (ev_base hN rfl s0) (op_move (ev_base hN rfl s1) (op_fn (vs := [(ptr p 0), xv]) ok64 ⟨(ev_hit hN rfl), ⟨(ev_hit hN rfl), trivial⟩⟩ (findS hx op ks hs (by omega) (hxr.mono (Nat.zero_le _) (by omega))) ?_)))
 rintro _ w7 ⟨E10, rfl⟩
 have E10 := grown_of_below E10
 have z_w7 := E10.size
 have hx := hx.keep0 E10
 have hop := hop.keep0 E10
 have hks := all9 hks fun _ h => h.keep0 E10
 have hxr := hxr.keep0 E10
 have hA := hA.keepG (Gr.of0 E10 NoB) (fun _ _ h => h) (NoK.no _)
 have hb := hb.step0 E10
 refine op_move (ev_hit hN rfl) (op_extract (ev_hit hN rfl) rfl ?_)
 refine op_extract (ev_hit hN rfl) rfl ?_
 refine op_assign (ev_hit hN rfl) ?_
 refine op_assign (ev_hit hN rfl) ?_
 refine reg_nil (hK6 _ _ (seq_any fun K11 hK11 => seq_any fun K12 hK12 => ?_))
 refine one_reg (op_move (ev_base hN rfl s0) (op_nil (ev_hit hN rfl) (op_field fld93_0 (ev_hit hN rfl) (op_load1 (v := pv) one89 (ev_hit hN rfl) (hx.cell rfl) (op_move (ev_hit hN rfl) (op_slice_rd (lo := ((pos (kys D0) x))) (hi := D0.length) slt89 (ev_hit hN rfl) hop (.inr ⟨_, _, rfl, (ev_hit hN rfl)⟩) (.inl ⟨rfl, rfl⟩) (by omega) (by omega) ?_))))))
 intro v13 hR14
 have hR14 : RdC w7 0 B 2 v13 ((D0.drop (pos (kys D0) x)).length) (((D0.drop (pos (kys D0) x))).flatMap cS) := by exact hR14.cast (by simp) (by rw [flat_drop cS_len, List.take_of_length_le (by rw [flat_len9 cS_len]; simp)])
 refine op_len_rd Try.underlying89 (ev_hit hN rfl) hR14 ?_
 refine op_move rfl (reg_nil (hK12 _ _ (wp_block ?_)))
 refine loop_m (fun mz_ az_ w' => ∃ (i : Nat) (D2 : List (DP (List UInt8))) (FA : Nat → Prop), mz_ = (D0.drop (pos (kys D0) x)).length - i ∧ (az_.tmps.getD 0 undef = (ptr p 0)) ∧ (az_.tmps.getD 1 undef = xv) ∧ (az_.tmps.getD 2 undef = (Value.func (.func 79) #[] #[(ptr ob 0), (ptr lb 0)])) ∧ (az_.tmps.getD 26 undef = v13) ∧ (az_.tmps.getD 27 undef = (Value.int .i64 ((((D0.drop (pos (kys D0) x)).length) : Nat) : Int))) ∧ (az_.tmps.getD 28 undef = (Value.int .i64 ((i : Nat) : Int))) ∧ (i ≤ (D0.drop (pos (kys D0) x)).length) ∧ (D2.map Prod.snd = ((D0.drop (pos (kys D0) x)).map Prod.snd).take i) ∧ (D2.length = i) ∧ (D.length + i < lim) ∧ (Gr w w' (fun k => B ≤ k)) ∧ (w7.heap.size ≤ w'.heap.size) ∧ (RdC w' 0 B 2 pv D0.length (D0.flatMap cS)) ∧ (∀ x9 ∈ (D0.map pk), RdC w' 0 B 1 x9.1 x9.2.length (x9.2.map u8v)) ∧ (RdC w' 0 B 1 xv x.length (x.map u8v)) ∧ (RdC w' 0 B 2 v13 ((D0.drop (pos (kys D0) x)).length) (((D0.drop (pos (kys D0) x))).flatMap cS)) ∧ (AccR kS 89 B ob lb (lim : Int) w' (D ++ D2) FA)) _ hN hd ⟨0, [], F, rfl, (sl_base hN rfl s0), (sl_base hN rfl s1), (sl_base hN rfl s2), (sl_hit hN rfl), (sl_hit hN rfl), (sl_hit hN rfl), (Nat.zero_le _), rfl, rfl, (by omega), hb, (Nat.le_refl _), hop, hks, hxr, hR14, (by simpa using hA)⟩ ?_
 rintro _ a15 w15 hN15 hd15 ⟨i, D2, FA, rfl, s15_0, s15_1, s15_2, s15_26, s15_27, s15_28, hi, hD2, hDl, hlt, hb, zl_w15, hop, hks, hxr, hR14, hAi⟩
 have z_w15 := hb.size
 refine seq_any fun K16 hK16 => ?_
 refine one_reg (op_lss (ev_base hN15 rfl s15_28) (ev_base hN15 rfl s15_27) (fun c29 => ?_) (fun c29 => ?_))
 · -- 29T
  refine reg_nil (hK16 _ _ (seq_any fun K17 hK17 => wp_cond_true (ev_hit hN15 rfl) ?_))
  refine wp_skip ?_
  refine hK17 _ _ (seq_any fun K18 hK18 => wp_block ?_)
  refine seq_any fun K19 hK19 => one_reg (op_index_rd slt89 (ev_base hN15 rfl s15_26) hR14 (ev_base hN15 rfl s15_28) (by omega) (by omega) ?_)
  intro b20 o21 h0b20 h1b20 hc22
  refine op_loadA (cs := [((D0.drop (pos (kys D0) x)).getD i default).1, (Value.string (bs ((D0.drop (pos (kys D0) x)).getD i default).2.2))]) agg98 rfl (ev_hit hN15 rfl) (fun j u hu => hc22 j u (by have := (List.getElem?_eq_some_iff.1 hu).1; simpa using this) ((el_pS (i := i) (by omega) (by first | omega | (simp only [List.length_drop, List.length_take]; omega))) j u hu)) ?_
  refine op_alloc (cs := [(Value.slice none 0 0), (Value.string (bs []))]) zero98 rfl ?_
  intro w23 b24 lo_b24 hi_b24 hB30 E25
  have dj31 : ¬ FA b24 := fun hf => by have := (hAi.lt _ hf).2; omega
  have z_w23 := E25.size
  have hop := hop.keep0 E25
  have hks := all9 hks fun _ h => h.keep0 E25
  have hxr := hxr.keep0 E25
  have hR14 := hR14.keep0 E25
  have hAi := hAi.keepG (Gr.of0 E25 NoB) (fun _ _ h => h) (NoK.no _)
  have hb := hb.step0 E25
  have hB30_old := hB30
  refine op_store (vs := [((D0.drop (pos (kys D0) x)).getD i default).1, (Value.string (bs ((D0.drop (pos (kys D0) x)).getD i default).2.2))]) (cs' := [((D0.drop (pos (kys D0) x)).getD i default).1, (Value.string (bs ((D0.drop (pos (kys D0) x)).getD i default).2.2))]) size98 (ev_hit hN15 rfl) (ev_hit hN15 rfl) rfl rfl (by simp only [List.all_cons, List.all_nil, Bool.true_and, Bool.and_true, (show RdC _ _ _ _ ((D0.drop (pos (kys D0) x)).getD i default).1 _ _ from hks (pk ((D0.drop (pos (kys D0) x)).getD i default)) (List.mem_map.2 ⟨((D0.drop (pos (kys D0) x)).getD i default), (List.mem_of_mem_drop (getD_mem (by first | omega | (simp only [List.length_drop, List.length_take]; omega)))), rfl⟩)).one]; try rfl) hB30 (Nat.le_of_ble_eq_true rfl) rfl ?_
  intro w32 hB30 E33
  have z_w32 := E33.size
  have hop := hop.keep E33 (fun k hk => .inr (by simp at hk; omega))
  have hks := all9 hks fun _ h => h.keep E33 (fun k hk => .inr (by simp at hk; omega))
  have hxr := hxr.keep E33 (fun k hk => .inr (by simp at hk; omega))
  have hR14 := hR14.keep E33 (fun k hk => .inr (by simp at hk; omega))
  have hAi := hAi.keepG (Gr.of E33) (Dj.one dj31) (NoK.ofBx hB30_old (by decide))
  have hb := hb.step1 E33 (by omega)
  refine reg_nil (hK19 _ _ (seq_any fun K35 hK35 => one_reg (op_move (ev_base hN15 rfl s15_2) (op_loadA (cs := [((D0.drop (pos (kys D0) x)).getD i default).1, (Value.string (bs ((D0.drop (pos (kys D0) x)).getD i default).2.2))]) agg98 rfl (ev_hit hN15 rfl) (fun j u hu => by rw [Nat.zero_add]; exact hB30.cell hu) ?_))))
  refine op_fnv (fs := []) (vs := [(Value.agg #[((D0.drop (pos (kys D0) x)).getD i default).1, (Value.string (bs ((D0.drop (pos (kys D0) x)).getD i default).2.2))])]) (cs := [(ptr ob 0), (ptr lb 0)]) (ev_hit hN15 rfl) ok79 ⟨(ev_hit hN15 rfl), trivial⟩ (yieldS (l := ((D0.drop (pos (kys D0) x)).getD i default).2.1) (x := ((D0.drop (pos (kys D0) x)).getD i default).2.2) hAi (by omega) (((hks _ (List.mem_map.2 ⟨((D0.drop (pos (kys D0) x)).getD i default), List.mem_of_mem_drop (getD_mem (by simp; omega)), rfl⟩))).mono (Nat.le_refl _) (by omega)) ((hkl _ (List.mem_map.2 ⟨((D0.drop (pos (kys D0) x)).getD i default), List.mem_of_mem_drop (getD_mem (by simp; omega)), rfl⟩))) (by simp; omega)) ?_
  rintro _ w37 ⟨E38, rfl, kv36, F2_36, hA36, hN36⟩
  have bd39 := hB30.lt
  have hAi_old := hAi
  have z_w37 := E38.size
  have hop := hop.keepG E38 (fun k hk => .inr (by have := hAi_old.lt k hk; omega))
  have hks := all9 hks fun _ h => h.keepG E38 (fun k hk => .inr (by have := hAi_old.lt k hk; omega))
  have hxr := hxr.keepG E38 (fun k hk => .inr (by have := hAi_old.lt k hk; omega))
  have hR14 := hR14.keepG E38 (fun k hk => .inr (by have := hAi_old.lt k hk; omega))
  have hb := hb.stepF E38 (fun k _ h => (hAi_old.lt k h).1)
  rcases Bool.eq_false_or_eq_true ((decide (((((D ++ D2)).length + 1 : Nat) : Int) < (lim : Int)))) with c34 | c34
  · -- 34T
   rw [c34]
   refine op_not (ev_hit hN15 rfl) ?_
   refine reg_nil (hK35 _ _ (wp_cond_false (ev_hit hN15 rfl) ?_))
   refine wp_skip ?_
   refine hK18 _ _ (one_reg (op_add (ev_base hN15 rfl s15_28) rfl (add64 (by omega)) ?_))
   refine op_move (ev_hit hN15 rfl) (reg_nil ?_)
   -- round 29T 34T
   exact loop_next _ hN15 hd15 ⟨(i + 1), (D2 ++ [(kv36, ((D0.drop (pos (kys D0) x)).getD i default).2.1, ((D0.drop (pos (kys D0) x)).getD i default).2.2)]), F2_36, rfl, (sl_base hN15 rfl s15_0), (sl_base hN15 rfl s15_1), (sl_base hN15 rfl s15_2), (sl_base hN15 rfl s15_26), (sl_base hN15 rfl s15_27), (sl_hit hN15 rfl).trans (congrArg (Value.int .i64) (by omega)), (by omega), (by rw [List.map_append, hD2, take9 (d := default) (by simp; omega), getD_map9 (by omega)]; rfl), (by rw [List.length_append, hDl]; rfl), (by have h9 := of_decide_eq_true c34; simp only [List.length_append, hDl] at h9; omega), hb, (by omega), hop, hks, hxr, hR14, (by simpa using hA36)⟩ (by omega)
  · -- 34F
   rw [c34]
   refine op_not (ev_hit hN15 rfl) ?_
   refine reg_nil (hK35 _ _ (wp_cond_true (ev_hit hN15 rfl) ?_))
   refine seq_any fun K40 hK40 => one_reg (op_assign rfl (reg_nil (hK40 _ _ (wp_ret (blk_ret (then_ret (then_ret (blk_ret (then_ret (then_ret ( ?_)))))))))))
   refine ret1 rfl hd15 (ev_hit hN15 rfl) ⟨_, rfl, ?_⟩
   have h9 := of_decide_eq_false c34
   simp only [List.length_append, hDl] at h9
   exact ⟨hb, congrArg Value.bool (decide_eq_false (by rw [List.length_map]; omega)).symm, D2 ++ [(kv36, ((D0.drop (pos (kys D0) x)).getD i default).2.1, ((D0.drop (pos (kys D0) x)).getD i default).2.2)], F2_36, by simpa using hA36, by rw [show lim - D.length = i + 1 by omega, List.map_append, hD2, take9 (d := default) (by simp; omega), getD_map9 (by omega)]; rfl⟩
 · -- 29F
  refine reg_nil (hK16 _ _ (seq_any fun K41 hK41 => wp_cond_false (ev_hit hN15 rfl) ?_))
  refine wp_exit (then_exit (then_exit (blk_hit ?_)))
  refine hK11 _ _ (seq_any fun K42 hK42 => one_reg (op_assign rfl (reg_nil (hK42 _ _ (wp_ret (then_ret ( ?_)))))))
  refine ret1 rfl hd15 (ev_hit hN15 rfl) ⟨_, rfl, ?_⟩
  exact ⟨hb, congrArg Value.bool (decide_eq_true (by rw [List.length_map]; omega)).symm, D2, FA, hAi, by rw [hD2, List.take_of_length_le (by simp; omega), List.take_of_length_le (by simp; omega)]⟩

theorem scanLA {x : List UInt8} {xv pv : Value} {D0 D : List (DP (Int × Int))} {lim ob lb B p : Nat} {F : Nat → Prop} {w : World} (hx : Bx w p 105 [pv, .slice none 0 0, .slice none 0 0]) (op : Own w 0 109 3 pv D0.length (D0.flatMap cA)) (ks : ∀ x9 ∈ D0.map pk, Own w 0 5 1 x9.1 x9.2.length (x9.2.map u8v)) (hs : Sorted (kys D0)) (hn : D0.length ≤ 1000) (hop : RdC w 0 B 3 pv D0.length (D0.flatMap cA)) (hks : ∀ x9 ∈ D0.map pk, RdC w 0 B 1 x9.1 x9.2.length (x9.2.map u8v)) (hkl : ∀ x9 ∈ D0.map pk, x9.2.length ≤ 1000000000) (hxr : RdC w 0 B 1 xv x.length (x.map u8v)) (hA : AccR kA 102 B ob lb (lim : Int) w D F) (hB : B ≤ w.heap.size) (hD : D.length < lim) (hlim : lim ≤ 9223372036854775807) (hDM : D.length + D0.length ≤ 100000) : Ret Try.prog 76 #[(ptr p 0), xv, (Value.func (.func 77) #[] #[(ptr ob 0), (ptr lb 0)])] w (fun v' w' => Gr w w' (fun k => B ≤ k) ∧ v' = .bool (decide (D.length + ((D0.drop (pos (kys D0) x)).map Prod.snd).length < lim)) ∧ ∃ D2 F2, AccR kA 102 B ob lb (lim : Int) w' (D ++ D2) F2 ∧ D2.map Prod.snd = ((D0.drop (pos (kys D0) x)).map Prod.snd).take (lim - D.length)) := by
 have hdl : (D0.drop (pos (kys D0) x)).length = D0.length - (pos (kys D0) x) := List.length_drop
 have hpl := pos_leP (D := D0) (x := x)
 have hb := Gr.refl w (fun k => B ≤ k)
 refine enter (N := 56) Try.func76 rfl rfl (by simp) fun a0 hN hd hA => ?_
 have s0 : a0.tmps.getD 0 undef = (ptr p 0) := hA 0 (by simp)
 have s1 : a0.tmps.getD 1 undef = xv := hA 1 (by simp)
 have s2 : a0.tmps.getD 2 undef = (Value.func (.func 77) #[] #[(ptr ob 0), (ptr lb 0)]) := hA 2 (by simp)
 clear hA
 refine seq_any fun K3 hK3 => one_reg (op_assign rfl ?_)
 refine reg_nil (hK3 _ _ (seq_any fun K4 hK4 => seq_any fun K5 hK5 => one_reg (op_move (ev_base hN rfl s0) (op_fn (vs := [(ptr p 0)]) ok70 ⟨(ev_hit hN rfl), trivial⟩ (Ret.flip (leafLA hx op)) ?_))))
 rintro _ _ ⟨rfl, rfl⟩
 refine reg_nil (hK5 _ _ (wp_cond_true (ev_hit hN rfl) ?_))
 refine seq_any fun K6 hK6 => one_reg (op_move (ev_base hN rfl s0) (op_move (ev_base hN rfl s1) (op_fn (vs := [(ptr p 0), xv]) ok71 ⟨(ev_hit hN rfl), ⟨(ev_hit hN rfl), trivial⟩⟩ (findA hx op ks hs (by omega) (hxr.mono (Nat.zero_le _) (by omega))) ?_)))
 rintro _ w7 ⟨E10, rfl⟩
 have E10 := grown_of_below E10
 have z_w7 := E10.size
 have hx := hx.keep0 E10
 have hop := hop.keep0 E10
 have hks := all9 hks fun _ h => h.keep0 E10
 have hxr := hxr.keep0 E10
 have hA := hA.keepG (Gr.of0 E10 NoB) (fun _ _ h => h) (NoK.no _)
 have hb := hb.step0 E10
 refine op_move (ev_hit hN rfl) (op_extract (ev_hit hN rfl) rfl ?_)
 refine op_extract (ev_hit hN rfl) rfl ?_
 refine op_assign (ev_hit hN rfl) ?_
 refine op_assign (ev_hit hN rfl) ?_
 refine reg_nil (hK6 _ _ (seq_any fun K11 hK11 => seq_any fun K12 hK12 => ?_))
 refine one_reg (op_move (ev_base hN rfl s0) (op_nil (ev_hit hN rfl) (op_field fld105_0 (ev_hit hN rfl) (op_load1 (v := pv) one102 (ev_hit hN rfl) (hx.cell rfl) (op_move (ev_hit hN rfl) (op_slice_rd (lo := ((pos (kys D0) x))) (hi := D0.length) slt102 (ev_hit hN rfl) hop (.inr ⟨_, _, rfl, (ev_hit hN rfl)⟩) (.inl ⟨rfl, rfl⟩) (by omega) (by omega) ?_))))))
 intro v13 hR14
 have hR14 : RdC w7 0 B 3 v13 ((D0.drop (pos (kys D0) x)).length) (((D0.drop (pos (kys D0) x))).flatMap cA) := by exact hR14.cast (by simp) (by rw [flat_drop cA_len, List.take_of_length_le (by rw [flat_len9 cA_len]; simp)])
 refine op_len_rd Try.underlying102 (ev_hit hN rfl) hR14 ?_
 refine op_move rfl (reg_nil (hK12 _ _ (wp_block ?_)))
 refine loop_m (fun mz_ az_ w' => ∃ (i : Nat) (D2 : List (DP (Int × Int))) (FA : Nat → Prop), mz_ = (D0.drop (pos (kys D0) x)).length - i ∧ (az_.tmps.getD 0 undef = (ptr p 0)) ∧ (az_.tmps.getD 1 undef = xv) ∧ (az_.tmps.getD 2 undef = (Value.func (.func 77) #[] #[(ptr ob 0), (ptr lb 0)])) ∧ (az_.tmps.getD 26 undef = v13) ∧ (az_.tmps.getD 27 undef = (Value.int .i64 ((((D0.drop (pos (kys D0) x)).length) : Nat) : Int))) ∧ (az_.tmps.getD 28 undef = (Value.int .i64 ((i : Nat) : Int))) ∧ (i ≤ (D0.drop (pos (kys D0) x)).length) ∧ (D2.map Prod.snd = ((D0.drop (pos (kys D0) x)).map Prod.snd).take i) ∧ (D2.length = i) ∧ (D.length + i < lim) ∧ (Gr w w' (fun k => B ≤ k)) ∧ (w7.heap.size ≤ w'.heap.size) ∧ (RdC w' 0 B 3 pv D0.length (D0.flatMap cA)) ∧ (∀ x9 ∈ (D0.map pk), RdC w' 0 B 1 x9.1 x9.2.length (x9.2.map u8v)) ∧ (RdC w' 0 B 1 xv x.length (x.map u8v)) ∧ (RdC w' 0 B 3 v13 ((D0.drop (pos (kys D0) x)).length) (((D0.drop (pos (kys D0) x))).flatMap cA)) ∧ (AccR kA 102 B ob lb (lim : Int) w' (D ++ D2) FA)) _ hN hd ⟨0, [], F, rfl, (sl_base hN rfl s0), (sl_base hN rfl s1), (sl_base hN rfl s2), (sl_hit hN rfl), (sl_hit hN rfl), (sl_hit hN rfl), (Nat.zero_le _), rfl, rfl, (by omega), hb, (Nat.le_refl _), hop, hks, hxr, hR14, (by simpa using hA)⟩ ?_
 rintro _ a15 w15 hN15 hd15 ⟨i, D2, FA, rfl, s15_0, s15_1, s15_2, s15_26, s15_27, s15_28, hi, hD2, hDl, hlt, hb, zl_w15, hop, hks, hxr, hR14, hAi⟩
 have z_w15 := hb.size
 refine seq_any fun K16 hK16 => ?_
 refine one_reg (op_lss (ev_base hN15 rfl s15_28) (ev_base hN15 rfl s15_27) (fun c29 => ?_) (fun c29 => ?_))
 · -- 29T
  refine reg_nil (hK16 _ _ (seq_any fun K17 hK17 => wp_cond_true (ev_hit hN15 rfl) ?_))
  refine wp_skip ?_
  refine hK17 _ _ (seq_any fun K18 hK18 => wp_block ?_)
  refine seq_any fun K19 hK19 => one_reg (op_index_rd slt102 (ev_base hN15 rfl s15_26) hR14 (ev_base hN15 rfl s15_28) (by omega) (by omega) ?_)
  intro b20 o21 h0b20 h1b20 hc22
  refine op_loadA (cs := [((D0.drop (pos (kys D0) x)).getD i default).1, (Value.int .i64 ((D0.drop (pos (kys D0) x)).getD i default).2.2.1), (Value.int .i64 ((D0.drop (pos (kys D0) x)).getD i default).2.2.2)]) agg109 rfl (ev_hit hN15 rfl) (fun j u hu => hc22 j u (by have := (List.getElem?_eq_some_iff.1 hu).1; simpa using this) ((el_pA (i := i) (by omega) (by first | omega | (simp only [List.length_drop, List.length_take]; omega))) j u hu)) ?_
  refine op_alloc (cs := [(Value.slice none 0 0), (Value.int .i64 0), (Value.int .i64 0)]) zero109 rfl ?_
  intro w23 b24 lo_b24 hi_b24 hB30 E25
  have dj31 : ¬ FA b24 := fun hf => by have := (hAi.lt _ hf).2; omega
  have z_w23 := E25.size
  have hop := hop.keep0 E25
  have hks := all9 hks fun _ h => h.keep0 E25
  have hxr := hxr.keep0 E25
  have hR14 := hR14.keep0 E25
  have hAi := hAi.keepG (Gr.of0 E25 NoB) (fun _ _ h => h) (NoK.no _)
  have hb := hb.step0 E25
  have hB30_old := hB30
  refine op_store (vs := [((D0.drop (pos (kys D0) x)).getD i default).1, (Value.int .i64 ((D0.drop (pos (kys D0) x)).getD i default).2.2.1), (Value.int .i64 ((D0.drop (pos (kys D0) x)).getD i default).2.2.2)]) (cs' := [((D0.drop (pos (kys D0) x)).getD i default).1, (Value.int .i64 ((D0.drop (pos (kys D0) x)).getD i default).2.2.1), (Value.int .i64 ((D0.drop (pos (kys D0) x)).getD i default).2.2.2)]) size109 (ev_hit hN15 rfl) (ev_hit hN15 rfl) rfl rfl (by simp only [List.all_cons, List.all_nil, Bool.true_and, Bool.and_true, (show RdC _ _ _ _ ((D0.drop (pos (kys D0) x)).getD i default).1 _ _ from hks (pk ((D0.drop (pos (kys D0) x)).getD i default)) (List.mem_map.2 ⟨((D0.drop (pos (kys D0) x)).getD i default), (List.mem_of_mem_drop (getD_mem (by first | omega | (simp only [List.length_drop, List.length_take]; omega)))), rfl⟩)).one]; try rfl) hB30 (Nat.le_of_ble_eq_true rfl) rfl ?_
  intro w32 hB30 E33
  have z_w32 := E33.size
  have hop := hop.keep E33 (fun k hk => .inr (by simp at hk; omega))
  have hks := all9 hks fun _ h => h.keep E33 (fun k hk => .inr (by simp at hk; omega))
  have hxr := hxr.keep E33 (fun k hk => .inr (by simp at hk; omega))
  have hR14 := hR14.keep E33 (fun k hk => .inr (by simp at hk; omega))
  have hAi := hAi.keepG (Gr.of E33) (Dj.one dj31) (NoK.ofBx hB30_old (by decide))
  have hb := hb.step1 E33 (by omega)
  refine reg_nil (hK19 _ _ (seq_any fun K35 hK35 => one_reg (op_move (ev_base hN15 rfl s15_2) (op_loadA (cs := [((D0.drop (pos (kys D0) x)).getD i default).1, (Value.int .i64 ((D0.drop (pos (kys D0) x)).getD i default).2.2.1), (Value.int .i64 ((D0.drop (pos (kys D0) x)).getD i default).2.2.2)]) agg109 rfl (ev_hit hN15 rfl) (fun j u hu => by rw [Nat.zero_add]; exact hB30.cell hu) ?_))))
  refine op_fnv (fs := []) (vs := [(Value.agg #[((D0.drop (pos (kys D0) x)).getD i default).1, (Value.int .i64 ((D0.drop (pos (kys D0) x)).getD i default).2.2.1), (Value.int .i64 ((D0.drop (pos (kys D0) x)).getD i default).2.2.2)])]) (cs := [(ptr ob 0), (ptr lb 0)]) (ev_hit hN15 rfl) ok77 ⟨(ev_hit hN15 rfl), trivial⟩ (yieldA (l := ((D0.drop (pos (kys D0) x)).getD i default).2.1) (x := ((D0.drop (pos (kys D0) x)).getD i default).2.2) hAi (by omega) (((hks _ (List.mem_map.2 ⟨((D0.drop (pos (kys D0) x)).getD i default), List.mem_of_mem_drop (getD_mem (by simp; omega)), rfl⟩))).mono (Nat.le_refl _) (by omega)) ((hkl _ (List.mem_map.2 ⟨((D0.drop (pos (kys D0) x)).getD i default), List.mem_of_mem_drop (getD_mem (by simp; omega)), rfl⟩))) (by simp; omega)) ?_
  rintro _ w37 ⟨E38, rfl, kv36, F2_36, hA36, hN36⟩
  have bd39 := hB30.lt
  have hAi_old := hAi
  have z_w37 := E38.size
  have hop := hop.keepG E38 (fun k hk => .inr (by have := hAi_old.lt k hk; omega))
  have hks := all9 hks fun _ h => h.keepG E38 (fun k hk => .inr (by have := hAi_old.lt k hk; omega))
  have hxr := hxr.keepG E38 (fun k hk => .inr (by have := hAi_old.lt k hk; omega))
  have hR14 := hR14.keepG E38 (fun k hk => .inr (by have := hAi_old.lt k hk; omega))
  have hb := hb.stepF E38 (fun k _ h => (hAi_old.lt k h).1)
  rcases Bool.eq_false_or_eq_true ((decide (((((D ++ D2)).length + 1 : Nat) : Int) < (lim : Int)))) with c34 | c34
  · -- 34T
   rw [c34]
   refine op_not (ev_hit hN15 rfl) ?_
   refine reg_nil (hK35 _ _ (wp_cond_false (ev_hit hN15 rfl) ?_))
   refine wp_skip ?_
   refine hK18 _ _ (one_reg (op_add (ev_base hN15 rfl s15_28) rfl (add64 (by omega)) ?_))
   refine op_move (ev_hit hN15 rfl) (reg_nil ?_)
   -- round 29T 34T
   exact loop_next _ hN15 hd15 ⟨(i + 1), (D2 ++ [(kv36, ((D0.drop (pos (kys D0) x)).getD i default).2.1, ((D0.drop (pos (kys D0) x)).getD i default).2.2)]), F2_36, rfl, (sl_base hN15 rfl s15_0), (sl_base hN15 rfl s15_1), (sl_base hN15 rfl s15_2), (sl_base hN15 rfl s15_26), (sl_base hN15 rfl s15_27), (sl_hit hN15 rfl).trans (congrArg (Value.int .i64) (by omega)), (by omega), (by rw [List.map_append, hD2, take9 (d := default) (by simp; omega), getD_map9 (by omega)]; rfl), (by rw [List.length_append, hDl]; rfl), (by have h9 := of_decide_eq_true c34; simp only [List.length_append, hDl] at h9; omega), hb, (by omega), hop, hks, hxr, hR14, (by simpa using hA36)⟩ (by omega)
  · -- 34F
   rw [c34]
   refine op_not (ev_hit hN15 rfl) ?_
   refine reg_nil (hK35 _ _ (wp_cond_true (ev_hit hN15 rfl) ?_))
   refine seq_any fun K40 hK40 => one_reg (op_assign rfl (reg_nil (hK40 _ _ (wp_ret (blk_ret (then_ret (then_ret (blk_ret (then_ret (then_ret ( ?_)))))))))))
   refine ret1 rfl hd15 (ev_hit hN15 rfl) ⟨_, rfl, ?_⟩
   have h9 := of_decide_eq_false c34
   simp only [List.length_append, hDl] at h9
   exact ⟨hb, congrArg Value.bool (decide_eq_false (by rw [List.length_map]; omega)).symm, D2 ++ [(kv36, ((D0.drop (pos (kys D0) x)).getD i default).2.1, ((D0.drop (pos (kys D0) x)).getD i default).2.2)], F2_36, by simpa using hA36, by rw [show lim - D.length = i + 1 by omega, List.map_append, hD2, take9 (d := default) (by simp; omega), getD_map9 (by omega)]; rfl⟩
 · -- 29F
  refine reg_nil (hK16 _ _ (seq_any fun K41 hK41 => wp_cond_false (ev_hit hN15 rfl) ?_))
  refine wp_exit (then_exit (then_exit (blk_hit ?_)))
  refine hK11 _ _ (seq_any fun K42 hK42 => one_reg (op_assign rfl (reg_nil (hK42 _ _ (wp_ret (then_ret ( ?_)))))))
  refine ret1 rfl hd15 (ev_hit hN15 rfl) ⟨_, rfl, ?_⟩
  exact ⟨hb, congrArg Value.bool (decide_eq_true (by rw [List.length_map]; omega)).symm, D2, FA, hAi, by rw [hD2, List.take_of_length_le (by simp; omega), List.take_of_length_le (by simp; omega)]⟩

end Go.Proofs.Ytcpfdfejojghbaa

/- Walks, written by a program: what each function of the translation hands back. -/
namespace Go.Proofs.Ytcpfdfejojghbaa
open Go.Gx Go.RowKit
attribute [local irreducible] wpList wpStill Code.wp Calls
open Go.Bt
def ScanI (h : Nat) : Prop := ∀ ⦃x : List UInt8⦄ ⦃xv : Value⦄ ⦃p ob lb B lim : Nat⦄ ⦃t : Tr (Int) h⦄ ⦃R W F : Nat → Prop⦄ ⦃D : List (DP (Int))⦄ ⦃w : World⦄, TreeR kI R w h p t W → Ok h t → szT h t ≤ 6 → (∀ k, W k → k < B) → (∀ k, R k → k < B) → (∀ q ∈ toL h t, q.1.length ≤ 1000000000) → RdC w 0 B 1 xv x.length (x.map u8v) → AccR kI 48 B ob lb (lim : Int) w D F → B ≤ w.heap.size → D.length < lim → lim ≤ 9223372036854775807 → D.length + (toL h t).length ≤ 100000 →
  Ret Try.prog 49 #[ptr p 0, xv, .func (.func 50) #[] #[ptr ob 0, ptr lb 0]] w (fun v' w' => Gr w w' (fun k => B ≤ k) ∧ v' = .bool (decide (D.length + (geL x (toL h t)).length < lim)) ∧ ∃ D2 F2, AccR kI 48 B ob lb (lim : Int) w' (D ++ D2) F2 ∧ D2.map Prod.snd = (geL x (toL h t)).take (lim - D.length))
theorem scan0I : ScanI 0 := by
  intro x xv p ob lb B lim t R W F D w T hO h6 hW hR hkl hxr hA hB hD hlim hDM
  obtain ⟨pv, D0, hL, e⟩ := T
  have e' : (D0.map Prod.snd : List (Ky × (Int))) = t := e
  subst e'
  have h6' : D0.length ≤ 6 := by have h9 : (D0.map Prod.snd).length ≤ 6 := h6; simpa using h9
  have hs : Sorted (kys D0) := hO
  have hg : geL x (toL 0 ((D0.map Prod.snd : List (Ky × (Int))) : Tr (Int) 0)) = (D0.drop (pos (kys D0) x)).map Prod.snd := (geL_leaf (show Sorted ((D0.map Prod.snd).map Prod.fst) from hs)).trans (by rw [List.map_drop]; rfl)
  rw [hg]
  exact scanLI hL.bx hL.op hL.ks hs (by omega) ((hL.op.rd fun k hk => hW k (hL.wv k hk)).mono (Nat.zero_le _) (Nat.le_refl _)) (fun x9 hx9 => ((hL.ks x9 hx9).rd fun k hk => hR k (hL.kr x9 hx9 k hk))) (fun x9 hx9 => by
    obtain ⟨d, hd, rfl⟩ := List.mem_map.1 hx9
    exact hkl d.2 (List.mem_map.2 ⟨d, hd, rfl⟩)) hxr hA hB hD hlim (by have h9 : D.length + (D0.map Prod.snd).length ≤ 100000 := hDM; simpa using h9)
def ScanS (h : Nat) : Prop := ∀ ⦃x : List UInt8⦄ ⦃xv : Value⦄ ⦃p ob lb B lim : Nat⦄ ⦃t : Tr (List UInt8) h⦄ ⦃R W F : Nat → Prop⦄ ⦃D : List (DP (List UInt8))⦄ ⦃w : World⦄, TreeR kS R w h p t W → Ok h t → szT h t ≤ 6 → (∀ k, W k → k < B) → (∀ k, R k → k < B) → (∀ q ∈ toL h t, q.1.length ≤ 1000000000) → RdC w 0 B 1 xv x.length (x.map u8v) → AccR kS 89 B ob lb (lim : Int) w D F → B ≤ w.heap.size → D.length < lim → lim ≤ 9223372036854775807 → D.length + (toL h t).length ≤ 100000 →
  Ret Try.prog 78 #[ptr p 0, xv, .func (.func 79) #[] #[ptr ob 0, ptr lb 0]] w (fun v' w' => Gr w w' (fun k => B ≤ k) ∧ v' = .bool (decide (D.length + (geL x (toL h t)).length < lim)) ∧ ∃ D2 F2, AccR kS 89 B ob lb (lim : Int) w' (D ++ D2) F2 ∧ D2.map Prod.snd = (geL x (toL h t)).take (lim - D.length))
theorem scan0S : ScanS 0 := by
  intro x xv p ob lb B lim t R W F D w T hO h6 hW hR hkl hxr hA hB hD hlim hDM
  obtain ⟨pv, D0, hL, e⟩ := T
  have e' : (D0.map Prod.snd : List (Ky × (List UInt8))) = t := e
  subst e'
  have h6' : D0.length ≤ 6 := by have h9 : (D0.map Prod.snd).length ≤ 6 := h6; simpa using h9
  have hs : Sorted (kys D0) := hO
  have hg : geL x (toL 0 ((D0.map Prod.snd : List (Ky × (List UInt8))) : Tr (List UInt8) 0)) = (D0.drop (pos (kys D0) x)).map Prod.snd := (geL_leaf (show Sorted ((D0.map Prod.snd).map Prod.fst) from hs)).trans (by rw [List.map_drop]; rfl)
  rw [hg]
  exact scanLS hL.bx hL.op hL.ks hs (by omega) ((hL.op.rd fun k hk => hW k (hL.wv k hk)).mono (Nat.zero_le _) (Nat.le_refl _)) (fun x9 hx9 => ((hL.ks x9 hx9).rd fun k hk => hR k (hL.kr x9 hx9 k hk))) (fun x9 hx9 => by
    obtain ⟨d, hd, rfl⟩ := List.mem_map.1 hx9
    exact hkl d.2 (List.mem_map.2 ⟨d, hd, rfl⟩)) hxr hA hB hD hlim (by have h9 : D.length + (D0.map Prod.snd).length ≤ 100000 := hDM; simpa using h9)
def ScanA (h : Nat) : Prop := ∀ ⦃x : List UInt8⦄ ⦃xv : Value⦄ ⦃p ob lb B lim : Nat⦄ ⦃t : Tr (Int × Int) h⦄ ⦃R W F : Nat → Prop⦄ ⦃D : List (DP (Int × Int))⦄ ⦃w : World⦄, TreeR kA R w h p t W → Ok h t → szT h t ≤ 6 → (∀ k, W k → k < B) → (∀ k, R k → k < B) → (∀ q ∈ toL h t, q.1.length ≤ 1000000000) → RdC w 0 B 1 xv x.length (x.map u8v) → AccR kA 102 B ob lb (lim : Int) w D F → B ≤ w.heap.size → D.length < lim → lim ≤ 9223372036854775807 → D.length + (toL h t).length ≤ 100000 →
  Ret Try.prog 76 #[ptr p 0, xv, .func (.func 77) #[] #[ptr ob 0, ptr lb 0]] w (fun v' w' => Gr w w' (fun k => B ≤ k) ∧ v' = .bool (decide (D.length + (geL x (toL h t)).length < lim)) ∧ ∃ D2 F2, AccR kA 102 B ob lb (lim : Int) w' (D ++ D2) F2 ∧ D2.map Prod.snd = (geL x (toL h t)).take (lim - D.length))
theorem scan0A : ScanA 0 := by
  intro x xv p ob lb B lim t R W F D w T hO h6 hW hR hkl hxr hA hB hD hlim hDM
  obtain ⟨pv, D0, hL, e⟩ := T
  have e' : (D0.map Prod.snd : List (Ky × (Int × Int))) = t := e
  subst e'
  have h6' : D0.length ≤ 6 := by have h9 : (D0.map Prod.snd).length ≤ 6 := h6; simpa using h9
  have hs : Sorted (kys D0) := hO
  have hg : geL x (toL 0 ((D0.map Prod.snd : List (Ky × (Int × Int))) : Tr (Int × Int) 0)) = (D0.drop (pos (kys D0) x)).map Prod.snd := (geL_leaf (show Sorted ((D0.map Prod.snd).map Prod.fst) from hs)).trans (by rw [List.map_drop]; rfl)
  rw [hg]
  exact scanLA hL.bx hL.op hL.ks hs (by omega) ((hL.op.rd fun k hk => hW k (hL.wv k hk)).mono (Nat.zero_le _) (Nat.le_refl _)) (fun x9 hx9 => ((hL.ks x9 hx9).rd fun k hk => hR k (hL.kr x9 hx9 k hk))) (fun x9 hx9 => by
    obtain ⟨d, hd, rfl⟩ := List.mem_map.1 hx9
    exact hkl d.2 (List.mem_map.2 ⟨d, hd, rfl⟩)) hxr hA hB hD hlim (by have h9 : D.length + (D0.map Prod.snd).length ≤ 100000 := hDM; simpa using h9)
end Go.Proofs.Ytcpfdfejojghbaa

/- Walks, written by a program: what each function of the translation hands back. -/
namespace Go.Proofs.Ytcpfdfejojghbaa
open Go.Gx Go.RowKit
attribute [local irreducible] wpList wpStill Code.wp Calls
open Go.Bt
theorem scanNI {h : Nat} {x : List UInt8} {xv kv cv : Value} {p ob lb B lim : Nat} {K : List DK} {P : List Nat} {cs : List (Tr (Int) h)} {R W G F : Nat → Prop} {D : List (DP (Int))} {w : World} (IH : ScanI h) (hNd : NodeR kI R w p kv cv K P G W) (hKs : KidsR kI R w h P cs G) (hO : Nd h (K.map Prod.snd) cs) (hz : ∀ c ∈ cs, okSz h c) (hn : K.length ≤ 6) (hW : ∀ k, W k → k < B) (hR : ∀ k, R k → k < B) (hkl : ∀ q ∈ cs.flatMap (toL h), q.1.length ≤ 1000000000) (hxr : RdC w 0 B 1 xv x.length (x.map u8v)) (hA : AccR kI 48 B ob lb (lim : Int) w D F) (hB : B ≤ w.heap.size) (hD : D.length < lim) (hlim : lim ≤ 9223372036854775807) (hDM : D.length + (cs.flatMap (toL h)).length ≤ 100000) : Ret Try.prog 49 #[(ptr p 0), xv, (Value.func (.func 50) #[] #[(ptr ob 0), (ptr lb 0)])] w (fun v' w' => Gr w w' (fun k => B ≤ k) ∧ v' = .bool (decide (D.length + ((cs.drop (way (K.map Prod.snd) x)).flatMap fun c => geL x (toL h c)).length < lim)) ∧ ∃ D2 F2, AccR kI 48 B ob lb (lim : Int) w' (D ++ D2) F2 ∧ D2.map Prod.snd = ((cs.drop (way (K.map Prod.snd) x)).flatMap fun c => geL x (toL h c)).take (lim - D.length)) := by
 have hx : Bx w p 115 [.slice none 0 0, kv, cv] := hNd.bx
 have ok := hNd.ok
 have oc : Own w 0 69 1 cv P.length (P.flatMap cN) := hNd.oc
 have ks := hNd.ks
 have hs := hO.2.1
 have hPc : P.length = cs.length := hKs.len
 have hcl : cs.length = K.length + 1 := hO.1.trans (by simp)
 have hPl : P.length = K.length + 1 := hPc.trans hcl
 have hwl : (way (K.map Prod.snd) x) ≤ K.length := by have := way_le (K.map Prod.snd) x; simpa using this
 have hdl : (P.drop (way (K.map Prod.snd) x)).length = P.length - (way (K.map Prod.snd) x) := List.length_drop
 have hoc : RdC w 0 B 1 cv P.length (P.flatMap cN) := (hNd.oc.rd fun k hk => hW k (hNd.wc k hk)).mono (Nat.zero_le _) (Nat.le_refl _)
 have hb := Gr.refl w (fun k => B ≤ k)
 refine enter (N := 56) Try.func49 rfl rfl (by simp) fun a0 hN hd hA => ?_
 have s0 : a0.tmps.getD 0 undef = (ptr p 0) := hA 0 (by simp)
 have s1 : a0.tmps.getD 1 undef = xv := hA 1 (by simp)
 have s2 : a0.tmps.getD 2 undef = (Value.func (.func 50) #[] #[(ptr ob 0), (ptr lb 0)]) := hA 2 (by simp)
 clear hA
 refine seq_any fun K3 hK3 => one_reg (op_assign rfl ?_)
 refine reg_nil (hK3 _ _ (seq_any fun K4 hK4 => seq_any fun K5 hK5 => one_reg (op_move (ev_base hN rfl s0) (op_fn (vs := [(ptr p 0)]) ok81 ⟨(ev_hit hN rfl), trivial⟩ (Ret.flip (leafNI hx ok oc (by omega) (by omega))) ?_))))
 rintro _ _ ⟨rfl, rfl⟩
 refine reg_nil (hK5 _ _ (wp_cond_false (ev_hit hN rfl) ?_))
 refine wp_skip ?_
 refine hK4 _ _ (seq_any fun K6 hK6 => seq_any fun K7 hK7 => ?_)
 refine reg_env (φ := phiV [(fun uz => uz = (ptr p 0)), (fun uz => uz = (ptr p 0)), (fun uz => uz = (ptr p 2)), (fun uz => uz = cv), (fun uz => uz = (ptr p 0)), (fun uz => uz = xv), (fun _ => True), (fun _ => True), (fun _ => True), (fun uz => uz = (Value.int .i64 0))]) (G := fun w' => Bx w' p 115 [(Value.slice none 0 0), kv, cv]) [6, 7, 8] mixed (by kernel_rfl) (by kernel_rfl) (by kernel_rfl) (by kernel_rfl) hN (fun w1 w2 E h => h.keep0 E) hx (ObEs.cons ?_ (ObEs.cons ?_ (ObEs.cons ?_ (ObEs.cons ?_ (ObEs.cons ?_ (ObEs.cons ?_ (ObEs.pass rfl (ObEs.pass rfl (ObEs.pass rfl (ObEs.cons ?_ (ObEs.nil))))))))))) (by simp only [putsL_defers]) ?_
 ·
  intro eA aA wA hNA hGA hbsA hdpA
  have qA_0 := (hbsA 0 rfl).trans (sl_base hN rfl s0)
  refine op_move (ev_base hNA rfl qA_0) ?_
  exact obE_end rfl rfl rfl
 ·
  intro eA aA wA hNA hGA hbsA hdpA
  have qA_37 : Sl aA 37 (ptr p 0) := (hdpA 0 _ 37 (by kernel_rfl) rfl rfl).2 rfl
  refine op_nil (ev_base hNA rfl qA_37) ?_
  exact obE_end rfl rfl rfl
 ·
  intro eA aA wA hNA hGA hbsA hdpA
  have qA_38 : Sl aA 38 (ptr p 0) := (hdpA 1 _ 38 (by kernel_rfl) rfl rfl).2 rfl
  refine op_field fld115_2 (ev_base hNA rfl qA_38) ?_
  exact obE_end rfl rfl rfl
 ·
  intro eA aA wA hNA hGA hbsA hdpA
  have qA_39 : Sl aA 39 (ptr p 2) := (hdpA 2 _ 39 (by kernel_rfl) rfl rfl).2 rfl
  refine op_load1 (v := cv) one113 (ev_base hNA rfl qA_39) (hGA.cell rfl) ?_
  exact obE_end rfl rfl rfl
 ·
  intro eA aA wA hNA hGA hbsA hdpA
  have qA_0 := (hbsA 0 rfl).trans (sl_base hN rfl s0)
  refine op_move (ev_base hNA rfl qA_0) ?_
  exact obE_end rfl rfl rfl
 ·
  intro eA aA wA hNA hGA hbsA hdpA
  have qA_1 := (hbsA 1 rfl).trans (sl_base hN rfl s1)
  refine op_move (ev_base hNA rfl qA_1) ?_
  exact obE_end rfl rfl rfl
 ·
  intro eA aA wA hNA hGA hbsA hdpA
  refine op_move rfl ?_
  exact obE_end rfl rfl rfl
 ·
  intro w10 E10 _ a10 hN10 hbs10 hdp10 o_ ho_; obtain rfl := Option.some.inj ho_
  have z_w10 := E10.size
  have hx := hx.keep0 E10
  have ok := ok.keep0 E10
  have oc := oc.keep0 E10
  have ks := all9 ks fun _ h => h.keep0 E10
  have hoc := hoc.keep0 E10
  have hxr := hxr.keep0 E10
  have hA := hA.keepG (Gr.of0 E10 NoB) (fun _ _ h => h) (NoK.no _)
  have hb := hb.step0 E10
  have q10_41 : Sl a10 41 (ptr p 0) := (hdp10 4 _ 41 (by kernel_rfl) rfl rfl).2 rfl
  have q10_42 : Sl a10 42 xv := (hdp10 5 _ 42 (by kernel_rfl) rfl rfl).2 rfl
  refine op_fn (vs := [(ptr p 0), xv]) ok84 ⟨(ev_base hN10 rfl q10_41), ⟨(ev_base hN10 rfl q10_42), trivial⟩⟩ (wayI hx ok oc ks hs (by omega) (hxr.mono (Nat.zero_le _) (by omega))) ?_
  rintro _ w11 ⟨E12, rfl⟩
  have E12 := grown_of_below E12
  have z_w11 := E12.size
  have hx := hx.keep0 E12
  have hoc := hoc.keep0 E12
  have hxr := hxr.keep0 E12
  have hA := hA.keepG (Gr.of0 E12 NoB) (fun _ _ h => h) (NoK.no _)
  have hb := hb.step0 E12
  refine ke_end rfl (by decide) rfl hx ?_
  intro w13 E13 _ a13 hN13 hbs13 hdp13 o_ ho_; obtain rfl := Option.some.inj ho_
  have z_w13 := E13.size
  have hx := hx.keep0 E13
  have hoc := hoc.keep0 E13
  have hxr := hxr.keep0 E13
  have hA := hA.keepG (Gr.of0 E13 NoB) (fun _ _ h => h) (NoK.no _)
  have hb := hb.step0 E13
  have q13_40 : Sl a13 40 cv := (hdp13 3 _ 40 (by kernel_rfl) rfl rfl).2 rfl
  have q13_43 : Sl a13 43 (Value.int .i64 (((way (K.map Prod.snd) x) : Nat) : Int)) := (Option.some.inj ((hdp13 6 _ 43 (by kernel_rfl) rfl rfl).1 0 rfl)).symm
  refine op_slice_rd (lo := ((way (K.map Prod.snd) x))) (hi := P.length) slt113 (ev_base hN13 rfl q13_40) hoc (.inr ⟨_, _, rfl, (ev_base hN13 rfl q13_43)⟩) (.inl ⟨rfl, rfl⟩) (by omega) (by omega) ?_
  intro v14 hR15
  have hR15 : RdC w13 0 B 1 v14 ((P.drop (way (K.map Prod.snd) x)).length) (((P.drop (way (K.map Prod.snd) x))).flatMap cN) := by exact hR15.cast (by simp) (by rw [flat_drop cN_len, List.take_of_length_le (by rw [flat_len9 cN_len]; simp)])
  refine ke_end rfl (by decide) rfl hx ?_
  intro w16 E16 _ a16 hN16 hbs16 hdp16 o_ ho_; obtain rfl := Option.some.inj ho_
  have z_w16 := E16.size
  have hx := hx.keep0 E16
  have hoc := hoc.keep0 E16
  have hxr := hxr.keep0 E16
  have hA := hA.keepG (Gr.of0 E16 NoB) (fun _ _ h => h) (NoK.no _)
  have hR15 := hR15.keep0 E16
  have hb := hb.step0 E16
  have q16_44 : Sl a16 44 v14 := (Option.some.inj ((hdp16 7 _ 44 (by kernel_rfl) rfl rfl).1 1 rfl)).symm
  refine op_len_rd Try.underlying113 (ev_base hN16 rfl q16_44) hR15 ?_
  refine ke_end rfl (by decide) rfl hx ?_
  intro w17 E17 a17 hN17 hd17 hbs17 hph17
  have hd17 := hd17.trans ((by simp only [putsL_defers] : _ = _).trans hd)
  have z_w17 := E17.size
  have hoc := hoc.keep0 E17
  have hxr := hxr.keep0 E17
  have hA := hA.keepG (Gr.of0 E17 NoB) (fun _ _ h => h) (NoK.no _)
  have hR15 := hR15.keep0 E17
  have hb := hb.step0 E17
  have s17_1 := (hbs17 1 rfl).trans (sl_base hN rfl s1)
  have s17_2 := (hbs17 2 rfl).trans (sl_base hN rfl s2)
  have s17_44 : Sl a17 44 v14 := (Option.some.inj ((hph17 7 _ 44 rfl rfl).1 1 rfl)).symm
  have s17_45 : Sl a17 45 (Value.int .i64 ((((P.drop (way (K.map Prod.snd) x)).length) : Nat) : Int)) := (Option.some.inj ((hph17 8 _ 45 rfl rfl).1 2 rfl)).symm
  have s17_46 : Sl a17 46 (Value.int .i64 0) := (hph17 9 _ 46 rfl rfl).2 rfl
  refine hK7 _ _ (wp_block ?_)
  refine loop_m (fun mz_ az_ w' => ∃ (j : Nat) (D2 : List (DP (Int))) (FA : Nat → Prop), mz_ = (P.drop (way (K.map Prod.snd) x)).length - j ∧ (az_.tmps.getD 1 undef = xv) ∧ (az_.tmps.getD 2 undef = (Value.func (.func 50) #[] #[(ptr ob 0), (ptr lb 0)])) ∧ (az_.tmps.getD 44 undef = v14) ∧ (az_.tmps.getD 45 undef = (Value.int .i64 ((((P.drop (way (K.map Prod.snd) x)).length) : Nat) : Int))) ∧ (az_.tmps.getD 46 undef = (Value.int .i64 ((j : Nat) : Int))) ∧ (j ≤ (P.drop (way (K.map Prod.snd) x)).length) ∧ (D2.map Prod.snd = (((cs.drop (way (K.map Prod.snd) x)).take j).flatMap fun c => geL x (toL h c))) ∧ (D.length + (((cs.drop (way (K.map Prod.snd) x)).take j).flatMap fun c => geL x (toL h c)).length < lim) ∧ (Gr w w' (fun k => B ≤ k)) ∧ (w17.heap.size ≤ w'.heap.size) ∧ (RdC w' 0 B 1 cv P.length (P.flatMap cN)) ∧ (RdC w' 0 B 1 xv x.length (x.map u8v)) ∧ (RdC w' 0 B 1 v14 ((P.drop (way (K.map Prod.snd) x)).length) (((P.drop (way (K.map Prod.snd) x))).flatMap cN)) ∧ (AccR kI 48 B ob lb (lim : Int) w' (D ++ D2) FA)) _ hN17 hd17 ⟨0, [], F, rfl, (sl_base hN17 rfl s17_1), (sl_base hN17 rfl s17_2), (sl_base hN17 rfl s17_44), (sl_base hN17 rfl s17_45), (sl_base hN17 rfl s17_46), (Nat.zero_le _), rfl, (by simpa using hD), hb, (Nat.le_refl _), hoc, hxr, hR15, (by simpa using hA)⟩ ?_
  rintro _ a18 w18 hN18 hd18 ⟨j, D2, FA, rfl, s18_1, s18_2, s18_44, s18_45, s18_46, hj, hD2, hlt, hb, zl_w18, hoc, hxr, hR15, hAj⟩
  have z_w18 := hb.size
  refine seq_any fun K19 hK19 => ?_
  refine one_reg (op_lss (ev_base hN18 rfl s18_46) (ev_base hN18 rfl s18_45) (fun c47 => ?_) (fun c47 => ?_))
  · -- 47T
   refine reg_nil (hK19 _ _ (seq_any fun K20 hK20 => wp_cond_true (ev_hit hN18 rfl) ?_))
   refine wp_skip ?_
   refine hK20 _ _ (seq_any fun K21 hK21 => wp_block ?_)
   refine seq_any fun K22 hK22 => one_reg (op_index_rd slt113 (ev_base hN18 rfl s18_44) hR15 (ev_base hN18 rfl s18_46) (by omega) (by omega) ?_)
   intro b23 o24 h0b23 h1b23 hc25
   refine op_load1 (v := (ptr ((P.drop (way (K.map Prod.snd) x)).getD j default) 0)) one69 (ev_hit hN18 rfl) (by have := hc25 0 (ptr ((P.drop (way (K.map Prod.snd) x)).getD j default) 0) (by decide) (el_pn (i := j) (by omega) (by first | omega | (simp only [List.length_drop, List.length_take]; omega))); simpa using this) (op_assign (ev_hit hN18 rfl) ?_)
   refine reg_nil (hK22 _ _ (seq_any fun K26 hK26 => one_reg (op_move (ev_hit hN18 rfl) (op_move (ev_base hN18 rfl s18_1) (op_move (ev_base hN18 rfl s18_2) ?_)))))
   have hl2 : D2.length = (((cs.drop (way (K.map Prod.snd) x)).take j).flatMap fun c => geL x (toL h c)).length := by have := congrArg List.length hD2; simpa using this
   obtain ⟨c, hc, hcO, _⟩ := hO.at (i := (way (K.map Prod.snd) x) + j) (by simp; omega)
   obtain ⟨f, hf, hfG⟩ := Kids.get hKs hc
   have hTn : TreeR kI R w18 h (P.getD ((way (K.map Prod.snd) x) + j) default) c f := TreeR.later hf hb (fun k hk => hW k (hNd.wg k (hfG k hk))) hR
   have hpe : (P.drop (way (K.map Prod.snd) x)).getD j default = P.getD ((way (K.map Prod.snd) x) + j) default := by simp [List.getD_eq_getElem?_getD]
   rw [← hpe] at hTn
   have hmj : (((cs.drop (way (K.map Prod.snd) x)).take (j + 1)).flatMap fun c => geL x (toL h c)) = (((cs.drop (way (K.map Prod.snd) x)).take j).flatMap fun c => geL x (toL h c)) ++ geL x (toL h c) := scan_more hc
   refine op_fn (vs := [(ptr ((P.drop (way (K.map Prod.snd) x)).getD j default) 0), xv, (Value.func (.func 50) #[] #[(ptr ob 0), (ptr lb 0)])]) ok49 ⟨(ev_hit hN18 rfl), ⟨(ev_hit hN18 rfl), ⟨(ev_hit hN18 rfl), trivial⟩⟩⟩ (IH hTn hcO (by have := (hz c (List.mem_of_getElem? hc)).2; omega) (fun k hk => hW k (hNd.wg k (hfG k hk))) hR (fun q hq => hkl q (List.mem_flatMap.2 ⟨c, List.mem_of_getElem? hc, hq⟩)) hxr hAj (by omega) (by rw [List.length_append]; omega) hlim (by have h9 := scan_room (x := x) hc; rw [List.length_append]; omega)) ?_
   rintro _ w28 ⟨E29, rfl, E2_27, F2_27, hA27, hE27⟩
   have z_w28 := E29.size
   have hoc := hoc.keepG E29 (fun k hk => .inr hk)
   have hxr := hxr.keepG E29 (fun k hk => .inr hk)
   have hR15 := hR15.keepG E29 (fun k hk => .inr hk)
   have hb := hb.go E29 (fun k _ h => h)
   rcases Bool.eq_false_or_eq_true ((decide (((D ++ D2)).length + (geL x (toL h c)).length < lim))) with c53 | c53
   · -- 53T
    rw [c53]
    refine op_not (ev_hit hN18 rfl) ?_
    refine reg_nil (hK26 _ _ (wp_cond_false (ev_hit hN18 rfl) ?_))
    refine wp_skip ?_
    refine hK21 _ _ (one_reg (op_add (ev_base hN18 rfl s18_46) rfl (add64 (by omega)) ?_))
    refine op_move (ev_hit hN18 rfl) (reg_nil ?_)
    -- round 47T 53T
    exact loop_next _ hN18 hd18 ⟨(j + 1), (D2 ++ E2_27), F2_27, rfl, (sl_base hN18 rfl s18_1), (sl_base hN18 rfl s18_2), (sl_base hN18 rfl s18_44), (sl_base hN18 rfl s18_45), (sl_hit hN18 rfl).trans (congrArg (Value.int .i64) (by omega)), (by omega), (by rw [hmj, List.map_append, hD2, hE27, List.take_of_length_le (l := geL x (toL h c)) (by have h9 := of_decide_eq_true c53; rw [List.length_append] at h9 ⊢; omega)]), (by have h9 := of_decide_eq_true c53; rw [hmj]; rw [List.length_append] at h9 ⊢; omega), hb, (by omega), hoc, hxr, hR15, (by simpa using hA27)⟩ (by omega)
   · -- 53F
    rw [c53]
    refine op_not (ev_hit hN18 rfl) ?_
    refine reg_nil (hK26 _ _ (wp_cond_true (ev_hit hN18 rfl) ?_))
    refine seq_any fun K30 hK30 => one_reg (op_assign rfl (reg_nil (hK30 _ _ (wp_ret (blk_ret (then_ret (then_ret (blk_ret (then_ret ( ?_))))))))))
    refine ret1 rfl hd18 (ev_hit hN18 rfl) ⟨_, rfl, ?_⟩
    have h9 := of_decide_eq_false c53
    rw [List.length_append] at h9
    have hle : (((cs.drop (way (K.map Prod.snd) x)).take (j + 1)).flatMap fun c => geL x (toL h c)).length ≤ ((cs.drop (way (K.map Prod.snd) x)).flatMap fun c => geL x (toL h c)).length := scan_le
    exact ⟨hb, congrArg Value.bool (decide_eq_false (by rw [hmj, List.length_append] at hle; omega)).symm, D2 ++ E2_27, F2_27, by simpa using hA27, by rw [scan_cut (j := j + 1) (by rw [hmj, List.length_append]; omega), hmj, List.map_append, hD2, hE27, List.take_append, List.take_of_length_le (l := (((cs.drop (way (K.map Prod.snd) x)).take j).flatMap fun c => geL x (toL h c))) (by omega), List.length_append, hl2, Nat.sub_add_eq]⟩
  · -- 47F
   refine reg_nil (hK19 _ _ (seq_any fun K31 hK31 => wp_cond_false (ev_hit hN18 rfl) ?_))
   refine wp_exit (then_exit (then_exit (blk_hit ?_)))
   refine hK6 _ _ (seq_any fun K32 hK32 => one_reg (op_assign rfl (reg_nil (hK32 _ _ (wp_ret ?_)))))
   refine ret1 rfl hd18 (ev_hit hN18 rfl) ⟨_, rfl, ?_⟩
   have hall : (((cs.drop (way (K.map Prod.snd) x)).take j).flatMap fun c => geL x (toL h c)) = ((cs.drop (way (K.map Prod.snd) x)).flatMap fun c => geL x (toL h c)) := by rw [List.take_of_length_le (by simp; simp at hj; omega)]
   rw [hall] at hD2 hlt
   exact ⟨hb, congrArg Value.bool (decide_eq_true hlt).symm, D2, FA, hAj, by rw [hD2, List.take_of_length_le (by omega)]⟩

end Go.Proofs.Ytcpfdfejojghbaa

/- Walks, written by a program: what each function of the translation hands back. -/
namespace Go.Proofs.Ytcpfdfejojghbaa
open Go.Gx Go.RowKit
attribute [local irreducible] wpList wpStill Code.wp Calls
open Go.Bt
theorem scanNS {h : Nat} {x : List UInt8} {xv kv cv : Value} {p ob lb B lim : Nat} {K : List DK} {P : List Nat} {cs : List (Tr (List UInt8) h)} {R W G F : Nat → Prop} {D : List (DP (List UInt8))} {w : World} (IH : ScanS h) (hNd : NodeR kS R w p kv cv K P G W) (hKs : KidsR kS R w h P cs G) (hO : Nd h (K.map Prod.snd) cs) (hz : ∀ c ∈ cs, okSz h c) (hn : K.length ≤ 6) (hW : ∀ k, W k → k < B) (hR : ∀ k, R k → k < B) (hkl : ∀ q ∈ cs.flatMap (toL h), q.1.length ≤ 1000000000) (hxr : RdC w 0 B 1 xv x.length (x.map u8v)) (hA : AccR kS 89 B ob lb (lim : Int) w D F) (hB : B ≤ w.heap.size) (hD : D.length < lim) (hlim : lim ≤ 9223372036854775807) (hDM : D.length + (cs.flatMap (toL h)).length ≤ 100000) : Ret Try.prog 78 #[(ptr p 0), xv, (Value.func (.func 79) #[] #[(ptr ob 0), (ptr lb 0)])] w (fun v' w' => Gr w w' (fun k => B ≤ k) ∧ v' = .bool (decide (D.length + ((cs.drop (way (K.map Prod.snd) x)).flatMap fun c => geL x (toL h c)).length < lim)) ∧ ∃ D2 F2, AccR kS 89 B ob lb (lim : Int) w' (D ++ D2) F2 ∧ D2.map Prod.snd = ((cs.drop (way (K.map Prod.snd) x)).flatMap fun c => geL x (toL h c)).take (lim - D.length)) := by
 have hx : Bx w p 93 [.slice none 0 0, kv, cv] := hNd.bx
 have ok := hNd.ok
 have oc : Own w 0 86 1 cv P.length (P.flatMap cN) := hNd.oc
 have ks := hNd.ks
 have hs := hO.2.1
 have hPc : P.length = cs.length := hKs.len
 have hcl : cs.length = K.length + 1 := hO.1.trans (by simp)
 have hPl : P.length = K.length + 1 := hPc.trans hcl
 have hwl : (way (K.map Prod.snd) x) ≤ K.length := by have := way_le (K.map Prod.snd) x; simpa using this
 have hdl : (P.drop (way (K.map Prod.snd) x)).length = P.length - (way (K.map Prod.snd) x) := List.length_drop
 have hoc : RdC w 0 B 1 cv P.length (P.flatMap cN) := (hNd.oc.rd fun k hk => hW k (hNd.wc k hk)).mono (Nat.zero_le _) (Nat.le_refl _)
 have hb := Gr.refl w (fun k => B ≤ k)
 refine enter (N := 56) Try.func78 rfl rfl (by simp) fun a0 hN hd hA => ?_
 have s0 : a0.tmps.getD 0 undef = (ptr p 0) := hA 0 (by simp)
 have s1 : a0.tmps.getD 1 undef = xv := hA 1 (by simp)
 have s2 : a0.tmps.getD 2 undef = (Value.func (.func 79) #[] #[(ptr ob 0), (ptr lb 0)]) := hA 2 (by simp)
 clear hA
 refine seq_any fun K3 hK3 => one_reg (op_assign rfl ?_)
 refine reg_nil (hK3 _ _ (seq_any fun K4 hK4 => seq_any fun K5 hK5 => one_reg (op_move (ev_base hN rfl s0) (op_fn (vs := [(ptr p 0)]) ok63 ⟨(ev_hit hN rfl), trivial⟩ (Ret.flip (leafNS hx ok oc (by omega) (by omega))) ?_))))
 rintro _ _ ⟨rfl, rfl⟩
 refine reg_nil (hK5 _ _ (wp_cond_false (ev_hit hN rfl) ?_))
 refine wp_skip ?_
 refine hK4 _ _ (seq_any fun K6 hK6 => seq_any fun K7 hK7 => ?_)
 refine reg_env (φ := phiV [(fun uz => uz = (ptr p 0)), (fun uz => uz = (ptr p 0)), (fun uz => uz = (ptr p 2)), (fun uz => uz = cv), (fun uz => uz = (ptr p 0)), (fun uz => uz = xv), (fun _ => True), (fun _ => True), (fun _ => True), (fun uz => uz = (Value.int .i64 0))]) (G := fun w' => Bx w' p 93 [(Value.slice none 0 0), kv, cv]) [6, 7, 8] mixed (by kernel_rfl) (by kernel_rfl) (by kernel_rfl) (by kernel_rfl) hN (fun w1 w2 E h => h.keep0 E) hx (ObEs.cons ?_ (ObEs.cons ?_ (ObEs.cons ?_ (ObEs.cons ?_ (ObEs.cons ?_ (ObEs.cons ?_ (ObEs.pass rfl (ObEs.pass rfl (ObEs.pass rfl (ObEs.cons ?_ (ObEs.nil))))))))))) (by simp only [putsL_defers]) ?_
 ·
  intro eA aA wA hNA hGA hbsA hdpA
  have qA_0 := (hbsA 0 rfl).trans (sl_base hN rfl s0)
  refine op_move (ev_base hNA rfl qA_0) ?_
  exact obE_end rfl rfl rfl
 ·
  intro eA aA wA hNA hGA hbsA hdpA
  have qA_37 : Sl aA 37 (ptr p 0) := (hdpA 0 _ 37 (by kernel_rfl) rfl rfl).2 rfl
  refine op_nil (ev_base hNA rfl qA_37) ?_
  exact obE_end rfl rfl rfl
 ·
  intro eA aA wA hNA hGA hbsA hdpA
  have qA_38 : Sl aA 38 (ptr p 0) := (hdpA 1 _ 38 (by kernel_rfl) rfl rfl).2 rfl
  refine op_field fld93_2 (ev_base hNA rfl qA_38) ?_
  exact obE_end rfl rfl rfl
 ·
  intro eA aA wA hNA hGA hbsA hdpA
  have qA_39 : Sl aA 39 (ptr p 2) := (hdpA 2 _ 39 (by kernel_rfl) rfl rfl).2 rfl
  refine op_load1 (v := cv) one91 (ev_base hNA rfl qA_39) (hGA.cell rfl) ?_
  exact obE_end rfl rfl rfl
 ·
  intro eA aA wA hNA hGA hbsA hdpA
  have qA_0 := (hbsA 0 rfl).trans (sl_base hN rfl s0)
  refine op_move (ev_base hNA rfl qA_0) ?_
  exact obE_end rfl rfl rfl
 ·
  intro eA aA wA hNA hGA hbsA hdpA
  have qA_1 := (hbsA 1 rfl).trans (sl_base hN rfl s1)
  refine op_move (ev_base hNA rfl qA_1) ?_
  exact obE_end rfl rfl rfl
 ·
  intro eA aA wA hNA hGA hbsA hdpA
  refine op_move rfl ?_
  exact obE_end rfl rfl rfl
 ·
  intro w10 E10 _ a10 hN10 hbs10 hdp10 o_ ho_; obtain rfl := Option.some.inj ho_
  have z_w10 := E10.size
  have hx := hx.keep0 E10
  have ok := ok.keep0 E10
  have oc := oc.keep0 E10
  have ks := all9 ks fun _ h => h.keep0 E10
  have hoc := hoc.keep0 E10
  have hxr := hxr.keep0 E10
  have hA := hA.keepG (Gr.of0 E10 NoB) (fun _ _ h => h) (NoK.no _)
  have hb := hb.step0 E10
  have q10_41 : Sl a10 41 (ptr p 0) := (hdp10 4 _ 41 (by kernel_rfl) rfl rfl).2 rfl
  have q10_42 : Sl a10 42 xv := (hdp10 5 _ 42 (by kernel_rfl) rfl rfl).2 rfl
  refine op_fn (vs := [(ptr p 0), xv]) ok66 ⟨(ev_base hN10 rfl q10_41), ⟨(ev_base hN10 rfl q10_42), trivial⟩⟩ (wayS hx ok oc ks hs (by omega) (hxr.mono (Nat.zero_le _) (by omega))) ?_
  rintro _ w11 ⟨E12, rfl⟩
  have E12 := grown_of_below E12
  have z_w11 := E12.size
  have hx := hx.keep0 E12
  have hoc := hoc.keep0 E12
  have hxr := hxr.keep0 E12
  have hA := hA.keepG (Gr.of0 E12 NoB) (fun _ _ h => h) (NoK.no _)
  have hb := hb.step0 E12
  refine ke_end rfl (by decide) rfl hx ?_
  intro w13 E13 _ a13 hN13 hbs13 hdp13 o_ ho_; obtain rfl := Option.some.inj ho_
  have z_w13 := E13.size
  have hx := hx.keep0 E13
  have hoc := hoc.keep0 E13
  have hxr := hxr.keep0 E13
  have hA := hA.keepG (Gr.of0 E13 NoB) (fun _ _ h => h) (NoK.no _)
  have hb := hb.step0 E13
  have q13_40 : Sl a13 40 cv := (hdp13 3 _ 40 (by kernel_rfl) rfl rfl).2 rfl
  have q13_43 : Sl a13 43 (Value.int .i64 (((way (K.map Prod.snd) x) : Nat) : Int)) := (Option.some.inj ((hdp13 6 _ 43 (by kernel_rfl) rfl rfl).1 0 rfl)).symm
  refine op_slice_rd (lo := ((way (K.map Prod.snd) x))) (hi := P.length) slt91 (ev_base hN13 rfl q13_40) hoc (.inr ⟨_, _, rfl, (ev_base hN13 rfl q13_43)⟩) (.inl ⟨rfl, rfl⟩) (by omega) (by omega) ?_
  intro v14 hR15
  have hR15 : RdC w13 0 B 1 v14 ((P.drop (way (K.map Prod.snd) x)).length) (((P.drop (way (K.map Prod.snd) x))).flatMap cN) := by exact hR15.cast (by simp) (by rw [flat_drop cN_len, List.take_of_length_le (by rw [flat_len9 cN_len]; simp)])
  refine ke_end rfl (by decide) rfl hx ?_
  intro w16 E16 _ a16 hN16 hbs16 hdp16 o_ ho_; obtain rfl := Option.some.inj ho_
  have z_w16 := E16.size
  have hx := hx.keep0 E16
  have hoc := hoc.keep0 E16
  have hxr := hxr.keep0 E16
  have hA := hA.keepG (Gr.of0 E16 NoB) (fun _ _ h => h) (NoK.no _)
  have hR15 := hR15.keep0 E16
  have hb := hb.step0 E16
  have q16_44 : Sl a16 44 v14 := (Option.some.inj ((hdp16 7 _ 44 (by kernel_rfl) rfl rfl).1 1 rfl)).symm
  refine op_len_rd Try.underlying91 (ev_base hN16 rfl q16_44) hR15 ?_
  refine ke_end rfl (by decide) rfl hx ?_
  intro w17 E17 a17 hN17 hd17 hbs17 hph17
  have hd17 := hd17.trans ((by simp only [putsL_defers] : _ = _).trans hd)
  have z_w17 := E17.size
  have hoc := hoc.keep0 E17
  have hxr := hxr.keep0 E17
  have hA := hA.keepG (Gr.of0 E17 NoB) (fun _ _ h => h) (NoK.no _)
  have hR15 := hR15.keep0 E17
  have hb := hb.step0 E17
  have s17_1 := (hbs17 1 rfl).trans (sl_base hN rfl s1)
  have s17_2 := (hbs17 2 rfl).trans (sl_base hN rfl s2)
  have s17_44 : Sl a17 44 v14 := (Option.some.inj ((hph17 7 _ 44 rfl rfl).1 1 rfl)).symm
  have s17_45 : Sl a17 45 (Value.int .i64 ((((P.drop (way (K.map Prod.snd) x)).length) : Nat) : Int)) := (Option.some.inj ((hph17 8 _ 45 rfl rfl).1 2 rfl)).symm
  have s17_46 : Sl a17 46 (Value.int .i64 0) := (hph17 9 _ 46 rfl rfl).2 rfl
  refine hK7 _ _ (wp_block ?_)
  refine loop_m (fun mz_ az_ w' => ∃ (j : Nat) (D2 : List (DP (List UInt8))) (FA : Nat → Prop), mz_ = (P.drop (way (K.map Prod.snd) x)).length - j ∧ (az_.tmps.getD 1 undef = xv) ∧ (az_.tmps.getD 2 undef = (Value.func (.func 79) #[] #[(ptr ob 0), (ptr lb 0)])) ∧ (az_.tmps.getD 44 undef = v14) ∧ (az_.tmps.getD 45 undef = (Value.int .i64 ((((P.drop (way (K.map Prod.snd) x)).length) : Nat) : Int))) ∧ (az_.tmps.getD 46 undef = (Value.int .i64 ((j : Nat) : Int))) ∧ (j ≤ (P.drop (way (K.map Prod.snd) x)).length) ∧ (D2.map Prod.snd = (((cs.drop (way (K.map Prod.snd) x)).take j).flatMap fun c => geL x (toL h c))) ∧ (D.length + (((cs.drop (way (K.map Prod.snd) x)).take j).flatMap fun c => geL x (toL h c)).length < lim) ∧ (Gr w w' (fun k => B ≤ k)) ∧ (w17.heap.size ≤ w'.heap.size) ∧ (RdC w' 0 B 1 cv P.length (P.flatMap cN)) ∧ (RdC w' 0 B 1 xv x.length (x.map u8v)) ∧ (RdC w' 0 B 1 v14 ((P.drop (way (K.map Prod.snd) x)).length) (((P.drop (way (K.map Prod.snd) x))).flatMap cN)) ∧ (AccR kS 89 B ob lb (lim : Int) w' (D ++ D2) FA)) _ hN17 hd17 ⟨0, [], F, rfl, (sl_base hN17 rfl s17_1), (sl_base hN17 rfl s17_2), (sl_base hN17 rfl s17_44), (sl_base hN17 rfl s17_45), (sl_base hN17 rfl s17_46), (Nat.zero_le _), rfl, (by simpa using hD), hb, (Nat.le_refl _), hoc, hxr, hR15, (by simpa using hA)⟩ ?_
  rintro _ a18 w18 hN18 hd18 ⟨j, D2, FA, rfl, s18_1, s18_2, s18_44, s18_45, s18_46, hj, hD2, hlt, hb, zl_w18, hoc, hxr, hR15, hAj⟩
  have z_w18 := hb.size
  refine seq_any fun K19 hK19 => ?_
  refine one_reg (op_lss (ev_base hN18 rfl s18_46) (ev_base hN18 rfl s18_45) (fun c47 => ?_) (fun c47 => ?_))
  · -- 47T
   refine reg_nil (hK19 _ _ (seq_any fun K20 hK20 => wp_cond_true (ev_hit hN18 rfl) ?_))
   refine wp_skip ?_
   refine hK20 _ _ (seq_any fun K21 hK21 => wp_block ?_)
   refine seq_any fun K22 hK22 => one_reg (op_index_rd slt91 (ev_base hN18 rfl s18_44) hR15 (ev_base hN18 rfl s18_46) (by omega) (by omega) ?_)
   intro b23 o24 h0b23 h1b23 hc25
   refine op_load1 (v := (ptr ((P.drop (way (K.map Prod.snd) x)).getD j default) 0)) one86 (ev_hit hN18 rfl) (by have := hc25 0 (ptr ((P.drop (way (K.map Prod.snd) x)).getD j default) 0) (by decide) (el_pn (i := j) (by omega) (by first | omega | (simp only [List.length_drop, List.length_take]; omega))); simpa using this) (op_assign (ev_hit hN18 rfl) ?_)
   refine reg_nil (hK22 _ _ (seq_any fun K26 hK26 => one_reg (op_move (ev_hit hN18 rfl) (op_move (ev_base hN18 rfl s18_1) (op_move (ev_base hN18 rfl s18_2) ?_)))))
   have hl2 : D2.length = (((cs.drop (way (K.map Prod.snd) x)).take j).flatMap fun c => geL x (toL h c)).length := by have := congrArg List.length hD2; simpa using this
   obtain ⟨c, hc, hcO, _⟩ := hO.at (i := (way (K.map Prod.snd) x) + j) (by simp; omega)
   obtain ⟨f, hf, hfG⟩ := Kids.get hKs hc
   have hTn : TreeR kS R w18 h (P.getD ((way (K.map Prod.snd) x) + j) default) c f := TreeR.later hf hb (fun k hk => hW k (hNd.wg k (hfG k hk))) hR
   have hpe : (P.drop (way (K.map Prod.snd) x)).getD j default = P.getD ((way (K.map Prod.snd) x) + j) default := by simp [List.getD_eq_getElem?_getD]
   rw [← hpe] at hTn
   have hmj : (((cs.drop (way (K.map Prod.snd) x)).take (j + 1)).flatMap fun c => geL x (toL h c)) = (((cs.drop (way (K.map Prod.snd) x)).take j).flatMap fun c => geL x (toL h c)) ++ geL x (toL h c) := scan_more hc
   refine op_fn (vs := [(ptr ((P.drop (way (K.map Prod.snd) x)).getD j default) 0), xv, (Value.func (.func 79) #[] #[(ptr ob 0), (ptr lb 0)])]) ok78 ⟨(ev_hit hN18 rfl), ⟨(ev_hit hN18 rfl), ⟨(ev_hit hN18 rfl), trivial⟩⟩⟩ (IH hTn hcO (by have := (hz c (List.mem_of_getElem? hc)).2; omega) (fun k hk => hW k (hNd.wg k (hfG k hk))) hR (fun q hq => hkl q (List.mem_flatMap.2 ⟨c, List.mem_of_getElem? hc, hq⟩)) hxr hAj (by omega) (by rw [List.length_append]; omega) hlim (by have h9 := scan_room (x := x) hc; rw [List.length_append]; omega)) ?_
   rintro _ w28 ⟨E29, rfl, E2_27, F2_27, hA27, hE27⟩
   have z_w28 := E29.size
   have hoc := hoc.keepG E29 (fun k hk => .inr hk)
   have hxr := hxr.keepG E29 (fun k hk => .inr hk)
   have hR15 := hR15.keepG E29 (fun k hk => .inr hk)
   have hb := hb.go E29 (fun k _ h => h)
   rcases Bool.eq_false_or_eq_true ((decide (((D ++ D2)).length + (geL x (toL h c)).length < lim))) with c53 | c53
   · -- 53T
    rw [c53]
    refine op_not (ev_hit hN18 rfl) ?_
    refine reg_nil (hK26 _ _ (wp_cond_false (ev_hit hN18 rfl) ?_))
    refine wp_skip ?_
    refine hK21 _ _ (one_reg (op_add (ev_base hN18 rfl s18_46) rfl (add64 (by omega)) ?_))
    refine op_move (ev_hit hN18 rfl) (reg_nil ?_)
    -- round 47T 53T
    exact loop_next _ hN18 hd18 ⟨(j + 1), (D2 ++ E2_27), F2_27, rfl, (sl_base hN18 rfl s18_1), (sl_base hN18 rfl s18_2), (sl_base hN18 rfl s18_44), (sl_base hN18 rfl s18_45), (sl_hit hN18 rfl).trans (congrArg (Value.int .i64) (by omega)), (by omega), (by rw [hmj, List.map_append, hD2, hE27, List.take_of_length_le (l := geL x (toL h c)) (by have h9 := of_decide_eq_true c53; rw [List.length_append] at h9 ⊢; omega)]), (by have h9 := of_decide_eq_true c53; rw [hmj]; rw [List.length_append] at h9 ⊢; omega), hb, (by omega), hoc, hxr, hR15, (by simpa using hA27)⟩ (by omega)
   · -- 53F
    rw [c53]
    refine op_not (ev_hit hN18 rfl) ?_
    refine reg_nil (hK26 _ _ (wp_cond_true (ev_hit hN18 rfl) ?_))
    refine seq_any fun K30 hK30 => one_reg (op_assign rfl (reg_nil (hK30 _ _ (wp_ret (blk_ret (then_ret (then_ret (blk_ret (then_ret ( ?_))))))))))
    refine ret1 rfl hd18 (ev_hit hN18 rfl) ⟨_, rfl, ?_⟩
    have h9 := of_decide_eq_false c53
    rw [List.length_append] at h9
    have hle : (((cs.drop (way (K.map Prod.snd) x)).take (j + 1)).flatMap fun c => geL x (toL h c)).length ≤ ((cs.drop (way (K.map Prod.snd) x)).flatMap fun c => geL x (toL h c)).length := scan_le
    exact ⟨hb, congrArg Value.bool (decide_eq_false (by rw [hmj, List.length_append] at hle; omega)).symm, D2 ++ E2_27, F2_27, by simpa using hA27, by rw [scan_cut (j := j + 1) (by rw [hmj, List.length_append]; omega), hmj, List.map_append, hD2, hE27, List.take_append, List.take_of_length_le (l := (((cs.drop (way (K.map Prod.snd) x)).take j).flatMap fun c => geL x (toL h c))) (by omega), List.length_append, hl2, Nat.sub_add_eq]⟩
  · -- 47F
   refine reg_nil (hK19 _ _ (seq_any fun K31 hK31 => wp_cond_false (ev_hit hN18 rfl) ?_))
   refine wp_exit (then_exit (then_exit (blk_hit ?_)))
   refine hK6 _ _ (seq_any fun K32 hK32 => one_reg (op_assign rfl (reg_nil (hK32 _ _ (wp_ret ?_)))))
   refine ret1 rfl hd18 (ev_hit hN18 rfl) ⟨_, rfl, ?_⟩
   have hall : (((cs.drop (way (K.map Prod.snd) x)).take j).flatMap fun c => geL x (toL h c)) = ((cs.drop (way (K.map Prod.snd) x)).flatMap fun c => geL x (toL h c)) := by rw [List.take_of_length_le (by simp; simp at hj; omega)]
   rw [hall] at hD2 hlt
   exact ⟨hb, congrArg Value.bool (decide_eq_true hlt).symm, D2, FA, hAj, by rw [hD2, List.take_of_length_le (by omega)]⟩

theorem scanNA {h : Nat} {x : List UInt8} {xv kv cv : Value} {p ob lb B lim : Nat} {K : List DK} {P : List Nat} {cs : List (Tr (Int × Int) h)} {R W G F : Nat → Prop} {D : List (DP (Int × Int))} {w : World} (IH : ScanA h) (hNd : NodeR kA R w p kv cv K P G W) (hKs : KidsR kA R w h P cs G) (hO : Nd h (K.map Prod.snd) cs) (hz : ∀ c ∈ cs, okSz h c) (hn : K.length ≤ 6) (hW : ∀ k, W k → k < B) (hR : ∀ k, R k → k < B) (hkl : ∀ q ∈ cs.flatMap (toL h), q.1.length ≤ 1000000000) (hxr : RdC w 0 B 1 xv x.length (x.map u8v)) (hA : AccR kA 102 B ob lb (lim : Int) w D F) (hB : B ≤ w.heap.size) (hD : D.length < lim) (hlim : lim ≤ 9223372036854775807) (hDM : D.length + (cs.flatMap (toL h)).length ≤ 100000) : Ret Try.prog 76 #[(ptr p 0), xv, (Value.func (.func 77) #[] #[(ptr ob 0), (ptr lb 0)])] w (fun v' w' => Gr w w' (fun k => B ≤ k) ∧ v' = .bool (decide (D.length + ((cs.drop (way (K.map Prod.snd) x)).flatMap fun c => geL x (toL h c)).length < lim)) ∧ ∃ D2 F2, AccR kA 102 B ob lb (lim : Int) w' (D ++ D2) F2 ∧ D2.map Prod.snd = ((cs.drop (way (K.map Prod.snd) x)).flatMap fun c => geL x (toL h c)).take (lim - D.length)) := by
 have hx : Bx w p 105 [.slice none 0 0, kv, cv] := hNd.bx
 have ok := hNd.ok
 have oc : Own w 0 99 1 cv P.length (P.flatMap cN) := hNd.oc
 have ks := hNd.ks
 have hs := hO.2.1
 have hPc : P.length = cs.length := hKs.len
 have hcl : cs.length = K.length + 1 := hO.1.trans (by simp)
 have hPl : P.length = K.length + 1 := hPc.trans hcl
 have hwl : (way (K.map Prod.snd) x) ≤ K.length := by have := way_le (K.map Prod.snd) x; simpa using this
 have hdl : (P.drop (way (K.map Prod.snd) x)).length = P.length - (way (K.map Prod.snd) x) := List.length_drop
 have hoc : RdC w 0 B 1 cv P.length (P.flatMap cN) := (hNd.oc.rd fun k hk => hW k (hNd.wc k hk)).mono (Nat.zero_le _) (Nat.le_refl _)
 have hb := Gr.refl w (fun k => B ≤ k)
 refine enter (N := 56) Try.func76 rfl rfl (by simp) fun a0 hN hd hA => ?_
 have s0 : a0.tmps.getD 0 undef = (ptr p 0) := hA 0 (by simp)
 have s1 : a0.tmps.getD 1 undef = xv := hA 1 (by simp)
 have s2 : a0.tmps.getD 2 undef = (Value.func (.func 77) #[] #[(ptr ob 0), (ptr lb 0)]) := hA 2 (by simp)
 clear hA
 refine seq_any fun K3 hK3 => one_reg (op_assign rfl ?_)
 refine reg_nil (hK3 _ _ (seq_any fun K4 hK4 => seq_any fun K5 hK5 => one_reg (op_move (ev_base hN rfl s0) (op_fn (vs := [(ptr p 0)]) ok70 ⟨(ev_hit hN rfl), trivial⟩ (Ret.flip (leafNA hx ok oc (by omega) (by omega))) ?_))))
 rintro _ _ ⟨rfl, rfl⟩
 refine reg_nil (hK5 _ _ (wp_cond_false (ev_hit hN rfl) ?_))
 refine wp_skip ?_
 refine hK4 _ _ (seq_any fun K6 hK6 => seq_any fun K7 hK7 => ?_)
 refine reg_env (φ := phiV [(fun uz => uz = (ptr p 0)), (fun uz => uz = (ptr p 0)), (fun uz => uz = (ptr p 2)), (fun uz => uz = cv), (fun uz => uz = (ptr p 0)), (fun uz => uz = xv), (fun _ => True), (fun _ => True), (fun _ => True), (fun uz => uz = (Value.int .i64 0))]) (G := fun w' => Bx w' p 105 [(Value.slice none 0 0), kv, cv]) [6, 7, 8] mixed (by kernel_rfl) (by kernel_rfl) (by kernel_rfl) (by kernel_rfl) hN (fun w1 w2 E h => h.keep0 E) hx (ObEs.cons ?_ (ObEs.cons ?_ (ObEs.cons ?_ (ObEs.cons ?_ (ObEs.cons ?_ (ObEs.cons ?_ (ObEs.pass rfl (ObEs.pass rfl (ObEs.pass rfl (ObEs.cons ?_ (ObEs.nil))))))))))) (by simp only [putsL_defers]) ?_
 ·
  intro eA aA wA hNA hGA hbsA hdpA
  have qA_0 := (hbsA 0 rfl).trans (sl_base hN rfl s0)
  refine op_move (ev_base hNA rfl qA_0) ?_
  exact obE_end rfl rfl rfl
 ·
  intro eA aA wA hNA hGA hbsA hdpA
  have qA_37 : Sl aA 37 (ptr p 0) := (hdpA 0 _ 37 (by kernel_rfl) rfl rfl).2 rfl
  refine op_nil (ev_base hNA rfl qA_37) ?_
  exact obE_end rfl rfl rfl
 ·
  intro eA aA wA hNA hGA hbsA hdpA
  have qA_38 : Sl aA 38 (ptr p 0) := (hdpA 1 _ 38 (by kernel_rfl) rfl rfl).2 rfl
  refine op_field fld105_2 (ev_base hNA rfl qA_38) ?_
  exact obE_end rfl rfl rfl
 ·
  intro eA aA wA hNA hGA hbsA hdpA
  have qA_39 : Sl aA 39 (ptr p 2) := (hdpA 2 _ 39 (by kernel_rfl) rfl rfl).2 rfl
  refine op_load1 (v := cv) one103 (ev_base hNA rfl qA_39) (hGA.cell rfl) ?_
  exact obE_end rfl rfl rfl
 ·
  intro eA aA wA hNA hGA hbsA hdpA
  have qA_0 := (hbsA 0 rfl).trans (sl_base hN rfl s0)
  refine op_move (ev_base hNA rfl qA_0) ?_
  exact obE_end rfl rfl rfl
 ·
  intro eA aA wA hNA hGA hbsA hdpA
  have qA_1 := (hbsA 1 rfl).trans (sl_base hN rfl s1)
  refine op_move (ev_base hNA rfl qA_1) ?_
  exact obE_end rfl rfl rfl
 ·
  intro eA aA wA hNA hGA hbsA hdpA
  refine op_move rfl ?_
  exact obE_end rfl rfl rfl
 ·
  intro w10 E10 _ a10 hN10 hbs10 hdp10 o_ ho_; obtain rfl := Option.some.inj ho_
  have z_w10 := E10.size
  have hx := hx.keep0 E10
  have ok := ok.keep0 E10
  have oc := oc.keep0 E10
  have ks := all9 ks fun _ h => h.keep0 E10
  have hoc := hoc.keep0 E10
  have hxr := hxr.keep0 E10
  have hA := hA.keepG (Gr.of0 E10 NoB) (fun _ _ h => h) (NoK.no _)
  have hb := hb.step0 E10
  have q10_41 : Sl a10 41 (ptr p 0) := (hdp10 4 _ 41 (by kernel_rfl) rfl rfl).2 rfl
  have q10_42 : Sl a10 42 xv := (hdp10 5 _ 42 (by kernel_rfl) rfl rfl).2 rfl
  refine op_fn (vs := [(ptr p 0), xv]) ok73 ⟨(ev_base hN10 rfl q10_41), ⟨(ev_base hN10 rfl q10_42), trivial⟩⟩ (wayA hx ok oc ks hs (by omega) (hxr.mono (Nat.zero_le _) (by omega))) ?_
  rintro _ w11 ⟨E12, rfl⟩
  have E12 := grown_of_below E12
  have z_w11 := E12.size
  have hx := hx.keep0 E12
  have hoc := hoc.keep0 E12
  have hxr := hxr.keep0 E12
  have hA := hA.keepG (Gr.of0 E12 NoB) (fun _ _ h => h) (NoK.no _)
  have hb := hb.step0 E12
  refine ke_end rfl (by decide) rfl hx ?_
  intro w13 E13 _ a13 hN13 hbs13 hdp13 o_ ho_; obtain rfl := Option.some.inj ho_
  have z_w13 := E13.size
  have hx := hx.keep0 E13
  have hoc := hoc.keep0 E13
  have hxr := hxr.keep0 E13
  have hA := hA.keepG (Gr.of0 E13 NoB) (fun _ _ h => h) (NoK.no _)
  have hb := hb.step0 E13
  have q13_40 : Sl a13 40 cv := (hdp13 3 _ 40 (by kernel_rfl) rfl rfl).2 rfl
  have q13_43 : Sl a13 43 (Value.int .i64 (((way (K.map Prod.snd) x) : Nat) : Int)) := (Option.some.inj ((hdp13 6 _ 43 (by kernel_rfl) rfl rfl).1 0 rfl)).symm
  refine op_slice_rd (lo := ((way (K.map Prod.snd) x))) (hi := P.length) slt103 (ev_base hN13 rfl q13_40) hoc (.inr ⟨_, _, rfl, (ev_base hN13 rfl q13_43)⟩) (.inl ⟨rfl, rfl⟩) (by omega) (by omega) ?_
  intro v14 hR15
  have hR15 : RdC w13 0 B 1 v14 ((P.drop (way (K.map Prod.snd) x)).length) (((P.drop (way (K.map Prod.snd) x))).flatMap cN) := by exact hR15.cast (by simp) (by rw [flat_drop cN_len, List.take_of_length_le (by rw [flat_len9 cN_len]; simp)])
  refine ke_end rfl (by decide) rfl hx ?_
  intro w16 E16 _ a16 hN16 hbs16 hdp16 o_ ho_; obtain rfl := Option.some.inj ho_
  have z_w16 := E16.size
  have hx := hx.keep0 E16
  have hoc := hoc.keep0 E16
  have hxr := hxr.keep0 E16
  have hA := hA.keepG (Gr.of0 E16 NoB) (fun _ _ h => h) (NoK.no _)
  have hR15 := hR15.keep0 E16
  have hb := hb.step0 E16
  have q16_44 : Sl a16 44 v14 := (Option.some.inj ((hdp16 7 _ 44 (by kernel_rfl) rfl rfl).1 1 rfl)).symm
  refine op_len_rd Try.underlying103 (ev_base hN16 rfl q16_44) hR15 ?_
  refine ke_end rfl (by decide) rfl hx ?_
  intro w17 E17 a17 hN17 hd17 hbs17 hph17
  have hd17 := hd17.trans ((by simp only [putsL_defers] : _ = _).trans hd)
  have z_w17 := E17.size
  have hoc := hoc.keep0 E17
  have hxr := hxr.keep0 E17
  have hA := hA.keepG (Gr.of0 E17 NoB) (fun _ _ h => h) (NoK.no _)
  have hR15 := hR15.keep0 E17
  have hb := hb.step0 E17
  have s17_1 := (hbs17 1 rfl).trans (sl_base hN rfl s1)
  have s17_2 := (hbs17 2 rfl).trans (sl_base hN rfl s2)
  have s17_44 : Sl a17 44 v14 := (Option.some.inj ((hph17 7 _ 44 rfl rfl).1 1 rfl)).symm
  have s17_45 : Sl a17 45 (Value.int .i64 ((((P.drop (way (K.map Prod.snd) x)).length) : Nat) : Int)) := (Option.some.inj ((hph17 8 _ 45 rfl rfl).1 2 rfl)).symm
  have s17_46 : Sl a17 46 (Value.int .i64 0) := (hph17 9 _ 46 rfl rfl).2 rfl
  refine hK7 _ _ (wp_block ?_)
  refine loop_m (fun mz_ az_ w' => ∃ (j : Nat) (D2 : List (DP (Int × Int))) (FA : Nat → Prop), mz_ = (P.drop (way (K.map Prod.snd) x)).length - j ∧ (az_.tmps.getD 1 undef = xv) ∧ (az_.tmps.getD 2 undef = (Value.func (.func 77) #[] #[(ptr ob 0), (ptr lb 0)])) ∧ (az_.tmps.getD 44 undef = v14) ∧ (az_.tmps.getD 45 undef = (Value.int .i64 ((((P.drop (way (K.map Prod.snd) x)).length) : Nat) : Int))) ∧ (az_.tmps.getD 46 undef = (Value.int .i64 ((j : Nat) : Int))) ∧ (j ≤ (P.drop (way (K.map Prod.snd) x)).length) ∧ (D2.map Prod.snd = (((cs.drop (way (K.map Prod.snd) x)).take j).flatMap fun c => geL x (toL h c))) ∧ (D.length + (((cs.drop (way (K.map Prod.snd) x)).take j).flatMap fun c => geL x (toL h c)).length < lim) ∧ (Gr w w' (fun k => B ≤ k)) ∧ (w17.heap.size ≤ w'.heap.size) ∧ (RdC w' 0 B 1 cv P.length (P.flatMap cN)) ∧ (RdC w' 0 B 1 xv x.length (x.map u8v)) ∧ (RdC w' 0 B 1 v14 ((P.drop (way (K.map Prod.snd) x)).length) (((P.drop (way (K.map Prod.snd) x))).flatMap cN)) ∧ (AccR kA 102 B ob lb (lim : Int) w' (D ++ D2) FA)) _ hN17 hd17 ⟨0, [], F, rfl, (sl_base hN17 rfl s17_1), (sl_base hN17 rfl s17_2), (sl_base hN17 rfl s17_44), (sl_base hN17 rfl s17_45), (sl_base hN17 rfl s17_46), (Nat.zero_le _), rfl, (by simpa using hD), hb, (Nat.le_refl _), hoc, hxr, hR15, (by simpa using hA)⟩ ?_
  rintro _ a18 w18 hN18 hd18 ⟨j, D2, FA, rfl, s18_1, s18_2, s18_44, s18_45, s18_46, hj, hD2, hlt, hb, zl_w18, hoc, hxr, hR15, hAj⟩
  have z_w18 := hb.size
  refine seq_any fun K19 hK19 => ?_
  refine one_reg (op_lss (ev_base hN18 rfl s18_46) (ev_base hN18 rfl s18_45) (fun c47 => ?_) (fun c47 => ?_))
  · -- 47T
   refine reg_nil (hK19 _ _ (seq_any fun K20 hK20 => wp_cond_true (ev_hit hN18 rfl) ?_))
   refine wp_skip ?_
   refine hK20 _ _ (seq_any fun K21 hK21 => wp_block ?_)
   refine seq_any fun K22 hK22 => one_reg (op_index_rd slt103 (ev_base hN18 rfl s18_44) hR15 (ev_base hN18 rfl s18_46) (by omega) (by omega) ?_)
   intro b23 o24 h0b23 h1b23 hc25
   refine op_load1 (v := (ptr ((P.drop (way (K.map Prod.snd) x)).getD j default) 0)) one99 (ev_hit hN18 rfl) (by have := hc25 0 (ptr ((P.drop (way (K.map Prod.snd) x)).getD j default) 0) (by decide) (el_pn (i := j) (by omega) (by first | omega | (simp only [List.length_drop, List.length_take]; omega))); simpa using this) (op_assign (ev_hit hN18 rfl) ?_)
   refine reg_nil (hK22 _ _ (seq_any fun K26 hK26 => one_reg (op_move (ev_hit hN18 rfl) (op_move (ev_base hN18 rfl s18_1) (op_move (ev_base hN18 rfl s18_2) ?_)))))
   have hl2 : D2.length = (((cs.drop (way (K.map Prod.snd) x)).take j).flatMap fun c => geL x (toL h c)).length := by have := congrArg List.length hD2; simpa using this
   obtain ⟨c, hc, hcO, _⟩ := hO.at (i := (way (K.map Prod.snd) x) + j) (by simp; omega)
   obtain ⟨f, hf, hfG⟩ := Kids.get hKs hc
   have hTn : TreeR kA R w18 h (P.getD ((way (K.map Prod.snd) x) + j) default) c f := TreeR.later hf hb (fun k hk => hW k (hNd.wg k (hfG k hk))) hR
   have hpe : (P.drop (way (K.map Prod.snd) x)).getD j default = P.getD ((way (K.map Prod.snd) x) + j) default := by simp [List.getD_eq_getElem?_getD]
   rw [← hpe] at hTn
   have hmj : (((cs.drop (way (K.map Prod.snd) x)).take (j + 1)).flatMap fun c => geL x (toL h c)) = (((cs.drop (way (K.map Prod.snd) x)).take j).flatMap fun c => geL x (toL h c)) ++ geL x (toL h c) := scan_more hc
   refine op_fn (vs := [(ptr ((P.drop (way (K.map Prod.snd) x)).getD j default) 0), xv, (Value.func (.func 77) #[] #[(ptr ob 0), (ptr lb 0)])]) ok76 ⟨(ev_hit hN18 rfl), ⟨(ev_hit hN18 rfl), ⟨(ev_hit hN18 rfl), trivial⟩⟩⟩ (IH hTn hcO (by have := (hz c (List.mem_of_getElem? hc)).2; omega) (fun k hk => hW k (hNd.wg k (hfG k hk))) hR (fun q hq => hkl q (List.mem_flatMap.2 ⟨c, List.mem_of_getElem? hc, hq⟩)) hxr hAj (by omega) (by rw [List.length_append]; omega) hlim (by have h9 := scan_room (x := x) hc; rw [List.length_append]; omega)) ?_
   rintro _ w28 ⟨E29, rfl, E2_27, F2_27, hA27, hE27⟩
   have z_w28 := E29.size
   have hoc := hoc.keepG E29 (fun k hk => .inr hk)
   have hxr := hxr.keepG E29 (fun k hk => .inr hk)
   have hR15 := hR15.keepG E29 (fun k hk => .inr hk)
   have hb := hb.go E29 (fun k _ h => h)
   rcases Bool.eq_false_or_eq_true ((decide (((D ++ D2)).length + (geL x (toL h c)).length < lim))) with c53 | c53
   · -- 53T
    rw [c53]
    refine op_not (ev_hit hN18 rfl) ?_
    refine reg_nil (hK26 _ _ (wp_cond_false (ev_hit hN18 rfl) ?_))
    refine wp_skip ?_
    refine hK21 _ _ (one_reg (op_add (ev_base hN18 rfl s18_46) rfl (add64 (by omega)) ?_))
    refine op_move (ev_hit hN18 rfl) (reg_nil ?_)
    -- round 47T 53T
    exact loop_next _ hN18 hd18 ⟨(j + 1), (D2 ++ E2_27), F2_27, rfl, (sl_base hN18 rfl s18_1), (sl_base hN18 rfl s18_2), (sl_base hN18 rfl s18_44), (sl_base hN18 rfl s18_45), (sl_hit hN18 rfl).trans (congrArg (Value.int .i64) (by omega)), (by omega), (by rw [hmj, List.map_append, hD2, hE27, List.take_of_length_le (l := geL x (toL h c)) (by have h9 := of_decide_eq_true c53; rw [List.length_append] at h9 ⊢; omega)]), (by have h9 := of_decide_eq_true c53; rw [hmj]; rw [List.length_append] at h9 ⊢; omega), hb, (by omega), hoc, hxr, hR15, (by simpa using hA27)⟩ (by omega)
   · -- 53F
    rw [c53]
    refine op_not (ev_hit hN18 rfl) ?_
    refine reg_nil (hK26 _ _ (wp_cond_true (ev_hit hN18 rfl) ?_))
    refine seq_any fun K30 hK30 => one_reg (op_assign rfl (reg_nil (hK30 _ _ (wp_ret (blk_ret (then_ret (then_ret (blk_ret (then_ret ( ?_))))))))))
    refine ret1 rfl hd18 (ev_hit hN18 rfl) ⟨_, rfl, ?_⟩
    have h9 := of_decide_eq_false c53
    rw [List.length_append] at h9
    have hle : (((cs.drop (way (K.map Prod.snd) x)).take (j + 1)).flatMap fun c => geL x (toL h c)).length ≤ ((cs.drop (way (K.map Prod.snd) x)).flatMap fun c => geL x (toL h c)).length := scan_le
    exact ⟨hb, congrArg Value.bool (decide_eq_false (by rw [hmj, List.length_append] at hle; omega)).symm, D2 ++ E2_27, F2_27, by simpa using hA27, by rw [scan_cut (j := j + 1) (by rw [hmj, List.length_append]; omega), hmj, List.map_append, hD2, hE27, List.take_append, List.take_of_length_le (l := (((cs.drop (way (K.map Prod.snd) x)).take j).flatMap fun c => geL x (toL h c))) (by omega), List.length_append, hl2, Nat.sub_add_eq]⟩
  · -- 47F
   refine reg_nil (hK19 _ _ (seq_any fun K31 hK31 => wp_cond_false (ev_hit hN18 rfl) ?_))
   refine wp_exit (then_exit (then_exit (blk_hit ?_)))
   refine hK6 _ _ (seq_any fun K32 hK32 => one_reg (op_assign rfl (reg_nil (hK32 _ _ (wp_ret ?_)))))
   refine ret1 rfl hd18 (ev_hit hN18 rfl) ⟨_, rfl, ?_⟩
   have hall : (((cs.drop (way (K.map Prod.snd) x)).take j).flatMap fun c => geL x (toL h c)) = ((cs.drop (way (K.map Prod.snd) x)).flatMap fun c => geL x (toL h c)) := by rw [List.take_of_length_le (by simp; simp at hj; omega)]
   rw [hall] at hD2 hlt
   exact ⟨hb, congrArg Value.bool (decide_eq_true hlt).symm, D2, FA, hAj, by rw [hD2, List.take_of_length_le (by omega)]⟩

end Go.Proofs.Ytcpfdfejojghbaa

/- Walks, written by a program: what each function of the translation hands back. -/
namespace Go.Proofs.Ytcpfdfejojghbaa
open Go.Gx Go.RowKit
attribute [local irreducible] wpList wpStill Code.wp Calls
open Go.Bt
theorem scanAllI : ∀ h, ScanI h
  | 0 => scan0I
  | h + 1 => by
    intro x xv p ob lb B lim t R W F D w T hO h6 hW hR hkl hxr hA hB hD hlim hDM
    obtain ⟨kv, cv, K, P, G, hN, hKs, e⟩ := T
    obtain ⟨kl, cs⟩ := t
    have e' : K.map Prod.snd = kl := e
    subst e'
    obtain ⟨h1, h2⟩ := ok_node.1 hO
    have hg : geL x (toL (h + 1) ((K.map Prod.snd, cs) : Tr (Int) (h + 1))) = (cs.drop (way (K.map Prod.snd) x)).flatMap (fun c => geL x (toL h c)) := geL_node h1
    rw [hg]
    exact scanNI (scanAllI h) hN hKs h1 h2 (by have h9 : (K.map Prod.snd).length ≤ 6 := h6; simpa using h9) hW hR hkl hxr hA hB hD hlim hDM
theorem scanAllS : ∀ h, ScanS h
  | 0 => scan0S
  | h + 1 => by
    intro x xv p ob lb B lim t R W F D w T hO h6 hW hR hkl hxr hA hB hD hlim hDM
    obtain ⟨kv, cv, K, P, G, hN, hKs, e⟩ := T
    obtain ⟨kl, cs⟩ := t
    have e' : K.map Prod.snd = kl := e
    subst e'
    obtain ⟨h1, h2⟩ := ok_node.1 hO
    have hg : geL x (toL (h + 1) ((K.map Prod.snd, cs) : Tr (List UInt8) (h + 1))) = (cs.drop (way (K.map Prod.snd) x)).flatMap (fun c => geL x (toL h c)) := geL_node h1
    rw [hg]
    exact scanNS (scanAllS h) hN hKs h1 h2 (by have h9 : (K.map Prod.snd).length ≤ 6 := h6; simpa using h9) hW hR hkl hxr hA hB hD hlim hDM
theorem scanAllA : ∀ h, ScanA h
  | 0 => scan0A
  | h + 1 => by
    intro x xv p ob lb B lim t R W F D w T hO h6 hW hR hkl hxr hA hB hD hlim hDM
    obtain ⟨kv, cv, K, P, G, hN, hKs, e⟩ := T
    obtain ⟨kl, cs⟩ := t
    have e' : K.map Prod.snd = kl := e
    subst e'
    obtain ⟨h1, h2⟩ := ok_node.1 hO
    have hg : geL x (toL (h + 1) ((K.map Prod.snd, cs) : Tr (Int × Int) (h + 1))) = (cs.drop (way (K.map Prod.snd) x)).flatMap (fun c => geL x (toL h c)) := geL_node h1
    rw [hg]
    exact scanNA (scanAllA h) hN hKs h1 h2 (by have h9 : (K.map Prod.snd).length ≤ 6 := h6; simpa using h9) hW hR hkl hxr hA hB hD hlim hDM
end Go.Proofs.Ytcpfdfejojghbaa

/- Walks, written by a program: what each function of the translation hands back. -/
namespace Go.Proofs.Ytcpfdfejojghbaa
open Go.Gx Go.RowKit
attribute [local irreducible] wpList wpStill Code.wp Calls
open Go.Bt
theorem scanT0I {p : Nat} {m : Int} {xv : Value} {w : World} (hx : Bx w p 71 [.pointer none]) : Ret Try.prog 24 #[(ptr p 0), xv, (Value.int .i64 m)] w (fun v' w' => Below w.heap.size w w' ∧ v' = .slice none 0 0) := by
 have hb := Below.refl w.heap.size w
 refine enter (N := 29) Try.func24 rfl rfl (by simp) fun a0 hN hd hA => ?_
 have s0 : a0.tmps.getD 0 undef = (ptr p 0) := hA 0 (by simp)
 have s2 : a0.tmps.getD 2 undef = (Value.int .i64 m) := hA 2 (by simp)
 clear hA
 refine seq_any fun K3 hK3 => one_reg (op_box (cs := [(Value.int .i64 m)]) (ev_base hN rfl s2) rfl ?_)
 intro w4 b5 lo_b5 hi_b5 hB7 E6
 have z_w4 := E6.size
 have hx := hx.keep0 E6
 have hb := below_step0 hb E6 hb.size
 refine op_assign rfl ?_
 refine reg_nil (hK3 _ _ (seq_any fun K8 hK8 => seq_any fun K9 hK9 => one_reg (op_move (ev_base hN rfl s0) (op_peq_some ptrt45 (ev_hit hN rfl) rfl ?_))))
 refine op_move (ev_hit hN rfl) (g_true (j := 2) (dj := 10) (b := false) rfl rfl rfl (ev_hit hN rfl) ?_)
 refine op_move (ev_base hN rfl s0) (g_true (j := 2) (dj := 10) (b := false) rfl rfl rfl (ev_hit hN rfl) ?_)
 refine op_nil (ev_hit hN rfl) (g_true (j := 2) (dj := 10) (b := false) rfl rfl rfl (ev_hit hN rfl) ?_)
 refine op_field fld71_0 (ev_hit hN rfl) (g_true (j := 2) (dj := 10) (b := false) rfl rfl rfl (ev_hit hN rfl) ?_)
 refine op_load1 (v := (Value.pointer none)) one69 (ev_hit hN rfl) (hx.cell rfl) (g_true (j := 2) (dj := 10) (b := false) rfl rfl rfl (ev_hit hN rfl) ?_)
 refine op_peq_none ptrt69 (ev_hit hN rfl) rfl ?_
 refine op_pick_f (ev_hit hN rfl) (ev_hit hN rfl) ?_
 refine op_move (ev_hit hN rfl) (g_false (j := 9) (dj := 17) (b := false) rfl rfl rfl (ev_hit hN rfl) rfl rfl ?_)
 refine g_false (j := 9) (dj := 17) (b := false) rfl rfl rfl (ev_hit hN rfl) rfl rfl ?_
 refine op_pick_t (ev_hit hN rfl) rfl ?_
 refine reg_nil (hK9 _ _ (wp_cond_true (ev_hit hN rfl) ?_))
 refine seq_any fun K10 hK10 => one_reg (op_assign rfl (reg_nil (hK10 _ _ (wp_ret (then_ret ( ?_))))))
 refine ret1 rfl hd (ev_hit hN rfl) ⟨_, rfl, ?_⟩
 exact ⟨hb, rfl⟩

theorem scanT1I {x : List UInt8} {xv : Value} {p q h lim : Nat} {t : Tr (Int) h} {R W : Nat → Prop} {w : World} (hx : Bx w p 71 [ptr q 0]) (hT : TreeR kI R w h q t W) (hO : Ok h t) (h6 : szT h t ≤ 6) (hR : ∀ k, R k → k < w.heap.size) (hkl : ∀ q ∈ toL h t, q.1.length ≤ 1000000000) (hxr : RdC w 0 w.heap.size 1 xv x.length (x.map u8v)) (h1 : 1 ≤ lim) (hlim : lim ≤ 9223372036854775807) (hDM : (toL h t).length ≤ 100000) : Ret Try.prog 24 #[(ptr p 0), xv, (Value.int .i64 ((lim : Nat) : Int))] w (fun v' w' => Below w.heap.size w w' ∧ ∃ D2 : List (DP (Int)), Own w' w.heap.size 51 2 v' D2.length (D2.flatMap cI) ∧ (∀ x9 ∈ D2.map pk, Own w' w.heap.size 5 1 x9.1 x9.2.length (x9.2.map u8v)) ∧ D2.map Prod.snd = (geL x (toL h t)).take lim ∧ (D2.map pk).Pairwise (fun a b => Dj (Bl a.1) (Bl b.1))) := by
 have hb := Below.refl w.heap.size w
 refine enter (N := 29) Try.func24 rfl rfl (by simp) fun a0 hN hd hA => ?_
 have s0 : a0.tmps.getD 0 undef = (ptr p 0) := hA 0 (by simp)
 have s1 : a0.tmps.getD 1 undef = xv := hA 1 (by simp)
 have s2 : a0.tmps.getD 2 undef = (Value.int .i64 ((lim : Nat) : Int)) := hA 2 (by simp)
 clear hA
 refine seq_any fun K4 hK4 => one_reg (op_box (cs := [(Value.int .i64 ((lim : Nat) : Int))]) (ev_base hN rfl s2) rfl ?_)
 intro w5 b7 lo_b7 hi_b7 hB11 E10
 have z_w5 := E10.size
 have hx := hx.keep0 E10
 have hxr := hxr.keep0 E10
 have hb := below_step0 hb E10 hb.size
 refine op_assign rfl ?_
 refine reg_nil (hK4 _ _ (seq_any fun K12 hK12 => seq_any fun K13 hK13 => one_reg (op_move (ev_base hN rfl s0) (op_peq_some ptrt45 (ev_hit hN rfl) rfl ?_))))
 refine op_move (ev_hit hN rfl) (g_true (j := 2) (dj := 10) (b := false) rfl rfl rfl (ev_hit hN rfl) ?_)
 refine op_move (ev_base hN rfl s0) (g_true (j := 2) (dj := 10) (b := false) rfl rfl rfl (ev_hit hN rfl) ?_)
 refine op_nil (ev_hit hN rfl) (g_true (j := 2) (dj := 10) (b := false) rfl rfl rfl (ev_hit hN rfl) ?_)
 refine op_field fld71_0 (ev_hit hN rfl) (g_true (j := 2) (dj := 10) (b := false) rfl rfl rfl (ev_hit hN rfl) ?_)
 refine op_load1 (v := (ptr q 0)) one69 (ev_hit hN rfl) (hx.cell rfl) (g_true (j := 2) (dj := 10) (b := false) rfl rfl rfl (ev_hit hN rfl) ?_)
 refine op_peq_some ptrt69 (ev_hit hN rfl) rfl ?_
 refine op_pick_f (ev_hit hN rfl) (ev_hit hN rfl) ?_
 refine op_move (ev_hit hN rfl) (g_true (j := 9) (dj := 17) (b := false) rfl rfl rfl (ev_hit hN rfl) ?_)
 refine op_load1 (v := (Value.int .i64 ((lim : Nat) : Int))) one3 (ev_hit hN rfl) (hB11.cell rfl) (g_true (j := 9) (dj := 17) (b := false) rfl rfl rfl (ev_hit hN rfl) ?_)
 refine op_lss (ev_hit hN rfl) rfl (fun c19 => ?_) (fun c19 => ?_)
 · -- 19T
  exfalso; omega
 · -- 19F
  refine op_pick_f (ev_hit hN rfl) (ev_hit hN rfl) ?_
  refine reg_nil (hK13 _ _ (wp_cond_false (ev_hit hN rfl) ?_))
  refine wp_skip ?_
  refine hK12 _ _ (seq_any fun K14 hK14 => one_reg (op_alloc (cs := [(Value.slice none 0 0)]) zero48 rfl ?_))
  intro w15 b16 lo_b16 hi_b16 hB18 E17
  have z_w15 := E17.size
  have hx := hx.keep0 E17
  have hxr := hxr.keep0 E17
  have hB11 := hB11.keep0 E17
  have hb := below_step0 hb E17 hb.size
  refine reg_nil (hK14 _ _ (seq_any fun K20 hK20 => ?_))
  refine one_reg (op_move (ev_base hN rfl s0) (op_nil (ev_hit hN rfl) (op_field fld71_0 (ev_hit hN rfl) (op_load1 (v := (ptr q 0)) one69 (ev_hit hN rfl) (hx.cell rfl) (op_move (ev_base hN rfl s1) (op_mkfn (cv := [(ptr b16 0), (ptr b7 0)]) ⟨(ev_hit hN rfl), ⟨(ev_hit hN rfl), trivial⟩⟩ ?_))))))
  refine op_fn (vs := [(ptr q 0), xv, (Value.func (.func 50) #[] #[(ptr b16 0), (ptr b7 0)])]) ok49 ⟨(ev_hit hN rfl), ⟨(ev_hit hN rfl), ⟨(ev_hit hN rfl), trivial⟩⟩⟩ (scanAllI h (TreeR.later (B := w.heap.size) hT (Gr.ofBelow hb _) hT.ty.lt hR) hO h6 hT.ty.lt hR hkl hxr (show AccR kI 48 w.heap.size b16 b7 (lim : Int) w15 [] (fun k => k = b16 ∨ k = b7 ∨ Bl (.slice none 0 0) k) from ⟨by omega, by omega, by omega, ⟨_, hB18, Own.nil _ _ _ _, fun _ => Iff.rfl⟩, hB11, fun _ h => (by cases h), List.Pairwise.nil⟩) hb.size (show 0 < lim by omega) hlim (by simpa using hDM)) ?_
  rintro _ w22 ⟨E23, rfl, D2_21, F2_21, hA21, hE21⟩
  have z_w22 := E23.size
  have hb := below_stepG hb E23 hb.size (fun k hk => hk)
  obtain ⟨_, _, _, ⟨ov21, hob21, hOv21, _⟩, _, hks21, hpw9⟩ := hA21
  refine reg_nil (hK20 _ _ (seq_any fun K24 hK24 => one_reg (op_load1 (v := ov21) one48 (ev_hit hN rfl) (hob21.cell rfl) (op_assign (ev_hit hN rfl) ?_))))
  refine reg_nil (hK24 _ _ (wp_ret ?_))
  refine ret1 rfl hd (ev_hit hN rfl) ⟨_, rfl, ?_⟩
  exact ⟨hb, D2_21, hOv21, hks21, by simpa using hE21, hpw9⟩

theorem scanT0S {p : Nat} {m : Int} {xv : Value} {w : World} (hx : Bx w p 88 [.pointer none]) : Ret Try.prog 46 #[(ptr p 0), xv, (Value.int .i64 m)] w (fun v' w' => Below w.heap.size w w' ∧ v' = .slice none 0 0) := by
 have hb := Below.refl w.heap.size w
 refine enter (N := 29) Try.func46 rfl rfl (by simp) fun a0 hN hd hA => ?_
 have s0 : a0.tmps.getD 0 undef = (ptr p 0) := hA 0 (by simp)
 have s2 : a0.tmps.getD 2 undef = (Value.int .i64 m) := hA 2 (by simp)
 clear hA
 refine seq_any fun K3 hK3 => one_reg (op_box (cs := [(Value.int .i64 m)]) (ev_base hN rfl s2) rfl ?_)
 intro w4 b5 lo_b5 hi_b5 hB7 E6
 have z_w4 := E6.size
 have hx := hx.keep0 E6
 have hb := below_step0 hb E6 hb.size
 refine op_assign rfl ?_
 refine reg_nil (hK3 _ _ (seq_any fun K8 hK8 => seq_any fun K9 hK9 => one_reg (op_move (ev_base hN rfl s0) (op_peq_some ptrt23 (ev_hit hN rfl) rfl ?_))))
 refine op_move (ev_hit hN rfl) (g_true (j := 2) (dj := 10) (b := false) rfl rfl rfl (ev_hit hN rfl) ?_)
 refine op_move (ev_base hN rfl s0) (g_true (j := 2) (dj := 10) (b := false) rfl rfl rfl (ev_hit hN rfl) ?_)
 refine op_nil (ev_hit hN rfl) (g_true (j := 2) (dj := 10) (b := false) rfl rfl rfl (ev_hit hN rfl) ?_)
 refine op_field fld88_0 (ev_hit hN rfl) (g_true (j := 2) (dj := 10) (b := false) rfl rfl rfl (ev_hit hN rfl) ?_)
 refine op_load1 (v := (Value.pointer none)) one86 (ev_hit hN rfl) (hx.cell rfl) (g_true (j := 2) (dj := 10) (b := false) rfl rfl rfl (ev_hit hN rfl) ?_)
 refine op_peq_none ptrt86 (ev_hit hN rfl) rfl ?_
 refine op_pick_f (ev_hit hN rfl) (ev_hit hN rfl) ?_
 refine op_move (ev_hit hN rfl) (g_false (j := 9) (dj := 17) (b := false) rfl rfl rfl (ev_hit hN rfl) rfl rfl ?_)
 refine g_false (j := 9) (dj := 17) (b := false) rfl rfl rfl (ev_hit hN rfl) rfl rfl ?_
 refine op_pick_t (ev_hit hN rfl) rfl ?_
 refine reg_nil (hK9 _ _ (wp_cond_true (ev_hit hN rfl) ?_))
 refine seq_any fun K10 hK10 => one_reg (op_assign rfl (reg_nil (hK10 _ _ (wp_ret (then_ret ( ?_))))))
 refine ret1 rfl hd (ev_hit hN rfl) ⟨_, rfl, ?_⟩
 exact ⟨hb, rfl⟩

theorem scanT1S {x : List UInt8} {xv : Value} {p q h lim : Nat} {t : Tr (List UInt8) h} {R W : Nat → Prop} {w : World} (hx : Bx w p 88 [ptr q 0]) (hT : TreeR kS R w h q t W) (hO : Ok h t) (h6 : szT h t ≤ 6) (hR : ∀ k, R k → k < w.heap.size) (hkl : ∀ q ∈ toL h t, q.1.length ≤ 1000000000) (hxr : RdC w 0 w.heap.size 1 xv x.length (x.map u8v)) (h1 : 1 ≤ lim) (hlim : lim ≤ 9223372036854775807) (hDM : (toL h t).length ≤ 100000) : Ret Try.prog 46 #[(ptr p 0), xv, (Value.int .i64 ((lim : Nat) : Int))] w (fun v' w' => Below w.heap.size w w' ∧ ∃ D2 : List (DP (List UInt8)), Own w' w.heap.size 98 2 v' D2.length (D2.flatMap cS) ∧ (∀ x9 ∈ D2.map pk, Own w' w.heap.size 5 1 x9.1 x9.2.length (x9.2.map u8v)) ∧ D2.map Prod.snd = (geL x (toL h t)).take lim ∧ (D2.map pk).Pairwise (fun a b => Dj (Bl a.1) (Bl b.1))) := by
 have hb := Below.refl w.heap.size w
 refine enter (N := 29) Try.func46 rfl rfl (by simp) fun a0 hN hd hA => ?_
 have s0 : a0.tmps.getD 0 undef = (ptr p 0) := hA 0 (by simp)
 have s1 : a0.tmps.getD 1 undef = xv := hA 1 (by simp)
 have s2 : a0.tmps.getD 2 undef = (Value.int .i64 ((lim : Nat) : Int)) := hA 2 (by simp)
 clear hA
 refine seq_any fun K4 hK4 => one_reg (op_box (cs := [(Value.int .i64 ((lim : Nat) : Int))]) (ev_base hN rfl s2) rfl ?_)
 intro w5 b7 lo_b7 hi_b7 hB11 E10
 have z_w5 := E10.size
 have hx := hx.keep0 E10
 have hxr := hxr.keep0 E10
 have hb := below_step0 hb E10 hb.size
 refine op_assign rfl ?_
 refine reg_nil (hK4 _ _ (seq_any fun K12 hK12 => seq_any fun K13 hK13 => one_reg (op_move (ev_base hN rfl s0) (op_peq_some ptrt23 (ev_hit hN rfl) rfl ?_))))
 refine op_move (ev_hit hN rfl) (g_true (j := 2) (dj := 10) (b := false) rfl rfl rfl (ev_hit hN rfl) ?_)
 refine op_move (ev_base hN rfl s0) (g_true (j := 2) (dj := 10) (b := false) rfl rfl rfl (ev_hit hN rfl) ?_)
 refine op_nil (ev_hit hN rfl) (g_true (j := 2) (dj := 10) (b := false) rfl rfl rfl (ev_hit hN rfl) ?_)
 refine op_field fld88_0 (ev_hit hN rfl) (g_true (j := 2) (dj := 10) (b := false) rfl rfl rfl (ev_hit hN rfl) ?_)
 refine op_load1 (v := (ptr q 0)) one86 (ev_hit hN rfl) (hx.cell rfl) (g_true (j := 2) (dj := 10) (b := false) rfl rfl rfl (ev_hit hN rfl) ?_)
 refine op_peq_some ptrt86 (ev_hit hN rfl) rfl ?_
 refine op_pick_f (ev_hit hN rfl) (ev_hit hN rfl) ?_
 refine op_move (ev_hit hN rfl) (g_true (j := 9) (dj := 17) (b := false) rfl rfl rfl (ev_hit hN rfl) ?_)
 refine op_load1 (v := (Value.int .i64 ((lim : Nat) : Int))) one3 (ev_hit hN rfl) (hB11.cell rfl) (g_true (j := 9) (dj := 17) (b := false) rfl rfl rfl (ev_hit hN rfl) ?_)
 refine op_lss (ev_hit hN rfl) rfl (fun c19 => ?_) (fun c19 => ?_)
 · -- 19T
  exfalso; omega
 · -- 19F
  refine op_pick_f (ev_hit hN rfl) (ev_hit hN rfl) ?_
  refine reg_nil (hK13 _ _ (wp_cond_false (ev_hit hN rfl) ?_))
  refine wp_skip ?_
  refine hK12 _ _ (seq_any fun K14 hK14 => one_reg (op_alloc (cs := [(Value.slice none 0 0)]) zero89 rfl ?_))
  intro w15 b16 lo_b16 hi_b16 hB18 E17
  have z_w15 := E17.size
  have hx := hx.keep0 E17
  have hxr := hxr.keep0 E17
  have hB11 := hB11.keep0 E17
  have hb := below_step0 hb E17 hb.size
  refine reg_nil (hK14 _ _ (seq_any fun K20 hK20 => ?_))
  refine one_reg (op_move (ev_base hN rfl s0) (op_nil (ev_hit hN rfl) (op_field fld88_0 (ev_hit hN rfl) (op_load1 (v := (ptr q 0)) one86 (ev_hit hN rfl) (hx.cell rfl) (op_move (ev_base hN rfl s1) (op_mkfn (cv := [(ptr b16 0), (ptr b7 0)]) ⟨(ev_hit hN rfl), ⟨(ev_hit hN rfl), trivial⟩⟩ ?_))))))
  refine op_fn (vs := [(ptr q 0), xv, (Value.func (.func 79) #[] #[(ptr b16 0), (ptr b7 0)])]) ok78 ⟨(ev_hit hN rfl), ⟨(ev_hit hN rfl), ⟨(ev_hit hN rfl), trivial⟩⟩⟩ (scanAllS h (TreeR.later (B := w.heap.size) hT (Gr.ofBelow hb _) hT.ty.lt hR) hO h6 hT.ty.lt hR hkl hxr (show AccR kS 89 w.heap.size b16 b7 (lim : Int) w15 [] (fun k => k = b16 ∨ k = b7 ∨ Bl (.slice none 0 0) k) from ⟨by omega, by omega, by omega, ⟨_, hB18, Own.nil _ _ _ _, fun _ => Iff.rfl⟩, hB11, fun _ h => (by cases h), List.Pairwise.nil⟩) hb.size (show 0 < lim by omega) hlim (by simpa using hDM)) ?_
  rintro _ w22 ⟨E24, rfl, D2_21, F2_21, hA21, hE21⟩
  have z_w22 := E24.size
  have hb := below_stepG hb E24 hb.size (fun k hk => hk)
  obtain ⟨_, _, _, ⟨ov21, hob21, hOv21, _⟩, _, hks21, hpw9⟩ := hA21
  refine reg_nil (hK20 _ _ (seq_any fun K25 hK25 => one_reg (op_load1 (v := ov21) one89 (ev_hit hN rfl) (hob21.cell rfl) (op_assign (ev_hit hN rfl) ?_))))
  refine reg_nil (hK25 _ _ (wp_ret ?_))
  refine ret1 rfl hd (ev_hit hN rfl) ⟨_, rfl, ?_⟩
  exact ⟨hb, D2_21, hOv21, hks21, by simpa using hE21, hpw9⟩

theorem scanT0A {p : Nat} {m : Int} {xv : Value} {w : World} (hx : Bx w p 101 [.pointer none]) : Ret Try.prog 44 #[(ptr p 0), xv, (Value.int .i64 m)] w (fun v' w' => Below w.heap.size w w' ∧ v' = .slice none 0 0) := by
 have hb := Below.refl w.heap.size w
 refine enter (N := 29) Try.func44 rfl rfl (by simp) fun a0 hN hd hA => ?_
 have s0 : a0.tmps.getD 0 undef = (ptr p 0) := hA 0 (by simp)
 have s2 : a0.tmps.getD 2 undef = (Value.int .i64 m) := hA 2 (by simp)
 clear hA
 refine seq_any fun K3 hK3 => one_reg (op_box (cs := [(Value.int .i64 m)]) (ev_base hN rfl s2) rfl ?_)
 intro w4 b5 lo_b5 hi_b5 hB7 E6
 have z_w4 := E6.size
 have hx := hx.keep0 E6
 have hb := below_step0 hb E6 hb.size
 refine op_assign rfl ?_
 refine reg_nil (hK3 _ _ (seq_any fun K8 hK8 => seq_any fun K9 hK9 => one_reg (op_move (ev_base hN rfl s0) (op_peq_some ptrt34 (ev_hit hN rfl) rfl ?_))))
 refine op_move (ev_hit hN rfl) (g_true (j := 2) (dj := 10) (b := false) rfl rfl rfl (ev_hit hN rfl) ?_)
 refine op_move (ev_base hN rfl s0) (g_true (j := 2) (dj := 10) (b := false) rfl rfl rfl (ev_hit hN rfl) ?_)
 refine op_nil (ev_hit hN rfl) (g_true (j := 2) (dj := 10) (b := false) rfl rfl rfl (ev_hit hN rfl) ?_)
 refine op_field fld101_0 (ev_hit hN rfl) (g_true (j := 2) (dj := 10) (b := false) rfl rfl rfl (ev_hit hN rfl) ?_)
 refine op_load1 (v := (Value.pointer none)) one99 (ev_hit hN rfl) (hx.cell rfl) (g_true (j := 2) (dj := 10) (b := false) rfl rfl rfl (ev_hit hN rfl) ?_)
 refine op_peq_none ptrt99 (ev_hit hN rfl) rfl ?_
 refine op_pick_f (ev_hit hN rfl) (ev_hit hN rfl) ?_
 refine op_move (ev_hit hN rfl) (g_false (j := 9) (dj := 17) (b := false) rfl rfl rfl (ev_hit hN rfl) rfl rfl ?_)
 refine g_false (j := 9) (dj := 17) (b := false) rfl rfl rfl (ev_hit hN rfl) rfl rfl ?_
 refine op_pick_t (ev_hit hN rfl) rfl ?_
 refine reg_nil (hK9 _ _ (wp_cond_true (ev_hit hN rfl) ?_))
 refine seq_any fun K10 hK10 => one_reg (op_assign rfl (reg_nil (hK10 _ _ (wp_ret (then_ret ( ?_))))))
 refine ret1 rfl hd (ev_hit hN rfl) ⟨_, rfl, ?_⟩
 exact ⟨hb, rfl⟩

theorem scanT1A {x : List UInt8} {xv : Value} {p q h lim : Nat} {t : Tr (Int × Int) h} {R W : Nat → Prop} {w : World} (hx : Bx w p 101 [ptr q 0]) (hT : TreeR kA R w h q t W) (hO : Ok h t) (h6 : szT h t ≤ 6) (hR : ∀ k, R k → k < w.heap.size) (hkl : ∀ q ∈ toL h t, q.1.length ≤ 1000000000) (hxr : RdC w 0 w.heap.size 1 xv x.length (x.map u8v)) (h1 : 1 ≤ lim) (hlim : lim ≤ 9223372036854775807) (hDM : (toL h t).length ≤ 100000) : Ret Try.prog 44 #[(ptr p 0), xv, (Value.int .i64 ((lim : Nat) : Int))] w (fun v' w' => Below w.heap.size w w' ∧ ∃ D2 : List (DP (Int × Int)), Own w' w.heap.size 109 3 v' D2.length (D2.flatMap cA) ∧ (∀ x9 ∈ D2.map pk, Own w' w.heap.size 5 1 x9.1 x9.2.length (x9.2.map u8v)) ∧ D2.map Prod.snd = (geL x (toL h t)).take lim ∧ (D2.map pk).Pairwise (fun a b => Dj (Bl a.1) (Bl b.1))) := by
 have hb := Below.refl w.heap.size w
 refine enter (N := 29) Try.func44 rfl rfl (by simp) fun a0 hN hd hA => ?_
 have s0 : a0.tmps.getD 0 undef = (ptr p 0) := hA 0 (by simp)
 have s1 : a0.tmps.getD 1 undef = xv := hA 1 (by simp)
 have s2 : a0.tmps.getD 2 undef = (Value.int .i64 ((lim : Nat) : Int)) := hA 2 (by simp)
 clear hA
 refine seq_any fun K4 hK4 => one_reg (op_box (cs := [(Value.int .i64 ((lim : Nat) : Int))]) (ev_base hN rfl s2) rfl ?_)
 intro w5 b7 lo_b7 hi_b7 hB11 E10
 have z_w5 := E10.size
 have hx := hx.keep0 E10
 have hxr := hxr.keep0 E10
 have hb := below_step0 hb E10 hb.size
 refine op_assign rfl ?_
 refine reg_nil (hK4 _ _ (seq_any fun K12 hK12 => seq_any fun K13 hK13 => one_reg (op_move (ev_base hN rfl s0) (op_peq_some ptrt34 (ev_hit hN rfl) rfl ?_))))
 refine op_move (ev_hit hN rfl) (g_true (j := 2) (dj := 10) (b := false) rfl rfl rfl (ev_hit hN rfl) ?_)
 refine op_move (ev_base hN rfl s0) (g_true (j := 2) (dj := 10) (b := false) rfl rfl rfl (ev_hit hN rfl) ?_)
 refine op_nil (ev_hit hN rfl) (g_true (j := 2) (dj := 10) (b := false) rfl rfl rfl (ev_hit hN rfl) ?_)
 refine op_field fld101_0 (ev_hit hN rfl) (g_true (j := 2) (dj := 10) (b := false) rfl rfl rfl (ev_hit hN rfl) ?_)
 refine op_load1 (v := (ptr q 0)) one99 (ev_hit hN rfl) (hx.cell rfl) (g_true (j := 2) (dj := 10) (b := false) rfl rfl rfl (ev_hit hN rfl) ?_)
 refine op_peq_some ptrt99 (ev_hit hN rfl) rfl ?_
 refine op_pick_f (ev_hit hN rfl) (ev_hit hN rfl) ?_
 refine op_move (ev_hit hN rfl) (g_true (j := 9) (dj := 17) (b := false) rfl rfl rfl (ev_hit hN rfl) ?_)
 refine op_load1 (v := (Value.int .i64 ((lim : Nat) : Int))) one3 (ev_hit hN rfl) (hB11.cell rfl) (g_true (j := 9) (dj := 17) (b := false) rfl rfl rfl (ev_hit hN rfl) ?_)
 refine op_lss (ev_hit hN rfl) rfl (fun c19 => ?_) (fun c19 => ?_)
 · -- 19T
  exfalso; omega
 · -- 19F
  refine op_pick_f (ev_hit hN rfl) (ev_hit hN rfl) ?_
  refine reg_nil (hK13 _ _ (wp_cond_false (ev_hit hN rfl) ?_))
  refine wp_skip ?_
  refine hK12 _ _ (seq_any fun K14 hK14 => one_reg (op_alloc (cs := [(Value.slice none 0 0)]) zero102 rfl ?_))
  intro w15 b16 lo_b16 hi_b16 hB18 E17
  have z_w15 := E17.size
  have hx := hx.keep0 E17
  have hxr := hxr.keep0 E17
  have hB11 := hB11.keep0 E17
  have hb := below_step0 hb E17 hb.size
  refine reg_nil (hK14 _ _ (seq_any fun K20 hK20 => ?_))
  refine one_reg (op_move (ev_base hN rfl s0) (op_nil (ev_hit hN rfl) (op_field fld101_0 (ev_hit hN rfl) (op_load1 (v := (ptr q 0)) one99 (ev_hit hN rfl) (hx.cell rfl) (op_move (ev_base hN rfl s1) (op_mkfn (cv := [(ptr b16 0), (ptr b7 0)]) ⟨(ev_hit hN rfl), ⟨(ev_hit hN rfl), trivial⟩⟩ ?_))))))
  refine op_fn (vs := [(ptr q 0), xv, (Value.func (.func 77) #[] #[(ptr b16 0), (ptr b7 0)])]) ok76 ⟨(ev_hit hN rfl), ⟨(ev_hit hN rfl), ⟨(ev_hit hN rfl), trivial⟩⟩⟩ (scanAllA h (TreeR.later (B := w.heap.size) hT (Gr.ofBelow hb _) hT.ty.lt hR) hO h6 hT.ty.lt hR hkl hxr (show AccR kA 102 w.heap.size b16 b7 (lim : Int) w15 [] (fun k => k = b16 ∨ k = b7 ∨ Bl (.slice none 0 0) k) from ⟨by omega, by omega, by omega, ⟨_, hB18, Own.nil _ _ _ _, fun _ => Iff.rfl⟩, hB11, fun _ h => (by cases h), List.Pairwise.nil⟩) hb.size (show 0 < lim by omega) hlim (by simpa using hDM)) ?_
  rintro _ w22 ⟨E23, rfl, D2_21, F2_21, hA21, hE21⟩
  have z_w22 := E23.size
  have hb := below_stepG hb E23 hb.size (fun k hk => hk)
  obtain ⟨_, _, _, ⟨ov21, hob21, hOv21, _⟩, _, hks21, hpw9⟩ := hA21
  refine reg_nil (hK20 _ _ (seq_any fun K24 hK24 => one_reg (op_load1 (v := ov21) one102 (ev_hit hN rfl) (hob21.cell rfl) (op_assign (ev_hit hN rfl) ?_))))
  refine reg_nil (hK24 _ _ (wp_ret ?_))
  refine ret1 rfl hd (ev_hit hN rfl) ⟨_, rfl, ?_⟩
  exact ⟨hb, D2_21, hOv21, hks21, by simpa using hE21, hpw9⟩

theorem scanT2I {p q : Nat} {m : Int} {xv : Value} {w : World} (hx : Bx w p 71 [ptr q 0]) (hm : m < 1) : Ret Try.prog 24 #[(ptr p 0), xv, (Value.int .i64 m)] w (fun v' w' => Below w.heap.size w w' ∧ v' = .slice none 0 0) := by
 have hb := Below.refl w.heap.size w
 refine enter (N := 29) Try.func24 rfl rfl (by simp) fun a0 hN hd hA => ?_
 have s0 : a0.tmps.getD 0 undef = (ptr p 0) := hA 0 (by simp)
 have s2 : a0.tmps.getD 2 undef = (Value.int .i64 m) := hA 2 (by simp)
 clear hA
 refine seq_any fun K4 hK4 => one_reg (op_box (cs := [(Value.int .i64 m)]) (ev_base hN rfl s2) rfl ?_)
 intro w5 b6 lo_b6 hi_b6 hB8 E7
 have z_w5 := E7.size
 have hx := hx.keep0 E7
 have hb := below_step0 hb E7 hb.size
 refine op_assign rfl ?_
 refine reg_nil (hK4 _ _ (seq_any fun K9 hK9 => seq_any fun K10 hK10 => one_reg (op_move (ev_base hN rfl s0) (op_peq_some ptrt45 (ev_hit hN rfl) rfl ?_))))
 refine op_move (ev_hit hN rfl) (g_true (j := 2) (dj := 10) (b := false) rfl rfl rfl (ev_hit hN rfl) ?_)
 refine op_move (ev_base hN rfl s0) (g_true (j := 2) (dj := 10) (b := false) rfl rfl rfl (ev_hit hN rfl) ?_)
 refine op_nil (ev_hit hN rfl) (g_true (j := 2) (dj := 10) (b := false) rfl rfl rfl (ev_hit hN rfl) ?_)
 refine op_field fld71_0 (ev_hit hN rfl) (g_true (j := 2) (dj := 10) (b := false) rfl rfl rfl (ev_hit hN rfl) ?_)
 refine op_load1 (v := (ptr q 0)) one69 (ev_hit hN rfl) (hx.cell rfl) (g_true (j := 2) (dj := 10) (b := false) rfl rfl rfl (ev_hit hN rfl) ?_)
 refine op_peq_some ptrt69 (ev_hit hN rfl) rfl ?_
 refine op_pick_f (ev_hit hN rfl) (ev_hit hN rfl) ?_
 refine op_move (ev_hit hN rfl) (g_true (j := 9) (dj := 17) (b := false) rfl rfl rfl (ev_hit hN rfl) ?_)
 refine op_load1 (v := (Value.int .i64 m)) one3 (ev_hit hN rfl) (hB8.cell rfl) (g_true (j := 9) (dj := 17) (b := false) rfl rfl rfl (ev_hit hN rfl) ?_)
 refine op_lss (ev_hit hN rfl) rfl (fun c19 => ?_) (fun c19 => ?_)
 · -- 19T
  refine op_pick_f (ev_hit hN rfl) (ev_hit hN rfl) ?_
  refine reg_nil (hK10 _ _ (wp_cond_true (ev_hit hN rfl) ?_))
  refine seq_any fun K11 hK11 => one_reg (op_assign rfl (reg_nil (hK11 _ _ (wp_ret (then_ret ( ?_))))))
  refine ret1 rfl hd (ev_hit hN rfl) ⟨_, rfl, ?_⟩
  exact ⟨hb, rfl⟩
 · -- 19F
  exfalso; omega

theorem scanT2S {p q : Nat} {m : Int} {xv : Value} {w : World} (hx : Bx w p 88 [ptr q 0]) (hm : m < 1) : Ret Try.prog 46 #[(ptr p 0), xv, (Value.int .i64 m)] w (fun v' w' => Below w.heap.size w w' ∧ v' = .slice none 0 0) := by
 have hb := Below.refl w.heap.size w
 refine enter (N := 29) Try.func46 rfl rfl (by simp) fun a0 hN hd hA => ?_
 have s0 : a0.tmps.getD 0 undef = (ptr p 0) := hA 0 (by simp)
 have s2 : a0.tmps.getD 2 undef = (Value.int .i64 m) := hA 2 (by simp)
 clear hA
 refine seq_any fun K4 hK4 => one_reg (op_box (cs := [(Value.int .i64 m)]) (ev_base hN rfl s2) rfl ?_)
 intro w5 b6 lo_b6 hi_b6 hB8 E7
 have z_w5 := E7.size
 have hx := hx.keep0 E7
 have hb := below_step0 hb E7 hb.size
 refine op_assign rfl ?_
 refine reg_nil (hK4 _ _ (seq_any fun K9 hK9 => seq_any fun K10 hK10 => one_reg (op_move (ev_base hN rfl s0) (op_peq_some ptrt23 (ev_hit hN rfl) rfl ?_))))
 refine op_move (ev_hit hN rfl) (g_true (j := 2) (dj := 10) (b := false) rfl rfl rfl (ev_hit hN rfl) ?_)
 refine op_move (ev_base hN rfl s0) (g_true (j := 2) (dj := 10) (b := false) rfl rfl rfl (ev_hit hN rfl) ?_)
 refine op_nil (ev_hit hN rfl) (g_true (j := 2) (dj := 10) (b := false) rfl rfl rfl (ev_hit hN rfl) ?_)
 refine op_field fld88_0 (ev_hit hN rfl) (g_true (j := 2) (dj := 10) (b := false) rfl rfl rfl (ev_hit hN rfl) ?_)
 refine op_load1 (v := (ptr q 0)) one86 (ev_hit hN rfl) (hx.cell rfl) (g_true (j := 2) (dj := 10) (b := false) rfl rfl rfl (ev_hit hN rfl) ?_)
 refine op_peq_some ptrt86 (ev_hit hN rfl) rfl ?_
 refine op_pick_f (ev_hit hN rfl) (ev_hit hN rfl) ?_
 refine op_move (ev_hit hN rfl) (g_true (j := 9) (dj := 17) (b := false) rfl rfl rfl (ev_hit hN rfl) ?_)
 refine op_load1 (v := (Value.int .i64 m)) one3 (ev_hit hN rfl) (hB8.cell rfl) (g_true (j := 9) (dj := 17) (b := false) rfl rfl rfl (ev_hit hN rfl) ?_)
 refine op_lss (ev_hit hN rfl) rfl (fun c19 => ?_) (fun c19 => ?_)
 · -- 19T
  refine op_pick_f (ev_hit hN rfl) (ev_hit hN rfl) ?_
  refine reg_nil (hK10 _ _ (wp_cond_true (ev_hit hN rfl) ?_))
  refine seq_any fun K11 hK11 => one_reg (op_assign rfl (reg_nil (hK11 _ _ (wp_ret (then_ret ( ?_))))))
  refine ret1 rfl hd (ev_hit hN rfl) ⟨_, rfl, ?_⟩
  exact ⟨hb, rfl⟩
 · -- 19F
  exfalso; omega

theorem scanT2A {p q : Nat} {m : Int} {xv : Value} {w : World} (hx : Bx w p 101 [ptr q 0]) (hm : m < 1) : Ret Try.prog 44 #[(ptr p 0), xv, (Value.int .i64 m)] w (fun v' w' => Below w.heap.size w w' ∧ v' = .slice none 0 0) := by
 have hb := Below.refl w.heap.size w
 refine enter (N := 29) Try.func44 rfl rfl (by simp) fun a0 hN hd hA => ?_
 have s0 : a0.tmps.getD 0 undef = (ptr p 0) := hA 0 (by simp)
 have s2 : a0.tmps.getD 2 undef = (Value.int .i64 m) := hA 2 (by simp)
 clear hA
 refine seq_any fun K4 hK4 => one_reg (op_box (cs := [(Value.int .i64 m)]) (ev_base hN rfl s2) rfl ?_)
 intro w5 b6 lo_b6 hi_b6 hB8 E7
 have z_w5 := E7.size
 have hx := hx.keep0 E7
 have hb := below_step0 hb E7 hb.size
 refine op_assign rfl ?_
 refine reg_nil (hK4 _ _ (seq_any fun K9 hK9 => seq_any fun K10 hK10 => one_reg (op_move (ev_base hN rfl s0) (op_peq_some ptrt34 (ev_hit hN rfl) rfl ?_))))
 refine op_move (ev_hit hN rfl) (g_true (j := 2) (dj := 10) (b := false) rfl rfl rfl (ev_hit hN rfl) ?_)
 refine op_move (ev_base hN rfl s0) (g_true (j := 2) (dj := 10) (b := false) rfl rfl rfl (ev_hit hN rfl) ?_)
 refine op_nil (ev_hit hN rfl) (g_true (j := 2) (dj := 10) (b := false) rfl rfl rfl (ev_hit hN rfl) ?_)
 refine op_field fld101_0 (ev_hit hN rfl) (g_true (j := 2) (dj := 10) (b := false) rfl rfl rfl (ev_hit hN rfl) ?_)
 refine op_load1 (v := (ptr q 0)) one99 (ev_hit hN rfl) (hx.cell rfl) (g_true (j := 2) (dj := 10) (b := false) rfl rfl rfl (ev_hit hN rfl) ?_)
 refine op_peq_some ptrt99 (ev_hit hN rfl) rfl ?_
 refine op_pick_f (ev_hit hN rfl) (ev_hit hN rfl) ?_
 refine op_move (ev_hit hN rfl) (g_true (j := 9) (dj := 17) (b := false) rfl rfl rfl (ev_hit hN rfl) ?_)
 refine op_load1 (v := (Value.int .i64 m)) one3 (ev_hit hN rfl) (hB8.cell rfl) (g_true (j := 9) (dj := 17) (b := false) rfl rfl rfl (ev_hit hN rfl) ?_)
 refine op_lss (ev_hit hN rfl) rfl (fun c19 => ?_) (fun c19 => ?_)
 · -- 19T
  refine op_pick_f (ev_hit hN rfl) (ev_hit hN rfl) ?_
  refine reg_nil (hK10 _ _ (wp_cond_true (ev_hit hN rfl) ?_))
  refine seq_any fun K11 hK11 => one_reg (op_assign rfl (reg_nil (hK11 _ _ (wp_ret (then_ret ( ?_))))))
  refine ret1 rfl hd (ev_hit hN rfl) ⟨_, rfl, ?_⟩
  exact ⟨hb, rfl⟩
 · -- 19F
  exfalso; omega

end Go.Proofs.Ytcpfdfejojghbaa

/- Walks, written by a program: what each function of the translation hands back. -/
namespace Go.Proofs.Ytcpfdfejojghbaa
open Go.Gx Go.RowKit
attribute [local irreducible] wpList wpStill Code.wp Calls
open Go.Bt
theorem scanTopI {o : TO (Int)} {F : Nat → Prop} {x : List UInt8} {xv : Value} {p base : Nat} {m : Int} {w : World} (hT : TopR kI 71 base w p o F) (hkl : ∀ q ∈ toLO o, q.1.length ≤ 1000000000) (hxr : RdC w 0 w.heap.size 1 xv x.length (x.map u8v)) (hm : m ≤ 9223372036854775807) (hDM : (toLO o).length ≤ 100000) :
    Ret Try.prog 24 #[ptr p 0, xv, .int .i64 m] w (fun v' w' => Below w.heap.size w w' ∧ ∃ D2 : List (DP (Int)), Own w' w.heap.size 51 2 v' D2.length (D2.flatMap cI) ∧ (∀ x9 ∈ D2.map pk, Own w' w.heap.size 5 1 x9.1 x9.2.length (x9.2.map u8v)) ∧ D2.map Prod.snd = (geL x (toLO o)).take m.toNat ∧ (D2.map pk).Pairwise (fun a b => Dj (Bl a.1) (Bl b.1))) := by
  obtain ⟨hF, hlt, hO, root, hB', hr⟩ := hT
  rcases hr with ⟨rfl, rfl⟩ | ⟨q, R, W, rfl, hTO, hFW, hFR⟩
  · exact (scanT0I hB').mono fun v' w' h => by
      obtain ⟨hb, rfl⟩ := h
      exact ⟨hb, [], Own.nil _ _ _ _, fun _ h => (by cases h), by simp [toLO, geL], List.Pairwise.nil⟩
  · match o, hO, hTO, hkl, hDM with
    | some ⟨h, t⟩, hO, hTO, hkl, hDM =>
      rcases (by omega : m < 1 ∨ 1 ≤ m) with h1 | h1
      · exact (scanT2I hB' h1).mono fun v' w' h => by
          obtain ⟨hb, rfl⟩ := h
          exact ⟨hb, [], Own.nil _ _ _ _, fun _ h => (by cases h), by rw [show m.toNat = 0 by omega]; simp, List.Pairwise.nil⟩
      · obtain ⟨lim, rfl⟩ : ∃ lim : Nat, m = (lim : Int) := ⟨m.toNat, by omega⟩
        exact scanT1I hB' hTO hO.1 hO.2.2 (fun k hk => (hlt k (hFR k hk)).2) hkl hxr (by omega) (by omega) hDM
theorem scanTopS {o : TO (List UInt8)} {F : Nat → Prop} {x : List UInt8} {xv : Value} {p base : Nat} {m : Int} {w : World} (hT : TopR kS 88 base w p o F) (hkl : ∀ q ∈ toLO o, q.1.length ≤ 1000000000) (hxr : RdC w 0 w.heap.size 1 xv x.length (x.map u8v)) (hm : m ≤ 9223372036854775807) (hDM : (toLO o).length ≤ 100000) :
    Ret Try.prog 46 #[ptr p 0, xv, .int .i64 m] w (fun v' w' => Below w.heap.size w w' ∧ ∃ D2 : List (DP (List UInt8)), Own w' w.heap.size 98 2 v' D2.length (D2.flatMap cS) ∧ (∀ x9 ∈ D2.map pk, Own w' w.heap.size 5 1 x9.1 x9.2.length (x9.2.map u8v)) ∧ D2.map Prod.snd = (geL x (toLO o)).take m.toNat ∧ (D2.map pk).Pairwise (fun a b => Dj (Bl a.1) (Bl b.1))) := by
  obtain ⟨hF, hlt, hO, root, hB', hr⟩ := hT
  rcases hr with ⟨rfl, rfl⟩ | ⟨q, R, W, rfl, hTO, hFW, hFR⟩
  · exact (scanT0S hB').mono fun v' w' h => by
      obtain ⟨hb, rfl⟩ := h
      exact ⟨hb, [], Own.nil _ _ _ _, fun _ h => (by cases h), by simp [toLO, geL], List.Pairwise.nil⟩
  · match o, hO, hTO, hkl, hDM with
    | some ⟨h, t⟩, hO, hTO, hkl, hDM =>
      rcases (by omega : m < 1 ∨ 1 ≤ m) with h1 | h1
      · exact (scanT2S hB' h1).mono fun v' w' h => by
          obtain ⟨hb, rfl⟩ := h
          exact ⟨hb, [], Own.nil _ _ _ _, fun _ h => (by cases h), by rw [show m.toNat = 0 by omega]; simp, List.Pairwise.nil⟩
      · obtain ⟨lim, rfl⟩ : ∃ lim : Nat, m = (lim : Int) := ⟨m.toNat, by omega⟩
        exact scanT1S hB' hTO hO.1 hO.2.2 (fun k hk => (hlt k (hFR k hk)).2) hkl hxr (by omega) (by omega) hDM
theorem scanTopA {o : TO (Int × Int)} {F : Nat → Prop} {x : List UInt8} {xv : Value} {p base : Nat} {m : Int} {w : World} (hT : TopR kA 101 base w p o F) (hkl : ∀ q ∈ toLO o, q.1.length ≤ 1000000000) (hxr : RdC w 0 w.heap.size 1 xv x.length (x.map u8v)) (hm : m ≤ 9223372036854775807) (hDM : (toLO o).length ≤ 100000) :
    Ret Try.prog 44 #[ptr p 0, xv, .int .i64 m] w (fun v' w' => Below w.heap.size w w' ∧ ∃ D2 : List (DP (Int × Int)), Own w' w.heap.size 109 3 v' D2.length (D2.flatMap cA) ∧ (∀ x9 ∈ D2.map pk, Own w' w.heap.size 5 1 x9.1 x9.2.length (x9.2.map u8v)) ∧ D2.map Prod.snd = (geL x (toLO o)).take m.toNat ∧ (D2.map pk).Pairwise (fun a b => Dj (Bl a.1) (Bl b.1))) := by
  obtain ⟨hF, hlt, hO, root, hB', hr⟩ := hT
  rcases hr with ⟨rfl, rfl⟩ | ⟨q, R, W, rfl, hTO, hFW, hFR⟩
  · exact (scanT0A hB').mono fun v' w' h => by
      obtain ⟨hb, rfl⟩ := h
      exact ⟨hb, [], Own.nil _ _ _ _, fun _ h => (by cases h), by simp [toLO, geL], List.Pairwise.nil⟩
  · match o, hO, hTO, hkl, hDM with
    | some ⟨h, t⟩, hO, hTO, hkl, hDM =>
      rcases (by omega : m < 1 ∨ 1 ≤ m) with h1 | h1
      · exact (scanT2A hB' h1).mono fun v' w' h => by
          obtain ⟨hb, rfl⟩ := h
          exact ⟨hb, [], Own.nil _ _ _ _, fun _ h => (by cases h), by rw [show m.toNat = 0 by omega]; simp, List.Pairwise.nil⟩
      · obtain ⟨lim, rfl⟩ : ∃ lim : Nat, m = (lim : Int) := ⟨m.toNat, by omega⟩
        exact scanT1A hB' hTO hO.1 hO.2.2 (fun k hk => (hlt k (hFR k hk)).2) hkl hxr (by omega) (by omega) hDM
end Go.Proofs.Ytcpfdfejojghbaa

/- Two neighbouring kids: cut out, put back, joined; how a node lends and joins, plainly. -/
namespace Go.Gx
open Go.Bt Go.RowKit
section
variable {α : Type} {A : Nat → α → (Nat → Prop) → Prop} {ys9 : List α} {a b c d : α} {i : Nat} {P : List Nat} {G G0 f g : Nat → Prop}
end
end Go.Gx
namespace Go.Bt
section
variable {V : Type} {h i : Nat} {ks : List Ky} {cs : List (Tr V h)} {a b c : Tr V h}
end
end Go.Bt
namespace Go.Gx
open Go.Bt Go.RowKit
section
variable {V : Type} [Inhabited V] {h i : Nat} {K Ka Kb : List DK} {D Da Db : List (DP V)} {cs ta tb : List (Tr V h)} {w : World} {R : Nat → Prop}
end
section
variable {V : Type} {h i : Nat} {K Ka Kb : List DK} {D Da Db : List (DP V)} {cs ta tb : List (Tr V h)} {w : World} {R : Nat → Prop}
/-! blocks of unlike types are not the same -/
end
end Go.Gx

/- Small laws for walks, the forty-second part: where an element lies, told ahead; nothing appended to nothing. -/
namespace Go.Gx
open Go.RowKit
section
variable {P : Program} {Q : Exit → Act → World → Prop} {a : Act} {w w' w9 : World} {l : List (Nat × Value)} {ops : Array Oper} {rest : List Oper}
variable {d ty t e xt yt tx i : Nat} {p : String} {af : Array Edge} {x y : Operand} {v : Value} {k : IntKind} {n base sz by_ b o : Nat} {cs ws : List Value} {zv : Value} {r : Int}
theorem op_conv_bytes (ht : P.underlying t = some (.slice e)) (he : P.underlying e = some (.int .u8)) (hx : (putsL a l).eval x = .slice (some ⟨b, 0, none⟩) n n) (B : Bx w b e cs) (hl : cs.length = n) (hm : n ≤ maxLen) (hbase : base ≤ b)
    (h : ∀ w', Own w' base e 1 (.slice (some ⟨b, 0, none⟩) n n) n cs → w.grownBy w' (some b) → wpList P ops Q rest (putsL a ((d, .slice (some ⟨b, 0, none⟩) n n) :: l)) w') :
    wpList P ops Q (⟨some d, .convert t t x, ty, p, af, none⟩ :: rest) (putsL a l) w := by
  have hsh : w.shape? b = some (e, n) := by rw [← hl]; exact Bx.shape B
  have hr : (convert t t (.slice (some ⟨b, 0, none⟩) n n)).run P w = .ok (.slice (some ⟨b, 0, none⟩) n n) (w.freeze ⟨b, n, none⟩ 1) := by
    simp [convert, run_underlying ht, run_underlying he, markStringish, hsh]
  have B' : w.heap[b]? = some (.cells cs.toArray e (0, 0)) := B
  have hne : (1 : Nat) ≠ 0 := by decide
  refine op_gen (v := .slice (some ⟨b, 0, none⟩) n n) rfl (by simp only [execOp, hx, Sem.run_bind, hr, Result.andThen_ok, Sem.run_pure]; rfl) (h _ ?_ ?_)
  · refine ⟨by omega, .inr ⟨b, 0, n, cs.toArray, (n, n + 1), rfl, hbase, ?_, ?_, Nat.le_refl _, hm, ?_, ?_⟩⟩
    · unfold World.freeze
      rw [if_neg hne]
      show (w.heap.modify b _)[b]? = _
      rw [Array.getElem?_modify, if_pos rfl, B']
      rfl
    · intro j hj; simp at hj ⊢; omega
    · simp; omega
    · simp [← hl]
  · refine ⟨?_, ?_, ?_, ?_, fun k hk hn => ?_⟩
    · unfold World.freeze; rw [if_neg hne]
    · unfold World.freeze; rw [if_neg hne]
    · unfold World.freeze; rw [if_neg hne]
    · unfold World.freeze; rw [if_neg hne]; simp
    · unfold World.freeze
      rw [if_neg hne]
      show (w.heap.modify b _)[k]? = _
      rw [Array.getElem?_modify, if_neg (fun e => hn (by rw [e]))]
end
end Go.Gx
namespace Go.Gx
open Go.RowKit
section
variable {P : Program} {Q : Exit → Act → World → Prop} {a : Act} {w : World} {l : List (Nat × Value)} {ops : Array Oper} {rest : List Oper} {d ty e xt yt sz by_ : Nat} {p : String} {af : Array Edge} {x y : Operand} {zv : Value}
end
end Go.Gx

/- Walks, written by a program: what each function of the translation hands back. -/
namespace Go.Proofs.Ytcpfdfejojghbaa
open Go.Gx Go.RowKit
attribute [local irreducible] wpList wpStill Code.wp Calls
open Go.Bt
end Go.Proofs.Ytcpfdfejojghbaa

/- Walks, written by a program: what each function of the translation hands back. -/
namespace Go.Proofs.Ytcpfdfejojghbaa
open Go.Gx Go.RowKit
attribute [local irreducible] wpList wpStill Code.wp Calls
open Go.Bt
end Go.Proofs.Ytcpfdfejojghbaa

/- Walks, written by a program: what each function of the translation hands back. -/
namespace Go.Proofs.Ytcpfdfejojghbaa
open Go.Gx Go.RowKit
attribute [local irreducible] wpList wpStill Code.wp Calls
open Go.Bt
end Go.Proofs.Ytcpfdfejojghbaa

/- Walks, written by a program: what each function of the translation hands back. -/
namespace Go.Proofs.Ytcpfdfejojghbaa
open Go.Gx Go.RowKit
attribute [local irreducible] wpList wpStill Code.wp Calls
open Go.Bt
end Go.Proofs.Ytcpfdfejojghbaa

/- Walks, written by a program: what each function of the translation hands back. -/
namespace Go.Proofs.Ytcpfdfejojghbaa
open Go.Gx Go.RowKit
attribute [local irreducible] wpList wpStill Code.wp Calls
open Go.Bt
end Go.Proofs.Ytcpfdfejojghbaa

/- Walks, written by a program: what each function of the translation hands back. -/
namespace Go.Proofs.Ytcpfdfejojghbaa
open Go.Gx Go.RowKit
attribute [local irreducible] wpList wpStill Code.wp Calls
open Go.Bt
end Go.Proofs.Ytcpfdfejojghbaa

/- Walks, written by a program: what each function of the translation hands back. -/
namespace Go.Proofs.Ytcpfdfejojghbaa
open Go.Gx Go.RowKit
attribute [local irreducible] wpList wpStill Code.wp Calls
open Go.Bt
end Go.Proofs.Ytcpfdfejojghbaa

/- Walks, written by a program: what each function of the translation hands back. -/
namespace Go.Proofs.Ytcpfdfejojghbaa
open Go.Gx Go.RowKit
attribute [local irreducible] wpList wpStill Code.wp Calls
open Go.Bt
end Go.Proofs.Ytcpfdfejojghbaa

/- Walks, written by a program: what each function of the translation hands back. -/
namespace Go.Proofs.Ytcpfdfejojghbaa
open Go.Gx Go.RowKit
attribute [local irreducible] wpList wpStill Code.wp Calls
open Go.Bt
end Go.Proofs.Ytcpfdfejojghbaa

/- Dropping a key: leaves, and the root that is no more needed. -/
namespace Go.Gx
open Go.Bt Go.RowKit
section
variable {V : Type} {k : Ky} {D : List (DP V)}
variable {h i : Nat} {K : List DK} {ts : List (Tr V h)} {c : Tr V h}
variable {κ : Kd V} {R R' W F H : Nat → Prop} {w w' : World} {p q : Nat} {o : TO V} {t : Tr V h}
end
end Go.Gx

/- Walks, written by a program: what each function of the translation hands back. -/
namespace Go.Proofs.Ytcpfdfejojghbaa
open Go.Gx Go.RowKit
attribute [local irreducible] wpList wpStill Code.wp Calls
open Go.Bt
end Go.Proofs.Ytcpfdfejojghbaa

/- Walks, written by a program: what each function of the translation hands back. -/
namespace Go.Proofs.Ytcpfdfejojghbaa
open Go.Gx Go.RowKit
attribute [local irreducible] wpList wpStill Code.wp Calls
open Go.Bt
end Go.Proofs.Ytcpfdfejojghbaa

/- Walks, written by a program: what each function of the translation hands back. -/
namespace Go.Proofs.Ytcpfdfejojghbaa
open Go.Gx Go.RowKit
attribute [local irreducible] wpList wpStill Code.wp Calls
open Go.Bt
end Go.Proofs.Ytcpfdfejojghbaa

/- Walks, written by a program: what each function of the translation hands back. -/
namespace Go.Proofs.Ytcpfdfejojghbaa
open Go.Gx Go.RowKit
attribute [local irreducible] wpList wpStill Code.wp Calls
open Go.Bt
end Go.Proofs.Ytcpfdfejojghbaa

/- Walks, written by a program: what each function of the translation hands back. -/
namespace Go.Proofs.Ytcpfdfejojghbaa
open Go.Gx Go.RowKit
attribute [local irreducible] wpList wpStill Code.wp Calls
open Go.Bt
end Go.Proofs.Ytcpfdfejojghbaa
